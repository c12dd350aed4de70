import Derived.Test.YtdgmbbjoifneiaaGreatDoorPyExA
import Derived.Test.YtdgmbbjoifneiaaGreatDoorProg
import Derived.Lib.LaidTab
namespace Go.Proofs.YtdgmbbjoifneiaaGreatDoor
theorem Dz {w:World} (h:Stood w):∃ m t0 f0 u1 p1 t1 f1 u2 p2 t2 f2 t fr,w.heap[(0:Nat)]?=some (.cells #[.int .i64 m] t0 f0)/\w.heap[(3:Nat)]?=some (.cells #[.iface u1 p1] t1 f1)/\w.heap[(4:Nat)]?=some (.cells #[.iface u2 p2] t2 f2)/\w.heap[(5:Nat)]?=some (.cells (Lib.pow10Tab.map λ z=>Value.int .u64 z).toArray t fr):=by
 obtain ⟨-,m,t0,f0,u1,p1,t1,f1,u2,p2,t2,f2,t,fr,h⟩:=h
 refine ⟨m,t0,f0,u1,p1,t1,f1,u2,p2,t2,f2,t,fr,?_⟩
 simp only [stB,List.map_cons,List.map_nil,List.cons.injEq,and_true] at h
 exact h
theorem LI {w:World} (h:Stood w):Lib.TabIs Tryz.prog w "internal/strconv.uint64pow10" .u64 Lib.pow10Tab:=by
 obtain ⟨m,t0,f0,u1,p1,t1,f1,u2,p2,t2,f2,t,fr,-,-,-,h⟩:=Dz h
 unfold Lib.TabIs World.var?
 rw [show Tryz.prog.globalNamed "internal/strconv.uint64pow10" = some 5 by kernel_rfl]
 simp only [Option.bind_some,h]
theorem RX {w:World} (h:Stood w):∃ u p,w.var? Tryz.prog "strconv.ErrSyntax" = some #[.iface u p]:=by
 obtain ⟨m,t0,f0,u1,p1,t1,f1,u2,p2,t2,f2,t,fr,-,h,-⟩:=Dz h
 refine ⟨u1,p1,?_⟩
 unfold World.var?
 rw [show Tryz.prog.globalNamed "strconv.ErrSyntax" = some 3 by kernel_rfl]
 simp only [Option.bind_some,h]
theorem RY {w:World} (h:Stood w):∃ u p,w.var? Tryz.prog "strconv.ErrRange" = some #[.iface u p]:=by
 obtain ⟨m,t0,f0,u1,p1,t1,f1,u2,p2,t2,f2,t,fr,-,-,h,-⟩:=Dz h
 refine ⟨u2,p2,?_⟩
 unfold World.var?
 rw [show Tryz.prog.globalNamed "strconv.ErrRange" = some 4 by kernel_rfl]
 simp only [Option.bind_some,h]
theorem LJ {w:World} (h:Stood w):∃ m,w.cell? ⟨0,0,none⟩=some (.int .i64 m):=by
 obtain ⟨m,t0,f0,u1,p1,t1,f1,u2,p2,t2,f2,t,fr,h,-⟩:=Dz h
 exact ⟨m,by unfold World.cell?;rw [h];rfl⟩
end Go.Proofs.YtdgmbbjoifneiaaGreatDoor
