import Derived.Test.YtdgmbbjoifneiaaGreatDoorPyExC
import Derived.Test.YtdgmbbjoifneiaaGreatDoorProg
import Derived.KernelRfl
namespace Go.Proofs.YtdgmbbjoifneiaaGreatDoor
set_option linter.unusedVariables false
set_option linter.unusedSimpArgs false
open Go.RowKit
theorem TIok.mk' {P:Program} {t:Nat} {i:TI} (h1:(P.info? t).map (λ i=>(i.size,i.bytes,i.zero.map (·.cells)))=some (i.size,i.bytes,some i.zero.toArray)) (h2:i.d.fits P t) (h3:i.eqn≠0->WJ P t i.eqn:=by intro h;exact absurd rfl h):TIok P t i:=by
 refine ⟨?_,h2,h3⟩
 cases h:P.info? t with
 | none=>rw [h] at h1;cases h1
 | some inf=>
  rw [h] at h1
  simp only [Option.map_some,Option.some.injEq,Prod.mk.injEq] at h1
  exact ⟨inf,rfl,h1.1,h1.2.1,h1.2.2⟩
theorem Ao {P:Program} {t:Nat} {fs:List (Nat×Nat×Nat)} (h:(match P.underlying t with|some (.struct fl)=>some (fl.toList.map (λ f=>(f.offset,f.type)),fl.toList.mapM (λ f=>(P.info? f.type).map λ i=>(f.offset,i.size)))|_=>none)=some (fs.map (λ x=>(x.1,x.2.1)),some (fs.map λ x=>(x.1,x.2.2)))):TD.fits P t (.struct fs):=by
 simp only [TD.fits]
 split at h
 ·rename_i fl hu
  simp only [Option.some.injEq,Prod.mk.injEq] at h
  exact ⟨fl,hu,h.1,h.2⟩
 ·cases h
theorem V3 {P:Program} {t ti:Nat} (h:(match P.underlying t with|some (.struct fl)=>some (fl.toList.map λ f=>(f.offset,f.type,f.name == "_"))|_=>none)=some [(0,ti,false),(1,ti,false)])
  (hi:P.underlying ti=some (.int .i64)) (hs:(P.eqGuardType P.depth t,P.stoodInHeld t)=(false,false)):WJ P t 2:=by
 simp only [Prod.mk.injEq] at hs
 obtain ⟨g1,g2⟩:=hs
 refine ⟨g1,λ w xs ys hx hy=>?_⟩
 split at h
 ·rename_i fl hu
  simp only [Option.some.injEq] at h
  obtain ⟨f0,f1,hfl⟩:∃ f0 f1,fl.toList=[f0,f1]:=by
   have hl:=congrArg List.length h
   simp only [List.length_map,List.length_cons,List.length_nil] at hl
   match hq:fl.toList,hl with
   | [a,b],_=>exact ⟨a,b,rfl⟩
  rw [hfl] at h
  simp only [List.map_cons,List.map_nil,List.cons.injEq,Prod.mk.injEq,and_true] at h
  obtain ⟨⟨a1,a2,a3⟩,b1,b2,b3⟩:=h
  match xs,hx,ys,hy with
  | [x0,x1],_,[y0,y1],_=>
  have hag:(Go.isAgg ti).run P w=.ok false w:=by simp [Go.isAgg,Go.underlying,program,Sem.run,hi]
  have hp0:∀ (u v:Int),(Go.part ti #[Value.int .i64 u,Value.int .i64 v] 0).run P w=.ok (.int .i64 u) w:=by intro u v;simp [Go.part,hag]
  have hp1:∀ (u v:Int),(Go.part ti #[Value.int .i64 u,Value.int .i64 v] 1).run P w=.ok (.int .i64 v) w:=by intro u v;simp [Go.part,hag]
  have he:∀ a b:Int,(Op.equalIn 9999 ti (.int .i64 a) (.int .i64 b)).run P w=.ok (a == b) w:=by
   intro a b
   show (Op.equalIn (9998+1) ti (.int .i64 a) (.int .i64 b)).run P w=_
   rw [Op.equalIn]
   simp only [Sem.run_bind,AN hi,Result.andThen_ok]
   simp
  have n0:¬ f0.name = "_" := by simpa using a3
  have n1:¬ f1.name = "_" := by simpa using b3
  have hfa:fl=#[f0,f1]:=Array.ext' hfl
  show (Op.equalIn (9999+1) t _ _).run P w=_
  rw [Op.equalIn]
  subst hfa
  simp only [Sem.run_bind,AN hu,Result.andThen_ok]
  by_cases e0:x0=y0
  ·by_cases e1:x1=y1
   ·simp [program,Sem.run,g2,n0,n1,a1,a2,b1,b2,hp0,hp1,he,e0,e1]
   ·simp [program,Sem.run,g2,n0,n1,a1,a2,b1,b2,hp0,hp1,he,e0,e1]
  ·simp [program,Sem.run,g2,n0,n1,a1,a2,b1,b2,hp0,hp1,he,e0]
 ·cases h
def tt:TT:=[(2,{ d:=.int .i64,size:=1,bytes:=8,zero:=[.int .i64 0] }),
 (3,{ d:=.int .i64,size:=1,bytes:=8,zero:=[.int .i64 0] }),
 (4,{ d:=.bool,size:=1,bytes:=1,zero:=[.bool false] }),
 (5,{ d:=.int .u8,size:=1,bytes:=1,zero:=[.int .u8 0] }),
 (9,{ d:=.str,size:=1,bytes:=16,zero:=[.string ⟨#[]⟩] }),
 (21,{ d:=.int .i32,size:=1,bytes:=4,zero:=[.int .i32 0] }),
 (22,{ d:=.slice 5,size:=1,bytes:=24,zero:=[.slice none 0 0] }),
 (23,{ d:=.slice 26,size:=1,bytes:=24,zero:=[.slice none 0 0] }),
 (25,{ d:=.struct [(0,3,1),(1,3,1)],size:=2,bytes:=16,zero:=[.int .i64 0,.int .i64 0],eqn:=2 }),
 (26,{ d:=.struct [(0,3,1),(1,3,1)],size:=2,bytes:=16,zero:=[.int .i64 0,.int .i64 0],eqn:=2 }),
 (38,{ d:=.slice 3,size:=1,bytes:=24,zero:=[.slice none 0 0] }),
 (39,{ d:=.struct [(0,4,1),(1,38,1)],size:=2,bytes:=32,zero:=[.bool false,.slice none 0 0] }),
 (40,{ d:=.struct [(0,4,1),(1,38,1)],size:=2,bytes:=32,zero:=[.bool false,.slice none 0 0] }),
 (41,{ d:=.struct [(0,40,2),(2,38,1)],size:=3,bytes:=56,zero:=[.bool false,.slice none 0 0,.slice none 0 0] }),
 (42,{ d:=.struct [(0,40,2),(2,38,1)],size:=3,bytes:=56,zero:=[.bool false,.slice none 0 0,.slice none 0 0] }),
 (43,{ d:=.struct [(0,42,3),(3,42,3)],size:=6,bytes:=112,zero:=[.bool false,.slice none 0 0,.slice none 0 0,.bool false,.slice none 0 0,.slice none 0 0] }),
 (44,{ d:=.struct [(0,42,3),(3,42,3)],size:=6,bytes:=112,zero:=[.bool false,.slice none 0 0,.slice none 0 0,.bool false,.slice none 0 0,.slice none 0 0] }),
 (53,{ d:=.slice 9,size:=1,bytes:=24,zero:=[.slice none 0 0] }),
 (76,{ d:=.slice 23,size:=1,bytes:=24,zero:=[.slice none 0 0] }),
 (78,{ d:=.slice 44,size:=1,bytes:=24,zero:=[.slice none 0 0] }),
 (85,{ d:=.struct [(0,22,1),(1,3,1),(2,3,1)],size:=3,bytes:=40,zero:=[.slice none 0 0,.int .i64 0,.int .i64 0] }),
 (86,{ d:=.struct [(0,22,1),(1,3,1),(2,3,1)],size:=3,bytes:=40,zero:=[.slice none 0 0,.int .i64 0,.int .i64 0] }),
 (87,{ d:=.int .u64,size:=1,bytes:=8,zero:=[.int .u64 0] }),
 (140,{ d:=.struct [(0,5,1),(1,5,1)],size:=2,bytes:=2,zero:=[.int .u8 0,.int .u8 0] }),
 (143,{ d:=.int .u32,size:=1,bytes:=4,zero:=[.int .u32 0] }),
 (146,{ d:=.int .u64,size:=1,bytes:=8,zero:=[.int .u64 0] }),
 (163,{ d:=.struct [(0,9,1)],size:=1,bytes:=16,zero:=[.string ⟨#[]⟩] }),
 (170,{ d:=.float,size:=1,bytes:=8,zero:=[.float .f64 0] })]
theorem mixed:Tryz.prog.follows .mixedOrders=true:=by kernel_rfl
theorem tt2:TIok Tryz.prog 2 { d:=.int .i64,size:=1,bytes:=8,zero:=[.int .i64 0] }:=.mk' (by kernel_rfl) (by show Program.underlying _ _=_;kernel_rfl)
theorem tt3:TIok Tryz.prog 3 { d:=.int .i64,size:=1,bytes:=8,zero:=[.int .i64 0] }:=.mk' (by kernel_rfl) (by show Program.underlying _ _=_;kernel_rfl)
theorem tt4:TIok Tryz.prog 4 { d:=.bool,size:=1,bytes:=1,zero:=[.bool false] }:=.mk' (by kernel_rfl) (by show Program.underlying _ _=_;kernel_rfl)
theorem tt5:TIok Tryz.prog 5 { d:=.int .u8,size:=1,bytes:=1,zero:=[.int .u8 0] }:=.mk' (by kernel_rfl) (by show Program.underlying _ _=_;kernel_rfl)
theorem tt9:TIok Tryz.prog 9 { d:=.str,size:=1,bytes:=16,zero:=[.string ⟨#[]⟩] }:=.mk' (by kernel_rfl) (by show Program.underlying _ _=_;kernel_rfl)
theorem Xb:TIok Tryz.prog 21 { d:=.int .i32,size:=1,bytes:=4,zero:=[.int .i32 0] }:=.mk' (by kernel_rfl) (by show Program.underlying _ _=_;kernel_rfl)
theorem Xc:TIok Tryz.prog 22 { d:=.slice 5,size:=1,bytes:=24,zero:=[.slice none 0 0] }:=.mk' (by kernel_rfl) (by show Program.underlying _ _=_;kernel_rfl)
theorem Xd:TIok Tryz.prog 23 { d:=.slice 26,size:=1,bytes:=24,zero:=[.slice none 0 0] }:=.mk' (by kernel_rfl) (by show Program.underlying _ _=_;kernel_rfl)
theorem Xe:TIok Tryz.prog 25 { d:=.struct [(0,3,1),(1,3,1)],size:=2,bytes:=16,zero:=[.int .i64 0,.int .i64 0],eqn:=2 }:=.mk' (by kernel_rfl) (by exact Ao (by kernel_rfl)) (λ _=>V3 (ti:=3) (by kernel_rfl) (by kernel_rfl) (by kernel_rfl))
theorem Xf:TIok Tryz.prog 26 { d:=.struct [(0,3,1),(1,3,1)],size:=2,bytes:=16,zero:=[.int .i64 0,.int .i64 0],eqn:=2 }:=.mk' (by kernel_rfl) (by exact Ao (by kernel_rfl)) (λ _=>V3 (ti:=3) (by kernel_rfl) (by kernel_rfl) (by kernel_rfl))
theorem Xg:TIok Tryz.prog 38 { d:=.slice 3,size:=1,bytes:=24,zero:=[.slice none 0 0] }:=.mk' (by kernel_rfl) (by show Program.underlying _ _=_;kernel_rfl)
theorem Xh:TIok Tryz.prog 39 { d:=.struct [(0,4,1),(1,38,1)],size:=2,bytes:=32,zero:=[.bool false,.slice none 0 0] }:=.mk' (by kernel_rfl) (by exact Ao (by kernel_rfl))
theorem Xi:TIok Tryz.prog 40 { d:=.struct [(0,4,1),(1,38,1)],size:=2,bytes:=32,zero:=[.bool false,.slice none 0 0] }:=.mk' (by kernel_rfl) (by exact Ao (by kernel_rfl))
theorem Xj:TIok Tryz.prog 41 { d:=.struct [(0,40,2),(2,38,1)],size:=3,bytes:=56,zero:=[.bool false,.slice none 0 0,.slice none 0 0] }:=.mk' (by kernel_rfl) (by exact Ao (by kernel_rfl))
theorem Xk:TIok Tryz.prog 42 { d:=.struct [(0,40,2),(2,38,1)],size:=3,bytes:=56,zero:=[.bool false,.slice none 0 0,.slice none 0 0] }:=.mk' (by kernel_rfl) (by exact Ao (by kernel_rfl))
theorem Xl:TIok Tryz.prog 43 { d:=.struct [(0,42,3),(3,42,3)],size:=6,bytes:=112,zero:=[.bool false,.slice none 0 0,.slice none 0 0,.bool false,.slice none 0 0,.slice none 0 0] }:=.mk' (by kernel_rfl) (by exact Ao (by kernel_rfl))
theorem Xm:TIok Tryz.prog 44 { d:=.struct [(0,42,3),(3,42,3)],size:=6,bytes:=112,zero:=[.bool false,.slice none 0 0,.slice none 0 0,.bool false,.slice none 0 0,.slice none 0 0] }:=.mk' (by kernel_rfl) (by exact Ao (by kernel_rfl))
theorem Xn:TIok Tryz.prog 53 { d:=.slice 9,size:=1,bytes:=24,zero:=[.slice none 0 0] }:=.mk' (by kernel_rfl) (by show Program.underlying _ _=_;kernel_rfl)
theorem Xo:TIok Tryz.prog 76 { d:=.slice 23,size:=1,bytes:=24,zero:=[.slice none 0 0] }:=.mk' (by kernel_rfl) (by show Program.underlying _ _=_;kernel_rfl)
theorem Xp:TIok Tryz.prog 78 { d:=.slice 44,size:=1,bytes:=24,zero:=[.slice none 0 0] }:=.mk' (by kernel_rfl) (by show Program.underlying _ _=_;kernel_rfl)
theorem Xq:TIok Tryz.prog 85 { d:=.struct [(0,22,1),(1,3,1),(2,3,1)],size:=3,bytes:=40,zero:=[.slice none 0 0,.int .i64 0,.int .i64 0] }:=.mk' (by kernel_rfl) (by exact Ao (by kernel_rfl))
theorem Xr:TIok Tryz.prog 86 { d:=.struct [(0,22,1),(1,3,1),(2,3,1)],size:=3,bytes:=40,zero:=[.slice none 0 0,.int .i64 0,.int .i64 0] }:=.mk' (by kernel_rfl) (by exact Ao (by kernel_rfl))
theorem Xs:TIok Tryz.prog 87 { d:=.int .u64,size:=1,bytes:=8,zero:=[.int .u64 0] }:=.mk' (by kernel_rfl) (by show Program.underlying _ _=_;kernel_rfl)
theorem XD:TIok Tryz.prog 140 { d:=.struct [(0,5,1),(1,5,1)],size:=2,bytes:=2,zero:=[.int .u8 0,.int .u8 0] }:=.mk' (by kernel_rfl) (by exact Ao (by kernel_rfl))
theorem XF:TIok Tryz.prog 143 { d:=.int .u32,size:=1,bytes:=4,zero:=[.int .u32 0] }:=.mk' (by kernel_rfl) (by show Program.underlying _ _=_;kernel_rfl)
theorem XG:TIok Tryz.prog 146 { d:=.int .u64,size:=1,bytes:=8,zero:=[.int .u64 0] }:=.mk' (by kernel_rfl) (by show Program.underlying _ _=_;kernel_rfl)
theorem XH:TIok Tryz.prog 163 { d:=.struct [(0,9,1)],size:=1,bytes:=16,zero:=[.string ⟨#[]⟩] }:=.mk' (by kernel_rfl) (by exact Ao (by kernel_rfl))
theorem XI:TIok Tryz.prog 170 { d:=.float,size:=1,bytes:=8,zero:=[.float .f64 0] }:=.mk' (by kernel_rfl) (by show Program.underlying _ _=_;kernel_rfl)
theorem AP:TTok Tryz.prog tt:=(TTok.cons tt2 (TTok.cons tt3 (TTok.cons tt4 (TTok.cons tt5 (TTok.cons tt9 (TTok.cons Xb (TTok.cons Xc (TTok.cons Xd (TTok.cons Xe (TTok.cons Xf (TTok.cons Xg (TTok.cons Xh (TTok.cons Xi (TTok.cons Xj (TTok.cons Xk (TTok.cons Xl (TTok.cons Xm (TTok.cons Xn (TTok.cons Xo (TTok.cons Xp (TTok.cons Xq (TTok.cons Xr (TTok.cons Xs (TTok.cons XD (TTok.cons XF (TTok.cons XG (TTok.cons XH (TTok.cons XI (TTok.nil _)))))))))))))))))))))))))))))
abbrev z85:List Ty:=[.sl 5 [.int],.int,.int]
abbrev z43:List Ty:=[.bool,.sl 3 [.int],.sl 3 [.int],.bool,.sl 3 [.int],.sl 3 [.int]]
abbrev w43 (r:List Dat):DA:=.agg [cB (r.getD 0 (.int 0)).b,cS (r.getD 1 (.int 0)).r,cS (r.getD 2 (.int 0)).r,cB (r.getD 3 (.int 0)).b,cS (r.getD 4 (.int 0)).r,cS (r.getD 5 (.int 0)).r]
end Go.Proofs.YtdgmbbjoifneiaaGreatDoor
