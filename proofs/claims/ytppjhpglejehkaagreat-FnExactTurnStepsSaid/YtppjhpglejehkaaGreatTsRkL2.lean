import Derived.Test.YtppjhpglejehkaaGreatTsRkF
import Derived.Test.YtppjhpglejehkaaGreatTsExD
import Derived.Test.YtppjhpglejehkaaGreatTsTyD
import Derived.Test.YtppjhpglejehkaaGreatTsTyG
namespace Go.Proofs.YtppjhpglejehkaaGreat
set_option linter.unusedVariables false
set_option linter.unusedSimpArgs false
open Go.RowKit
def szVecS_con:Con:={ ι:=(List (List Dat))×Int,pre:=fun i=>Dat.has (.sl 31 [.int,.int]) (.sl i.1)∧0≤i.2∧i.2≤1048576,args:=fun i=>[.one (.sl 23 [.int,.int] i.1),.one (.im (.int .i64 i.2))],res:=fun i=>⟨false,[none],[.im (Value.int .i64 (szR (i.1.length+szRows i.1) i.2))]⟩ }
set_option maxRecDepth 100000 in
theorem szVecS_ok:szVecS_con.Ok Tryz.prog 20:=by
 refine fn_ok (X:=⟨tt,[],[],12⟩) mixed tt_ok (CTok.nil _) Tryz.func20 (by decide) rfl rfl rfl (fun _=>Nat.le_of_ble_eq_true rfl) (fun _=>Nat.le_of_ble_eq_true rfl) (fun _=>[]) ?_
 rintro ⟨l,n⟩ hpre
 have hpre:Dat.has (.sl 31 [.int,.int]) (.sl l)∧0≤n∧n≤1048576:=hpre
 refine by_nf (q:=((decide ((IntKind.i64.wrap (n - ((l.length:Nat):Int))) < (0:Int)))=true→((Value.int .i64 (-1:Int)=Value.int .i64 (szR (l.length+szRows l) n))))∧((decide ((IntKind.i64.wrap (n - ((l.length:Nat):Int))) < (0:Int)))=false→((Value.int .i64 (IntKind.i64.wrap (n - ((l.length:Nat):Int)))=Value.int .i64 (szR (l.length+szRows l) n))))) (by kernel_rfl) ?_
 obtain ⟨hh,h0,h1⟩:=hpre
 have hz:=has_leaf (by decide) hh
 simp only [Dat.has] at hh
 obtain ⟨hl,-⟩:=hh
 have hw:IntKind.i64.wrap (n - (l.length:Int))=n - l.length:=wrap64 (by omega) (by omega)
 refine ⟨fun c1=>?_,fun c1=>?_⟩
 ·skip
  try simp only [nrm] at c1
  refine vint ?_;try rw [hw] at *;grind [szR]
 ·skip
  try simp only [nrm] at c1
  refine vint ?_;try rw [hw] at *;grind [szR]
end Go.Proofs.YtppjhpglejehkaaGreat
