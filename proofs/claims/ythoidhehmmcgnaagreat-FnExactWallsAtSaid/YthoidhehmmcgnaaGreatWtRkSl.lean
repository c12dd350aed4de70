import Derived.Test.YthoidhehmmcgnaaGreatWtRkEv
namespace Go.Proofs.YthoidhehmmcgnaaGreat
set_option linter.unusedVariables false
set_option linter.unusedSimpArgs false
open Go.RowKit
structure Brd where
 l:Fr
 r:Fr
def Brd.lev(x:Brd):Fr:=Fr.add x.l x.r
theorem CY(r:Fr):(L r.z.natAbs).length<=1073741824/\(L r.d).length<=1073741824:=by have h1:=r.nlz;have h2:=r.nld;rw[AJ,AJ];constructor <;> omega
abbrev zB:Brd:=⟨Fr.none,Fr.none⟩
theorem Zf:L zB.l.z.natAbs=[]/\L zB.l.d=[]/\L zB.r.z.natAbs=[]/\L zB.r.d=[]/\L zB.lev.z.natAbs=[]/\L zB.lev.d=[]:=⟨Cj,Cj,Cj,Cj,Cj,Cj⟩
theorem IW{v:List V2}{i:Int}(h:AV v=true){k:Nat}(hk:k<(AO v i).length):((AO v i).getD k noE).ok=true:=
 NE (k:=i) (Aw h).1 v.length (Nat.le_refl _) _ (by rw[show AO v i=BZ v i v.length from rfl]at hk ⊢;simp[List.getD,hk])
end Go.Proofs.YthoidhehmmcgnaaGreat
