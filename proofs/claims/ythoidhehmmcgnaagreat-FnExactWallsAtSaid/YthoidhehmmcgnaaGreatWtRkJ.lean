import Derived.Test.YthoidhehmmcgnaaGreatWtRkG
import Derived.Test.YthoidhehmmcgnaaGreatWtNum4
import Derived.RegionTactic
namespace Go.Proofs.YthoidhehmmcgnaaGreat
set_option maxRecDepth 100000
set_option linter.unusedVariables false
set_option linter.unusedSimpArgs false
open Go.RowKit
theorem ACv{a b:Int}(h1:decide (a<0)=decide (b<0))(h2:a.natAbs=b.natAbs):a=b:=by rw[← F9 a,← F9 b,h1,h2]
def D8:Con:={ι:=Nat×Nat,pre:=λi=>nl i.1<=1048576/\nl i.2<=1048576,args:=λi=>[.one (cS (L i.1)),.one (cS (L i.2))],mono:=true,res:=λi=>⟨false,[none],[rcB (decide (i.1=i.2))]⟩}
theorem WF:D8.Ok Tryz.prog 67:=by
 refine fok (X:=⟨tt,[],[],26,[]⟩) mixed AG (CTok.nil _) Tryz.func67 (λ(i:Nat×Nat)=>[(4,.mk 3 (Nat) (λx1=>{tm:=[(0,tX 1),(1,tX 2),(12,tI (nI ((L i.1).length))),(13,tI (nI x1))],en:=[(1,eV (L i.1)),(2,eV (L i.2))]}) (λx1=>x1<=nl i.1/\nl i.1=nl i.2/\AS x1 i.1=AS x1 i.2) (λx1=>nl i.1-x1) (λ_=>[]))]) ?_;rintro⟨a,b⟩ a2;have a2:nl a<=1048576/\nl b<=1048576:=a2;refine AH (q:=let Z2:=(vB false=vB (decide (a=b)));let Z1:=nI ((L a).length);ifB ((Z1 != (nI ((L b).length)))) Z2 ((∃x1:Nat,(x1<=nl a/\nl a=nl b/\AS x1 a=AS x1 b)/\((rf (vI Z1))/\(vI (0:Int)=vI (nI x1))/\(rf (L a))/\(rf (L b))))/\∀x1:Nat,(x1<=nl a/\nl a=nl b/\AS x1 a=AS x1 b)->(ifB ((decide ((nI x1)<Z1))) ((0<=(nI x1)/\(nI x1)<((L a).length:Int))/\((x1<(L a).length)/\((0<=(nI x1)/\(nI x1)<((L b).length:Int))/\((x1<(L b).length)/\(ifB ((((((L a).getD x1 []).getD 0 (.int 0))).n != ((((L b).getD x1 []).getD 0 (.int 0))).n)) Z2 (∃y2:Nat,(y2<=nl a/\nl a=nl b/\AS y2 a=AS y2 b)/\(nl a-y2<nl a-x1)/\((rf (vI Z1))/\(vI (wR ((nI x1)+(1:Int)))=vI (nI y2))/\(rf (L a))/\(rf (L b))))))))) ((vB true=vB (decide (a=b))))))) (by kernel_rfl) ?_;conv=>zeta
 delta ifB vB vI wR nI;have ha:=AJ a;have hb:=AJ b;refine⟨λc1=>?_,λc1=>?_⟩;try simp only[nrm]at c1
 exact congrArg Value.bool (decide_eq_false (λe=>by subst e;omega)).symm;try simp only[nrm]at c1
 refine⟨⟨0,by exact⟨Nat.zero_le _,by omega,rfl⟩,?_⟩,?_⟩;refine⟨rfl,?_,rfl,rfl⟩;rfl;intro (k:Nat) a0;have a0:k<=nl a/\nl a=nl b/\AS k a=AS k b:=a0;refine And.symm ⟨λc9=>?_,λc9=>?_⟩;try simp only[nrm]at c9
 exact congrArg Value.bool (decide_eq_true (WE a0.2.1 (by have:=a0.2.2;rwa [show k=nl a by omega]at this))).symm;try simp only[nrm]at c9
 refine ao (by omega) λo10=>?_;refine ao (by omega) λo11=>?_;refine ao (by omega) λo12=>?_;refine ao (by omega) λo13=>?_;refine⟨λa1=>?_,λa1=>?_⟩;try simp only[nrm]at a1
 rw[L_n,L_n]at a1;exact congrArg Value.bool (decide_eq_false (λe=>a1 (by rw[e]))).symm;try simp only[nrm]at a1
 rw[L_n,L_n]at a1
 refine⟨k+1,by
  exact⟨by omega,a0.2.1,by rw[At,At,a0.2.2,show dgt a k=dgt b k by omega]⟩,by
  omega,?_⟩
 refine⟨rfl,?_,rfl,rfl⟩;exact AU (AB (by omega) (by omega))
def Gl:Con:={ι:=Fr×Fr,pre:=λi=>True,args:=λi=>[dF i.1,dF i.2],mono:=true,res:=λi=>⟨false,[none],[rcB (eqF i.1 i.2)]⟩}
theorem RP:Gl.Ok Tryz.prog 36:=by
 refine fok (X:=⟨tt,[(67,D8)],[],28,[]⟩) mixed AG (CTok.cons WF (CTok.nil _)) Tryz.func36 (λ_=>[]) ?_;rintro⟨r,s⟩ a0;have a0:True:=a0;refine AH (q:=let Z1:=(vB false=vB (eqF r s));ifB (((decide (r.z<0)) == (decide (s.z<0)))) (∃i1:Nat×Nat,[DA.one (cS (L r.z.natAbs)),DA.one (cS (L s.z.natAbs))]=D8.args i1/\D8.pre i1/\(ifB ((decide (i1.1=i1.2))) (∃i2:Nat×Nat,[DA.one (cS (L r.d)),DA.one (cS (L s.d))]=D8.args i2/\D8.pre i2/\((vB (decide (i2.1=i2.2))=vB (eqF r s)))) Z1)) Z1) (by kernel_rfl) ?_;conv=>zeta
 delta ifB vB;have h1:=r.nlz;have h2:=r.nld;have h3:=s.nlz;have h4:=s.nld;refine And.symm ⟨λc1=>?_,λc1=>?_⟩;try simp only[nrm]at c1
 exact congrArg Value.bool (by unfold eqF;rw[decide_eq_false (λe=>c1 (by rw[e]))];rfl);try simp only[nrm]at c1
 refine⟨(r.z.natAbs,s.z.natAbs),by
  rfl,by
  show nl r.z.natAbs<=1048576/\nl s.z.natAbs<=1048576;exact⟨by omega,by omega⟩,?_⟩
 refine And.symm ⟨λc5=>?_,λc5=>?_⟩;try simp only[nrm]at c5
 exact congrArg Value.bool (by unfold eqF;rw[decide_eq_false (λe=>c5 (by rw[e]))];rfl);try simp only[nrm]at c5
 refine⟨(r.d,s.d),by
  rfl,by
  show nl r.d<=1048576/\nl s.d<=1048576;exact⟨by omega,by omega⟩,?_⟩
 exact congrArg Value.bool (by unfold eqF;rw[decide_eq_true (ACv c1 c5)];rfl)
def Do{α:Type}(p:α->Bool)(l:List α):Int:=match l.findIdx? p with|some k=>(k:Int)|none=>-1
theorem Pe{α:Type}{p:α->Bool}{l:List α}{d:α}{k:Nat}(hk:k<l.length)(h:∀j,j<k->p (l.getD j d)=false)(hp:p (l.getD k d)=true):Do p l=(k:Int):=by
 have:l.findIdx? p=some k:=by rw[List.findIdx?_eq_some_iff_getElem];refine⟨hk,?_,λj hj=>?_⟩;simpa[List.getD,hk]using hp;have:=h j hj;simpa[List.getD,show j<l.length by omega]using this
 unfold Do;rw[this]
theorem KU{α:Type}{p:α->Bool}{l:List α}{d:α}(h:∀j,j<l.length->p (l.getD j d)=false):Do p l=-1:=by
 have:l.findIdx? p=none:=by rw[List.findIdx?_eq_none_iff];intro x hx;obtain⟨j,hj,rfl⟩:=List.getElem_of_mem hx;have:=h j hj;simpa[List.getD,hj]using this
 unfold Do;rw[this]
theorem X7{α:Type}(p:α->Bool)(l:List α):decide (Do p l>=0)=l.any p:=by
 unfold Do;cases h:l.findIdx? p with
 |none=>
  rw[List.findIdx?_eq_none_iff]at h;have:l.any p=false:=by rw[List.any_eq_false];intro x hx;rw[h x hx];simp
  rw[this];rfl
 |some k=>rw[List.findIdx?_eq_some_iff_getElem]at h;obtain⟨hk,hp,_⟩:=h;have:l.any p=true:=List.any_eq_true.2 ⟨_,List.getElem_mem hk,hp⟩;rw[this];exact decide_eq_true (show(0:Int)<=(k:Int) by omega)
def FW:Con:={ι:=(List V2),pre:=λi=>True,args:=λi=>[.one (DC.sl 36 [.int,.int] (AZ i))],res:=λi=>⟨false,[none],[rcB (i.all A1)]⟩}
theorem TL:FW.Ok Tryz.prog 137:=IF rfl ⟨_,Tryz.func137,by decide,rfl⟩ (λ_=>Nat.le_of_ble_eq_true rfl) (λ_=>rfl) (λl=>[.im (.bool (l.all A1))]) (λ_=>rfl) (λ_=>rfl) (λi hp w us h=>by have h:RdRow w [.sl 36 [.int,.int]] [.sl (AZ i)] us:=h;obtain⟨v,vs,rfl,h1,h2⟩:=RdRow.cons2 h;obtain⟨-,rfl⟩:=RdRow.nil_inv h2;refine(KT i v w (Rd.vecs h1)).mono ?_;rintro e w' ⟨rfl,hb⟩;exact⟨[Value.bool (i.all A1)],rfl,Own.leaf (Fp.mk_bool _),hb⟩)
end Go.Proofs.YthoidhehmmcgnaaGreat
