import Derived.Test.YthoidhehmmcgnaaGreatWtRkCe
import Derived.Test.YthoidhehmmcgnaaGreatWtSml
import Derived.Test.YthoidhehmmcgnaaGreatWtRkEv
import Derived.Test.YthoidhehmmcgnaaGreatWtSyn
import Derived.Test.YthoidhehmmcgnaaGreatProg
import Derived.Shelf.SlSortCmp.KitK
import Derived.Sort.WalkB2
import Derived.Sort.WalkB12
import Derived.Deep.LoopGhost
namespace Go.Proofs.YthoidhehmmcgnaaGreat
set_option linter.unusedVariables false
set_option linter.unusedSimpArgs false
open Go.Sort
theorem WT{l:List V2}(h:AV l=true){i j:Nat}(hi:i<l.length)(hj:j<l.length)(h1:j≠i)(h2:j≠(i+1)%l.length):0<Ie (l.getD i (0,0)) (l.getD ((i+1)%l.length) (0,0)) (l.getD j (0,0)):=by simp only[AV,Bool.and_eq_true]at h;have h3:=List.all_eq_true.1 h.2 i (List.mem_range.2 hi);have h4:=List.all_eq_true.1 h3 j (List.mem_range.2 hj);unfold Fq at h4;simp only[Bool.or_eq_true,decide_eq_true_eq]at h4;rcases h4 with (h4|h4)|h4;exact absurd h4 h1;exact absurd h4 h2;exact h4
theorem vd{r:Fr}{q:Rat}(h:r.v=some q):r.d≠0:=by rw[Fr.d_some h];exact Rat.den_nz _
theorem Re{n i:Nat}(h:i<n):(i+1)%n=if i+1=n then 0 else i+1:=by split;rename_i e;rw[e,Nat.mod_self];exact Nat.mod_eq_of_lt (by omega)
theorem AB0{e:Edg}(h:e.ok=true):FrS 22 (slp e) (((e.b.2-e.a.2:Int):Rat)/((e.b.1-e.a.1:Int):Rat)):=by have hb:=Edg.bd h;refine⟨RR h,?_⟩;have:=Ta (NS (n:=e.b.2-e.a.2) (k:=11) (by omega)) (NS (n:=e.b.1-e.a.1) (k:=11) (by omega)) (ED (by omega));exact this
theorem ACx{e:Edg}(h:e.ok=true){x:Fr}{p:Rat}(hx:FrS 200 x p):∃q,FrS 244 (hgt e x) q:=by have hb:=Edg.bd h;have h1:=FrS.sub hx (FrS.int (n:=e.a.1) (k:=10) (by omega) (by decide)) (by decide);have h2:=FrS.mul (AB0 h) h1 (by decide);have h3:=FrS.add (FrS.int (n:=e.a.2) (k:=10) (by omega) (by decide)) h2 (by decide);exact⟨_,h3⟩
def YX(c:Nat->Nat->Int)(n:Nat):List Nat->List Nat
 | []=>[n]|x::l=>if c n x<0 then n::x::l else x::YX c n l
def Tb(c:Nat->Nat->Int):Nat->List Nat
 | 0=>[]|n+1=>YX c n (Tb c n)
theorem Kc(c:Nat->Nat->Int)(n:Nat):∀l,(YX c n l).Perm (n::l)
 | []=>List.Perm.refl _|x::l=>by show(if _ then _ else _:List Nat).Perm _;split;exact List.Perm.refl _;exact((Kc c n l).cons x).trans (List.Perm.swap n x l)
theorem LS{c:Nat->Nat->Int}(h:TPre c){n:Nat} : ∀l:List Nat,(∀x ∈ l,x<n)->(l.Pairwise λx y=>ltL c y x=false)->((YX c n l).Pairwise λx y=>ltL c y x=false)
 | [],_,_=>List.pairwise_singleton _ _|x::l,hx,hp=>by
  have W:=h.swo;obtain⟨p1,p2⟩:=List.pairwise_cons.1 hp;have hxn:=hx x (List.mem_cons_self ..);show(if _ then _ else _:List Nat).Pairwise _;split;rename_i a0;have t:ltL c n x=true:=Ps.2 (.inl a0)
  have t2:ltL c x n=false:=by
   cases e:ltL c x n with|false=>rfl|true=>have:=W.trans _ _ _ e t;rw[W.irrefl]at this;cases this
  refine List.pairwise_cons.2 ⟨λy hy=>?_,hp⟩;rcases List.mem_cons.1 hy with rfl|hy;exact t2;exact W.ntrans _ _ _ (p1 y hy) t2;rename_i a0
  have t:ltL c n x=false:=by
   cases e:ltL c n x with|false=>rfl|true=>rcases Ps.1 e with q|q <;> omega
  refine List.pairwise_cons.2 ⟨λy hy=>?_,LS h l (λy hy=>hx y (List.mem_cons_of_mem _ hy)) p2⟩;rcases List.mem_cons.1 ((Kc c n l).mem_iff.1 hy)with rfl|hy;exact t;exact p1 y hy
theorem Kd(c:Nat->Nat->Int):∀n,(Tb c n).Perm (List.range n)
 | 0=>List.Perm.refl _|n+1=>by rw[List.range_succ];exact(Kc c n _).trans (((Kd c n).cons n).trans (List.perm_append_comm (l₁:=[n])))
theorem Uz{c:Nat->Nat->Int}{n x:Nat}(h:x ∈ Tb c n):x<n:=List.mem_range.1 ((Kd c n).mem_iff.1 h)
theorem LU{c:Nat->Nat->Int}(h:TPre c):∀n,(Tb c n).Pairwise λx y=>ltL c y x=false
 | 0=>List.Pairwise.nil|n+1=>LS h _ (λ_ hx=>Uz hx) (LU h n)
theorem Pt{c:Nat->Nat->Int}(h:TPre c)(n:Nat):(G5 c n).Pairwise λx y=>ltL c y x=false:=by
 have W:=h.swo
 have:=List.pairwise_mergeSort (le:=λx y=>!ltL c y x) (λa b d h1 h2=>by
  simp only[Bool.not_eq_true']at *;exact W.ntrans _ _ _ h2 h1) (λa b=>by
  cases e:ltL c b a with
  |false=>simp|true=>
   cases e2:ltL c a b with|false=>simp|true=>have:=W.trans _ _ _ e e2;rw[W.irrefl]at this;cases this) (List.range n)
 exact this.imp λh=>by simpa using h
theorem WU{c:Nat->Nat->Int}(h:TPre c)(n:Nat):Tb c n=G5 c n:=
 List.Perm.eq_of_pairwise (λa b _ _ h1 h2=>Uv h h2 h1) (LU h n) (Pt h n) ((Kd c n).trans (Gs c n).symm)
open Go.RowKit
abbrev AB1(x:Int):Prop:=-9223372036854775808<=x/\x<=9223372036854775807
section
variable {lx ly hx hy : Int} {ls : List (List V2)}
theorem U0(hp:A0 ls=true)(h:lx<hx)(hl:AB1 lx)(hh:AB1 hx):CA (evR lx ly hx hy ls)/\asc (evR lx ly hx hy ls)/\∀x,x ∈ evR lx ly hx hy ls<->x ∈ [Fr.ofInt lx,Fr.ofInt hx]\/x ∈ evF (Fr.ofInt lx) (Fr.ofInt hx) (cA ls ls.length++cE (edA ls) ly hy (edA ls).length):=by unfold evR;rw[if_pos ⟨hp,h⟩];refine IV (NJ _ _ _) (acc:=[Fr.ofInt lx,Fr.ofInt hx]) (λx hx'=>?_) (List.pairwise_cons.2 ⟨λb hb=>?_,List.pairwise_singleton _ _⟩);simp only[List.mem_cons,List.not_mem_nil,or_false]at hx';rcases hx' with rfl|rfl;exact LQ hl;exact LQ hh;simp at hb;subst hb;exact Pn hl hh h
theorem Tc{l:List Fr}(h:asc l){i j:Nat}(a0:i<j)(hj:j<l.length):Fr.cmp (l.getD i Fr.none) (l.getD j Fr.none)<0:=by have:=(List.pairwise_iff_getElem.1 h) i j (by omega) hj a0;simpa[List.getD,hj,show i<l.length by omega]using this
theorem Rf{l:List Fr}{i:Nat}(h:i<l.length):l.getD i Fr.none ∈ l:=by simp[List.getD,h]
end
theorem Pu{e:Edg}(h:e.ok=true):FrS 22 (slp e) (((e.b.2-e.a.2:Int):Rat)/((e.b.1-e.a.1:Int):Rat)):=by have hb:=Edg.bd h;exact⟨RR h,Ta (j:=11) (k:=11) (NS (by omega)) (NS (by omega)) (ED (by omega))⟩
theorem YY{e:Edg}(h:e.ok=true):∃q,FrS 44 (hgt e (Fr.ofInt 0)) q:=by have hb:=Edg.bd h;have h1:=FrS.int (n:=e.a.2) (k:=10) (by omega) (by omega);have h2:=(FrS.int (n:=0) (k:=0) (by omega) (by omega)).sub (FrS.int (n:=e.a.1) (k:=10) (by omega) (by omega)) (by omega);exact⟨_,h1.add ((Pu h).mul h2 (by omega)) (by omega)⟩
theorem ABJ{e f:Edg}(he:e.ok=true)(hf:f.ok=true)(h:C4 e f=true):∃q,FrS 200 (FH e f) q:=by
 rw[NA h];have hg:(GD e f).good=true:=by unfold C4 at h;rw[Bool.and_eq_true]at h;exact h.1
 obtain⟨u,hu⟩:=YY he;obtain⟨v,hv⟩:=YY hf;have h1:=hv.sub hu (by omega);have h2:=(Pu he).sub (Pu hf) (by omega);by_cases h0:((e.b.2-e.a.2:Int):Rat)/((e.b.1-e.a.1:Int):Rat)-((f.b.2-f.a.2:Int):Rat)/((f.b.1-f.a.1:Int):Rat)=0;have:GD e f=Fr.none:=Fr.div_zero h2.1 h0;rw[this]at hg;cases hg;exact⟨_,(h1.div h2 h0 (by omega)).mono (by omega)⟩
theorem YZ{e:Edg}{y:Int}(he:e.ok=true)(h:Bh e y=true):∃q,FrS 200 (CH e y) q:=by
 rw[NB h];have hb:=Edg.bd he;unfold Bh at h;simp only[Bool.and_eq_true,Bool.not_eq_true',decide_eq_false_iff_not,decide_eq_true_eq]at h;obtain⟨hn,⟨hy1,hy2⟩,-⟩:=h;have h0:¬(((e.b.2-e.a.2:Int):Rat)/((e.b.1-e.a.1:Int):Rat))=0:=by have h3:=ED (show e.b.2-e.a.2≠0 by omega);have h4:=ED (show e.b.1-e.a.1≠0 by omega);grind
 have h1:=(FrS.int (n:=y-e.a.2) (k:=11) (by omega) (by omega)).div (Pu he) h0 (by omega);exact⟨_,((FrS.int (n:=e.a.1) (k:=10) (by omega) (by omega)).add h1 (by omega)).mono (by omega)⟩
def AB2(c:Cnd):Prop:=c.2=true->∃q,FrS 200 c.1 q
theorem AAO{ls:List (List V2)}(hp:A0 ls=true):∀k,k<=ls.length->∀c ∈ cA ls k,AB2 c
 | 0,_,c,hc=>by simp[cA]at hc|k+1,hk,c,hc=>by rcases List.mem_append.1 hc with hc|hc;exact AAO hp k (by omega) c hc;unfold cV at hc;obtain⟨v,hv,rfl⟩:=List.mem_map.1 hc;intro _;have hm:=List.mem_of_mem_take hv;have:=CW (List.all_eq_true.1 (Aw (Cp hp (show k<ls.length by omega))).1 v hm);exact⟨_,(FrS.int (n:=v.1) (k:=10) (by omega) (by omega)).mono (by omega)⟩
theorem AAP{es:List Edg}(he:∀e ∈ es,e.ok=true)(ly hy:Int):∀i,i<=es.length->∀c ∈ cE es ly hy i,AB2 c
 | 0,_,c,hc=>by simp[cE]at hc|i+1,hi,c,hc=>by have a0:(es.getD i noE).ok=true:=he _ (by simp[List.getD,show i<es.length by omega]);simp only[cE,List.mem_append]at hc;rcases hc with hc|hc|hc|hc;exact AAP he ly hy i (by omega) c hc;unfold cC at hc;obtain⟨f,hf,rfl⟩:=List.mem_map.1 hc;exact λh=>ABJ a0 (he f (List.mem_of_mem_take (List.mem_of_mem_take hf))) h;simp only[cL,List.mem_singleton]at hc;subst hc;exact λh=>YZ a0 h;simp only[cL,List.mem_singleton]at hc;subst hc;exact λh=>YZ a0 h
theorem Zi{a b:Rat} : LZ a b<0<->a<b:=by unfold LZ;split;exact⟨λ_=>by assumption,λ_=>by omega⟩;split;exact⟨λh=>by omega,λh=>by grind⟩;exact⟨λh=>by omega,λh=>by grind⟩
set_option maxRecDepth 100000
def nAt(m:List (List Dat))(k:Nat):Int:=((m.getD k []).getD 0 (.int 0)).n
theorem Td{r:List Dat}(h:hasRow [.int] r):r=[.int (r.getD 0 (.int 0)).n]:=by
 match r,h with| [.int n],_=>rfl| [.bool _],h=>exact h.1.elim| [.str _],h=>exact h.1.elim| [.sl _],h=>exact h.1.elim
theorem has_int{m:List (List Dat)}(h:Dat.has (.sl 3 [.int]) (.sl m)){k:Nat}(hk:k<m.length):m.getD k []=[.int (nAt m k)]:=Td (h.2 k hk)
theorem Ya{a b:List (List Dat)}(ha:Dat.has (.sl 3 [.int]) (.sl a))(hb:Dat.has (.sl 3 [.int]) (.sl b))(hl:a.length=b.length)(h:∀j,j<a.length->nAt a j=nAt b j):a=b:=by apply List.ext_getElem hl;intro j h1 h2;have e1:=has_int ha h1;have e2:=has_int hb h2;rw[← h j h1]at e2;simp only[List.getD,h1,h2,List.getElem?_eq_getElem,Option.getD_some]at e1 e2;rw[e1,e2]
theorem Oj{P:Nat->Prop}{k:Nat}(h:∀j,j<k->P j)(hk:P k):∀j,j<k+1->P j:=NR h hk
def eqZ(a b:List (List Dat)):Bool:=decide (a.length=b.length) && (List.range a.length).all λj=>decide (nAt a j=nAt b j)
theorem U1{a b:List (List Dat)}(h:a.length≠b.length):eqZ a b=false:=by unfold eqZ;rw[decide_eq_false h];rfl
theorem U2{a b:List (List Dat)}{j:Nat}(hj:j<a.length)(h:nAt a j≠nAt b j):eqZ a b=false:=by unfold eqZ;rw[Bool.and_eq_false_iff];refine .inr ?_;rw[List.all_eq_false];exact⟨j,List.mem_range.2 hj,by simpa using h⟩
theorem U3{a b:List (List Dat)}(hl:a.length=b.length)(h:∀j,j<a.length->nAt a j=nAt b j):eqZ a b=true:=by unfold eqZ;rw[decide_eq_true hl,Bool.true_and,List.all_eq_true];exact λj hj=>decide_eq_true (h j (List.mem_range.1 hj))
theorem U4{a b:List (List Dat)}(ha:Dat.has (.sl 3 [.int]) (.sl a))(hb:Dat.has (.sl 3 [.int]) (.sl b))(h:eqZ a b=true):a=b:=by unfold eqZ at h;rw[Bool.and_eq_true,decide_eq_true_eq,List.all_eq_true]at h;exact Ya ha hb h.1 λj hj=>of_decide_eq_true (h.2 j (List.mem_range.2 hj))
def eqX(r:Fr)(n:Bool)(m d:List (List Dat)):Bool:=(decide (r.z<0) == n) && (eqZ (L r.z.natAbs) m && eqZ (L r.d) d)
abbrev DZ(m d:List (List Dat)):Prop:=(m.length<=1048576/\Dat.has (.sl 3 [.int]) (.sl m))/\d.length<=1048576/\Dat.has (.sl 3 [.int]) (.sl d)
theorem U5{r:Fr}{n:Bool}{m d:List (List Dat)}(ho:DZ m d)(h:eqX r n m d=true):n=decide (r.z<0)/\m=L r.z.natAbs/\d=L r.d:=by unfold eqX at h;simp only[Bool.and_eq_true,beq_iff_eq]at h;have h1:=r.nlz;have h2:=r.nld;exact⟨h.1.symm,(U4 (BP 3 (by omega)) ho.1.2 h.2.1).symm,(U4 (BP 3 (by omega)) ho.2.2 h.2.2).symm⟩
def GG:Con:={ι:=Nat×(List (List Dat)),pre:=λi=>nl i.1<=1048576/\i.2.length<=1048576,args:=λi=>[.one (cS (L i.1)),.one (cS i.2)],res:=λi=>⟨false,[none],[rcB (eqZ (L i.1) i.2)]⟩}
theorem Zj:GG.Ok Tryz.prog 67:=by
 refine fok (X:=⟨tt,[],[],26,[]⟩) mixed AG (CTok.nil _) Tryz.func67 (λ(i:Nat×(List (List Dat)))=>[(4,.mk 3 (Nat) (λx1=>{tm:=[(0,tX 1),(1,tX 2),(12,tI (nI ((L i.1).length))),(13,tI (nI x1))],en:=[(1,eV (L i.1)),(2,eV i.2)]}) (λx1=>x1<=(L i.1).length/\(L i.1).length=i.2.length/\∀j,j<x1->nAt (L i.1) j=nAt i.2 j) (λx1=>(L i.1).length-x1) (λ_=>[]))]) ?_;rintro⟨a,m⟩ a1;have a1:nl a<=1048576/\m.length<=1048576:=a1;refine AH (q:=let Z2:=(vB false=vB (eqZ (L a) m));let Z1:=nI ((L a).length);ifB ((Z1 != (nI m.length))) Z2 ((∃x1:Nat,(x1<=(L a).length/\(L a).length=m.length/\∀j,j<x1->nAt (L a) j=nAt m j)/\((rf (vI Z1))/\(vI (0:Int)=vI (nI x1))/\(rf (L a))/\(rf (m))))/\∀x1:Nat,(x1<=(L a).length/\(L a).length=m.length/\∀j,j<x1->nAt (L a) j=nAt m j)->(ifB ((decide ((nI x1)<Z1))) ((0<=(nI x1)/\(nI x1)<((L a).length:Int))/\((x1<(L a).length)/\((0<=(nI x1)/\(nI x1)<(m.length:Int))/\((x1<m.length)/\(ifB ((((((L a).getD x1 []).getD 0 (.int 0))).n != (((m.getD x1 []).getD 0 (.int 0))).n)) Z2 (∃y2:Nat,(y2<=(L a).length/\(L a).length=m.length/\∀j,j<y2->nAt (L a) j=nAt m j)/\((L a).length-y2<(L a).length-x1)/\((rf (vI Z1))/\(vI (wR ((nI x1)+(1:Int)))=vI (nI y2))/\(rf (L a))/\(rf (m))))))))) ((vB true=vB (eqZ (L a) m)))))) (by kernel_rfl) ?_;conv=>zeta
 delta ifB vB vI wR nI;have ha:=AJ a;refine⟨λc1=>?_,λc1=>?_⟩;simp only[nrm]at c1;have hE:eqZ (L a) m=false:=U1 (by omega);rw[hE];simp only[nrm]at c1;refine⟨⟨0,by exact⟨Nat.zero_le _,by omega,λj h=>absurd h (Nat.not_lt_zero _)⟩,?_⟩,?_⟩;refine⟨rfl,?_,rfl,rfl⟩;rfl;intro (k:Nat) a0;have a0:k<=(L a).length/\(L a).length=m.length/\∀j,j<k->nAt (L a) j=nAt m j:=a0;refine And.symm ⟨λc9=>?_,λc9=>?_⟩;simp only[nrm]at c9;have hE:eqZ (L a) m=true:=U3 a0.2.1 (λj hj=>a0.2.2 j (by omega));rw[hE];simp only[nrm]at c9;have hk:k<(L a).length:=by omega
 refine ao (by omega) λo10=>?_;refine ao (by omega) λo11=>?_;refine ao (by omega) λo12=>?_;refine ao (by omega) λo13=>?_;refine⟨λa2=>?_,λa2=>?_⟩;simp only[nrm]at a2;have hE:eqZ (L a) m=false:=U2 (j:=k) (by omega) (λe=>a2 e);rw[hE];simp only[nrm]at a2;have hN:nAt (L a) k=nAt m k:=a2
 refine⟨k+1,by
  exact⟨by omega,a0.2.1,Oj a0.2.2 (by exact hN)⟩,by
  omega,?_⟩
 refine⟨rfl,?_,rfl,rfl⟩;exact AU (AB (by omega) (by omega))
def Ep:Con:={ι:=Nat×(List (List Dat)),pre:=λi=>nl i.1<=1048576/\i.2.length<=1048576,args:=λi=>[.one (cS (L i.1)),.one (cS i.2)],res:=λi=>⟨false,[none],[rcB (eqZ (L i.1) i.2)]⟩}
theorem Yb:Ep.Ok Tryz.prog 99:=by
 refine fok (X:=⟨tt,[],[],26,[]⟩) mixed AG (CTok.nil _) Tryz.func99 (λ(i:Nat×(List (List Dat)))=>[(4,.mk 3 (Nat) (λx1=>{tm:=[(0,tX 1),(1,tX 2),(12,tI (nI ((L i.1).length))),(13,tI (nI x1))],en:=[(1,eV (L i.1)),(2,eV i.2)]}) (λx1=>x1<=(L i.1).length/\(L i.1).length=i.2.length/\∀j,j<x1->nAt (L i.1) j=nAt i.2 j) (λx1=>(L i.1).length-x1) (λ_=>[]))]) ?_;rintro⟨a,m⟩ a1;have a1:nl a<=1048576/\m.length<=1048576:=a1;refine AH (q:=let Z2:=(vB false=vB (eqZ (L a) m));let Z1:=nI ((L a).length);ifB ((Z1 != (nI m.length))) Z2 ((∃x1:Nat,(x1<=(L a).length/\(L a).length=m.length/\∀j,j<x1->nAt (L a) j=nAt m j)/\((rf (vI Z1))/\(vI (0:Int)=vI (nI x1))/\(rf (L a))/\(rf (m))))/\∀x1:Nat,(x1<=(L a).length/\(L a).length=m.length/\∀j,j<x1->nAt (L a) j=nAt m j)->(ifB ((decide ((nI x1)<Z1))) ((0<=(nI x1)/\(nI x1)<((L a).length:Int))/\((x1<(L a).length)/\((0<=(nI x1)/\(nI x1)<(m.length:Int))/\((x1<m.length)/\(ifB ((((((L a).getD x1 []).getD 0 (.int 0))).n != (((m.getD x1 []).getD 0 (.int 0))).n)) Z2 (∃y2:Nat,(y2<=(L a).length/\(L a).length=m.length/\∀j,j<y2->nAt (L a) j=nAt m j)/\((L a).length-y2<(L a).length-x1)/\((rf (vI Z1))/\(vI (wR ((nI x1)+(1:Int)))=vI (nI y2))/\(rf (L a))/\(rf (m))))))))) ((vB true=vB (eqZ (L a) m)))))) (by kernel_rfl) ?_;conv=>zeta
 delta ifB vB vI wR nI;have ha:=AJ a;refine⟨λc1=>?_,λc1=>?_⟩;simp only[nrm]at c1;have hE:eqZ (L a) m=false:=U1 (by omega);rw[hE];simp only[nrm]at c1;refine⟨⟨0,by exact⟨Nat.zero_le _,by omega,λj h=>absurd h (Nat.not_lt_zero _)⟩,?_⟩,?_⟩;refine⟨rfl,?_,rfl,rfl⟩;rfl;intro (k:Nat) a0;have a0:k<=(L a).length/\(L a).length=m.length/\∀j,j<k->nAt (L a) j=nAt m j:=a0;refine And.symm ⟨λc9=>?_,λc9=>?_⟩;simp only[nrm]at c9;have hE:eqZ (L a) m=true:=U3 a0.2.1 (λj hj=>a0.2.2 j (by omega));rw[hE];simp only[nrm]at c9;have hk:k<(L a).length:=by omega
 refine ao (by omega) λo10=>?_;refine ao (by omega) λo11=>?_;refine ao (by omega) λo12=>?_;refine ao (by omega) λo13=>?_;refine⟨λa2=>?_,λa2=>?_⟩;simp only[nrm]at a2;have hE:eqZ (L a) m=false:=U2 (j:=k) (by omega) (λe=>a2 e);rw[hE];simp only[nrm]at a2;have hN:nAt (L a) k=nAt m k:=a2
 refine⟨k+1,by
  exact⟨by omega,a0.2.1,Oj a0.2.2 (by exact hN)⟩,by
  omega,?_⟩
 refine⟨rfl,?_,rfl,rfl⟩;exact AU (AB (by omega) (by omega))
def Gt:Con:={ι:=Fr×Bool×(List (List Dat))×(List (List Dat)),pre:=λi=>DZ i.2.2.1 i.2.2.2,args:=λi=>[dF i.1,DA.agg [cB i.2.1,cS i.2.2.1,cS i.2.2.2]],res:=λi=>⟨false,[none],[rcB (eqX i.1 i.2.1 i.2.2.1 i.2.2.2)]⟩}
theorem WV:Gt.Ok Tryz.prog 36:=by
 refine fok (X:=⟨tt,[(67,GG)],[],28,[]⟩) mixed AG (CTok.cons Zj (CTok.nil _)) Tryz.func36 (λ_=>[]) ?_;rintro⟨r,n,m,d⟩ a0;have a0:DZ m d:=a0;refine AH (q:=let Z1:=(vB false=vB (eqX r n m d));ifB (((decide (r.z<0)) == n)) (∃i1:Nat×(List (List Dat)),[DA.one (cS (L r.z.natAbs)),DA.one (cS m)]=GG.args i1/\GG.pre i1/\(ifB ((eqZ (L i1.1) i1.2)) (∃i2:Nat×(List (List Dat)),[DA.one (cS (L r.d)),DA.one (cS d)]=GG.args i2/\GG.pre i2/\((vB (eqZ (L i2.1) i2.2)=vB (eqX r n m d)))) Z1)) Z1) (by kernel_rfl) ?_;conv=>zeta
 delta ifB vB;have h1r:=r.nlz;have h2r:=r.nld;have l1r:=AJ r.d;have l2r:=AJ r.z.natAbs;refine And.symm ⟨λc1=>?_,λc1=>?_⟩;simp only[nrm]at c1;exact congrArg Value.bool (by unfold eqX;simp_all);simp only[nrm]at c1
 refine⟨(r.z.natAbs,m),by
  rfl,by
  show nl r.z.natAbs<=1048576/\m.length<=1048576;exact⟨by omega,a0.1.1⟩,?_⟩
 refine And.symm ⟨λc5=>?_,λc5=>?_⟩;simp only[nrm]at c5;exact congrArg Value.bool (by unfold eqX;simp_all);simp only[nrm]at c5
 refine⟨(r.d,d),by
  rfl,by
  show nl r.d<=1048576/\d.length<=1048576;exact⟨by omega,a0.2.1⟩,?_⟩
 exact congrArg Value.bool (by unfold eqX;simp_all)
def Fa:Con:={ι:=Fr×Bool×(List (List Dat))×(List (List Dat)),pre:=λi=>DZ i.2.2.1 i.2.2.2,args:=λi=>[dF i.1,DA.agg [cB i.2.1,cS i.2.2.1,cS i.2.2.2]],res:=λi=>⟨false,[none],[rcB (eqX i.1 i.2.1 i.2.2.1 i.2.2.2)]⟩}
theorem Te:Fa.Ok Tryz.prog 57:=by
 refine fok (X:=⟨tt,[(99,Ep)],[],28,[]⟩) mixed AG (CTok.cons Yb (CTok.nil _)) Tryz.func57 (λ_=>[]) ?_;rintro⟨r,n,m,d⟩ a0;have a0:DZ m d:=a0;refine AH (q:=let Z1:=(vB false=vB (eqX r n m d));ifB (((decide (r.z<0)) == n)) (∃i1:Nat×(List (List Dat)),[DA.one (cS (L r.z.natAbs)),DA.one (cS m)]=Ep.args i1/\Ep.pre i1/\(ifB ((eqZ (L i1.1) i1.2)) (∃i2:Nat×(List (List Dat)),[DA.one (cS (L r.d)),DA.one (cS d)]=Ep.args i2/\Ep.pre i2/\((vB (eqZ (L i2.1) i2.2)=vB (eqX r n m d)))) Z1)) Z1) (by kernel_rfl) ?_;conv=>zeta
 delta ifB vB;have h1r:=r.nlz;have h2r:=r.nld;have l1r:=AJ r.d;have l2r:=AJ r.z.natAbs;refine And.symm ⟨λc1=>?_,λc1=>?_⟩;simp only[nrm]at c1;exact congrArg Value.bool (by unfold eqX;simp_all);simp only[nrm]at c1
 refine⟨(r.z.natAbs,m),by
  rfl,by
  show nl r.z.natAbs<=1048576/\m.length<=1048576;exact⟨by omega,a0.1.1⟩,?_⟩
 refine And.symm ⟨λc5=>?_,λc5=>?_⟩;simp only[nrm]at c5;exact congrArg Value.bool (by unfold eqX;simp_all);simp only[nrm]at c5
 refine⟨(r.d,d),by
  rfl,by
  show nl r.d<=1048576/\d.length<=1048576;exact⟨by omega,a0.2.1⟩,?_⟩
 exact congrArg Value.bool (by unfold eqX;simp_all)
def Jq:Con:={ι:=Fr×Bool×(List (List Dat))×(List (List Dat)),pre:=λi=>DZ i.2.2.1 i.2.2.2,args:=λi=>[dF i.1,.one (.ro (.ptr [.im (Value.bool i.2.1),.sl 3 [.int] i.2.2.1,.sl 3 [.int] i.2.2.2]))],res:=λi=>⟨false,[none],[rcB (eqX i.1 i.2.1 i.2.2.1 i.2.2.2)]⟩}
theorem Zk:Jq.Ok Tryz.prog 66:=by
 refine fok (X:=⟨tt,[(36,Gt)],[],7,[]⟩) mixed AG (CTok.cons WV (CTok.nil _)) Tryz.func66 (λ_=>[]) ?_;rintro⟨r,n,m,d⟩ a0;have a0:DZ m d:=a0;refine AH (q:=∃i1:Fr×Bool×(List (List Dat))×(List (List Dat)),[dF r,DA.agg [cB n,cS m,cS d]]=Gt.args i1/\Gt.pre i1/\((vB (eqX i1.1 i1.2.1 i1.2.2.1 i1.2.2.2)=vB (eqX r n m d)))) (by kernel_rfl) ?_;delta vB
 refine⟨(r,n,m,d),by
  rfl,by
  exact a0,?_⟩
 exact rfl
theorem Rg{P:Nat->Bool}{k:Nat}(h:∀j,j<k->P j=false)(hk:P k=false):∀j,j<k+1->P j=false:=NR h hk
def Gu:Con:={ι:=(List Fr)×Bool×(List (List Dat))×(List (List Dat)),pre:=λi=>i.1.length<=2000000000000/\DZ i.2.2.1 i.2.2.2,args:=λi=>[.one (DC.sl 44 z30 (AC i.1)),.one (.ro (.fn 66 [[.im (Value.bool i.2.1),.sl 3 [.int] i.2.2.1,.sl 3 [.int] i.2.2.2]]))],tag:=67,res:=λi=>⟨false,[none],[rcI (Do (λr=>eqX r i.2.1 i.2.2.1 i.2.2.2) i.1)]⟩}
theorem WW:Gu.Ok Tryz.prog 65:=by
 refine fok (X:=⟨tt,[(66,Jq)],[],19,[]⟩) mixed AG (CTok.cons Zk (CTok.nil _)) Tryz.func65 (λ(i:(List Fr)×Bool×(List (List Dat))×(List (List Dat)))=>[(2,.mk 3 (Nat) (λx1=>{tm:=[(0,tX 1),(1,tX 2),(7,tI (nI ((AC i.1).length))),(8,tI (nI x1))],en:=[(1,.view 44 z30 (AC i.1) []),(2,.ro (.fn 66 [[.im (Value.bool i.2.1),.sl 3 [.int] i.2.2.1,.sl 3 [.int] i.2.2.2]]) [])]}) (λx1=>x1<=i.1.length/\∀j,j<x1->(λr=>eqX r i.2.1 i.2.2.1 i.2.2.2) (i.1.getD j Fr.none)=false) (λx1=>i.1.length-x1) (λ_=>[]))]) ?_;rintro⟨l,n,m,d⟩ a1;have a1:l.length<=2000000000000/\DZ m d:=a1;refine AH (q:=let Z4:=Do (λr=>eqX r n m d) l;let Z2:=nI ((AC l).length);let Z1:=(.fn 66 [[.im (vB n),.sl 3 [.int] m,.sl 3 [.int] d]]:RO)=.fn 66 [[.im (vB n),.sl 3 [.int] m,.sl 3 [.int] d]];(∃x1:Nat,(x1<=l.length/\∀j,j<x1->(λr=>eqX r n m d) (l.getD j Fr.none)=false)/\((rf (vI Z2))/\(vI (0:Int)=vI (nI x1))/\(rf (AC l))/\Z1))/\∀x1:Nat,let Z3:=(AC l).getD x1 [];(x1<=l.length/\∀j,j<x1->(λr=>eqX r n m d) (l.getD j Fr.none)=false)->(ifB ((decide ((nI x1)<Z2))) ((0<=(nI x1)/\(nI x1)<((AC l).length:Int))/\((x1<(AC l).length)/\(∃i1:Fr×Bool×(List (List Dat))×(List (List Dat)),[DA.agg [cB (((Z3.getD 0 (.int 0))).b),cS (((Z3.getD 1 (.int 0))).r),cS (((Z3.getD 2 (.int 0))).r)],DA.one (DC.ro (.ptr [.im (vB n),.sl 3 [.int] m,.sl 3 [.int] d]))]=Jq.args i1/\Jq.pre i1/\(ifB ((eqX i1.1 i1.2.1 i1.2.2.1 i1.2.2.2)) ((vI (nI x1)=vI Z4)) (∃y2:Nat,(y2<=l.length/\∀j,j<y2->(λr=>eqX r n m d) (l.getD j Fr.none)=false)/\(l.length-y2<l.length-x1)/\((rf (vI Z2))/\(vI (wR ((nI x1)+(1:Int)))=vI (nI y2))/\(rf (AC l))/\Z1)))))) ((vI (-1:Int)=vI Z4)))) (by kernel_rfl) ?_;conv=>zeta
 delta ifB vB vI wR nI;have hfl:=Ao l;refine⟨⟨0,by exact⟨Nat.zero_le _,λj hj=>absurd hj (Nat.not_lt_zero j)⟩,?_⟩,?_⟩;refine⟨rfl,?_,rfl,?_⟩;rfl;rfl;intro (k:Nat) a0;have a0:k<=l.length/\∀j,j<k->(λr=>eqX r n m d) (l.getD j Fr.none)=false:=a0;refine And.symm ⟨λc7=>?_,λc7=>?_⟩;simp only[nrm]at c7;rw[KU (d:=Fr.none) (λj hj=>a0.2 j (by omega))];simp only[nrm]at c7;refine ao (by omega) λo8=>?_;refine ao (by omega) λo9=>?_
 refine⟨(l.getD k Fr.none,n,m,d),by
  (rw[B0 (by omega)];rfl),by
  exact a1.2,?_⟩
 refine⟨λa2=>?_,λa2=>?_⟩;simp only[nrm]at a2;rw[Pe (d:=Fr.none) (by omega) a0.2 a2];simp only[nrm]at a2
 refine⟨k+1,by
  exact⟨by omega,Rg a0.2 a2⟩,by
  omega,?_⟩
 refine⟨rfl,?_,rfl,?_⟩;exact AU (AB (by omega) (by omega));rfl
def Gv:Con:={ι:=(List Fr)×Bool×(List (List Dat))×(List (List Dat)),pre:=λi=>i.1.length<=2000000000000/\DZ i.2.2.1 i.2.2.2,args:=λi=>[.one (DC.sl 44 z30 (AC i.1)),DA.agg [cB i.2.1,cS i.2.2.1,cS i.2.2.2]],res:=λi=>⟨false,[none],[rcI (Do (λr=>eqX r i.2.1 i.2.2.1 i.2.2.2) i.1)]⟩}
theorem WX:Gv.Ok Tryz.prog 35:=by
 refine fok (X:=⟨tt,[(65,Gu)],[],8,[]⟩) mixed AG (CTok.cons WW (CTok.nil _)) Tryz.func35 (λ_=>[]) ?_;rintro⟨l,n,m,d⟩ a0;have a0:l.length<=2000000000000/\DZ m d:=a0;refine AH (q:=∃i1:(List Fr)×Bool×(List (List Dat))×(List (List Dat)),[DA.one (DC.sl 44 z30 (AC l)),DA.one (DC.ro (.fn 66 [[.im (vB n),.sl 3 [.int] m,.sl 3 [.int] d]]))]=Gu.args i1/\Gu.pre i1/\((vI (Do (λr=>eqX r i1.2.1 i1.2.2.1 i1.2.2.2) i1.1)=vI (Do (λr=>eqX r n m d) l)))) (by kernel_rfl) ?_;delta vB vI
 refine⟨(l,n,m,d),by
  rfl,by
  exact a0,?_⟩
 exact rfl
def Gw:Con:={ι:=(List Fr)×Bool×(List (List Dat))×(List (List Dat)),pre:=λi=>i.1.length<=2000000000000/\DZ i.2.2.1 i.2.2.2,args:=λi=>[.one (DC.sl 44 z30 (AC i.1)),DA.agg [cB i.2.1,cS i.2.2.1,cS i.2.2.2]],res:=λi=>⟨false,[none],[rcI (Do (λr=>eqX r i.2.1 i.2.2.1 i.2.2.2) i.1)]⟩}
theorem WY:Gw.Ok Tryz.prog 28:=by
 refine fok (X:=⟨tt,[(57,Fa)],[],19,[]⟩) mixed AG (CTok.cons Te (CTok.nil _)) Tryz.func28 (λ(i:(List Fr)×Bool×(List (List Dat))×(List (List Dat)))=>[(2,.mk 5 (Nat) (λx1=>{tm:=[(0,tX 1),(3,tP 2 0),(7,tX 1),(8,tI (nI ((AC i.1).length))),(9,tI (nI x1))],en:=[(2,.box [kB i.2.1,.ext 3,.ext 4]),(1,.view 44 z30 (AC i.1) []),(3,eV i.2.2.1),(4,eV i.2.2.2)]}) (λx1=>x1<=i.1.length/\∀j,j<x1->(λr=>eqX r i.2.1 i.2.2.1 i.2.2.2) (i.1.getD j Fr.none)=false) (λx1=>i.1.length-x1) (λ_=>[]))]) ?_;rintro⟨l,n,m,d⟩ a1;have a1:l.length<=2000000000000/\DZ m d:=a1;refine AH (q:=let Z3:=Do (λr=>eqX r n m d) l;let Z1:=nI ((AC l).length);(∃x1:Nat,(x1<=l.length/\∀j,j<x1->(λr=>eqX r n m d) (l.getD j Fr.none)=false)/\((rf (vI Z1))/\(vI (0:Int)=vI (nI x1))/\(rf (vB n))/\(rf (AC l))/\(rf (m))/\(rf (d))))/\∀x1:Nat,let Z2:=(AC l).getD x1 [];(x1<=l.length/\∀j,j<x1->(λr=>eqX r n m d) (l.getD j Fr.none)=false)->(ifB ((decide ((nI x1)<Z1))) ((0<=(nI x1)/\(nI x1)<((AC l).length:Int))/\((x1<(AC l).length)/\(∃i1:Fr×Bool×(List (List Dat))×(List (List Dat)),[DA.agg [cB (((Z2.getD 0 (.int 0))).b),cS (((Z2.getD 1 (.int 0))).r),cS (((Z2.getD 2 (.int 0))).r)],DA.agg [cB n,cS m,cS d]]=Fa.args i1/\Fa.pre i1/\(ifB ((eqX i1.1 i1.2.1 i1.2.2.1 i1.2.2.2)) ((vI (nI x1)=vI Z3)) (∃y2:Nat,(y2<=l.length/\∀j,j<y2->(λr=>eqX r n m d) (l.getD j Fr.none)=false)/\(l.length-y2<l.length-x1)/\((rf (vI Z1))/\(vI (wR ((nI x1)+(1:Int)))=vI (nI y2))/\(rf (vB n))/\(rf (AC l))/\(rf (m))/\(rf (d)))))))) ((vI (-1:Int)=vI Z3)))) (by kernel_rfl) ?_;conv=>zeta
 delta ifB vB vI wR nI;have hfl:=Ao l;refine⟨⟨0,by exact⟨Nat.zero_le _,λj hj=>absurd hj (Nat.not_lt_zero j)⟩,?_⟩,?_⟩;refine⟨rfl,?_,rfl,rfl,rfl,rfl⟩;rfl;intro (k:Nat) a0;have a0:k<=l.length/\∀j,j<k->(λr=>eqX r n m d) (l.getD j Fr.none)=false:=a0;refine And.symm ⟨λc9=>?_,λc9=>?_⟩;simp only[nrm]at c9;have hE:Do (λr=>eqX r n m d) l=-1:=KU (d:=Fr.none) (λj hj=>a0.2 j (by omega));rw[hE];simp only[nrm]at c9;have hk:k<l.length:=by omega
 refine ao (by omega) λo10=>?_;refine ao (by omega) λo11=>?_
 refine⟨(l.getD k Fr.none,n,m,d),by
  rw[B0 (by omega)];rfl,by
  exact a1.2,?_⟩
 refine⟨λa2=>?_,λa2=>?_⟩;simp only[nrm]at a2;have hE:Do (λr=>eqX r n m d) l=(k:Int):=Pe (d:=Fr.none) hk a0.2 a2;rw[hE];simp only[nrm]at a2
 refine⟨k+1,by
  exact⟨by omega,Rg a0.2 a2⟩,by
  omega,?_⟩
 refine⟨rfl,?_,rfl,rfl,rfl,rfl⟩;exact AU (AB (by omega) (by omega))
theorem AAQ{lx ly hx hy:Int}{ls:List (List V2)}(hp:A0 ls=true)(h:lx<hx)(hl:-9223372036854775808<=lx/\lx<=9223372036854775807)(hh:-9223372036854775808<=hx/\hx<=9223372036854775807):∀x ∈ evR lx ly hx hy ls,∃q,FrS 200 x q:=by
 intro x hm;have hA:=U0 (ly:=ly) (hy:=hy) hp h hl hh;have s0:=FrS.int (n:=lx) (k:=63) (by omega) (by omega);have s9:=FrS.int (n:=hx) (k:=63) (by omega) (by omega);rcases(hA.2.2 _).1 hm with h1|h1;simp only[List.mem_cons,List.not_mem_nil,or_false]at h1;rcases h1 with h1|h1 <;> rw[h1];exact⟨_,s0.mono (by omega)⟩;exact⟨_,s9.mono (by omega)⟩;unfold evF at h1;obtain⟨c,hc,e⟩:=List.mem_map.1 h1;have hc:=List.mem_filter.1 hc;have hb:c.2=true:=by have:=hc.2;unfold evP at this;rw[Bool.and_eq_true]at this;exact this.1
 rw[← e];rcases List.mem_append.1 hc.1 with h3|h3;exact AAO hp _ (Nat.le_refl _) c h3 hb;exact AAP (KX hp _ (Nat.le_refl _)) ly hy _ (Nat.le_refl _) c h3 hb
def slI(ev:List Fr)(n:Bool)(m d:List (List Dat)):Int:=Do (λr=>eqX r n m d) ev
abbrev slA(ev:List Fr)(n:Bool)(m d:List (List Dat)):Fr:=ev.getD (slI ev n m d).toNat Fr.none
abbrev slB(ev:List Fr)(n:Bool)(m d:List (List Dat)):Fr:=ev.getD ((slI ev n m d).toNat+1) Fr.none
def AB3(ev:List Fr)(n:Bool)(m d:List (List Dat))(n2:Bool)(m2 d2:List (List Dat)):Prop:=0<=slI ev n m d/\slI ev n m d+1<(ev.length:Int)/\eqX (slB ev n m d) n2 m2 d2=true
instance (ev:List Fr)(n:Bool)(m d:List (List Dat))(n2:Bool)(m2 d2:List (List Dat)):Decidable (AB3 ev n m d n2 m2 d2):=by unfold AB3;infer_instance
theorem Rh{α:Type}{p:α->Bool}{l:List α}{d:α} : -1<=Do p l/\Do p l<(l.length:Int)/\(0<=Do p l->p (l.getD (Do p l).toNat d)=true):=by
 unfold Do;cases h:l.findIdx? p with|none=>exact⟨Int.le_refl _,by show(-1:Int)<_;omega,λh=>by have h:(0:Int)<=-1:=h;omega⟩|some k=>obtain⟨hk,hp,-⟩:=List.findIdx?_eq_some_iff_getElem.1 h;refine⟨by show(-1:Int)<=(k:Int);omega,by show(k:Int)<_;omega,λ_=>?_⟩;simpa[List.getD,hk]using hp
theorem Ri{lx ly hx hy:Int}{ls:List (List V2)}(h1:ls.length<=1048576)(h2:ER ls ls.length<=1048576):(evR lx ly hx hy ls).length<=1300000000000:=by unfold evR;split;rename_i h;have a0:Pj ls:=⟨h.1,h1,h2⟩;have hb:=(Pk a0 (lo:=Fr.ofInt lx) (hi:=Fr.ofInt hx) (ly:=ly) (hy:=hy) (Nat.le_refl _) 0).2;rw[Ao]at hb;have hp:=Ka (evF (Fr.ofInt lx) (Fr.ofInt hx) (cA ls ls.length++cE (edA ls) ly hy (edA ls).length)) [Fr.ofInt lx,Fr.ofInt hx];simp only[List.length_cons,List.length_nil]at hp;omega;simp
theorem Zl{lx ly hx hy:Int}{ls:List (List V2)}{n:Bool}{m d:List (List Dat)}(hl:-9223372036854775808<=lx/\lx<=9223372036854775807)(hh:-9223372036854775808<=hx/\hx<=9223372036854775807)(h0:0<=slI (evR lx ly hx hy ls) n m d)(h1:slI (evR lx ly hx hy ls) n m d+1<((evR lx ly hx hy ls).length:Int)) :
  A0 ls=true/\∃p q,FrS 200 (slA (evR lx ly hx hy ls) n m d) p/\FrS 200 (slB (evR lx ly hx hy ls) n m d) q/\p<q:=by
 have hc:A0 ls=true/\lx<hx:=by by_cases h:A0 ls=true/\lx<hx;exact h;rw[NN h]at h0 h1;simp at h1;omega
 have hA:=U0 (ly:=ly) (hy:=hy) hc.1 hc.2 hl hh;obtain⟨p,hp⟩:=AAQ (ly:=ly) (hy:=hy) hc.1 hc.2 hl hh _ (Rf (l:=evR lx ly hx hy ls) (i:=(slI (evR lx ly hx hy ls) n m d).toNat) (by omega));obtain⟨q,hq⟩:=AAQ (ly:=ly) (hy:=hy) hc.1 hc.2 hl hh _ (Rf (l:=evR lx ly hx hy ls) (i:=(slI (evR lx ly hx hy ls) n m d).toNat+1) (by omega));have a0:=Tc hA.2.1 (show(slI (evR lx ly hx hy ls) n m d).toNat<(slI (evR lx ly hx hy ls) n m d).toNat+1 by omega) (by omega);rw[hp.cmp hq]at a0;exact⟨hc.1,p,q,hp,hq,Zi.1 a0⟩
open Go.RowKit Go.Sort Go.Shelf Go.Lib
structure StEW(P:Program)(k:Nat):Prop where
 mixed:P.follows .mixedOrders=true
 f_swap:P.funcs[202]?=Tryz.prog.funcs[202]?
 f_rota:P.funcs[175]?=Tryz.prog.funcs[175]?
 f_symM:P.funcs[150]?=Tryz.prog.funcs[150]?
 f_stab:P.funcs[117]?=Tryz.prog.funcs[117]?
 t3:P.underlying 3=some (.int .i64)
 a3:∀w,(isAgg 3).run P w=.ok false w
 z3:∀w,(Go.sizeOf 3).run P w=.ok 1 w
 v3:∀w,(zeroValue 3).run P w=.ok (.int .i64 0) w
 t4:P.underlying 4=some (.bool)
 a4:∀w,(isAgg 4).run P w=.ok false w
 z4:∀w,(Go.sizeOf 4).run P w=.ok 1 w
 v4:∀w,(zeroValue 4).run P w=.ok (.bool false) w
 tS:P.underlying 119=some (.slice 106)
 aS:∀w,(isAgg 119).run P w=.ok false w
 zS:∀w,(Go.sizeOf 119).run P w=.ok 1 w
 vS:∀w,(zeroValue 119).run P w=.ok (.slice none 0 0) w
 tF:P.underlying 121=some (.func #[106,106] #[3] false)
 aF:∀w,(isAgg 121).run P w=.ok false w
 zF:∀w,(Go.sizeOf 121).run P w=.ok 1 w
 vF:∀w,(zeroValue 121).run P w=(zeroValue 121).run Tryz.prog w
 tU:P.underlying 164=some (.int .u64)
 aU:∀w,(isAgg 164).run P w=.ok false w
 zU:∀w,(Go.sizeOf 164).run P w=.ok 1 w
 vU:∀w,(zeroValue 164).run P w=.ok (.int .u64 0) w
 t0:P.underlying 0=some (.tuple #[])
 a0:∀w,(isAgg 0).run P w=.ok false w
 z0:∀w,(Go.sizeOf 0).run P w=(Go.sizeOf 0).run Tryz.prog w
 v0:∀w,(zeroValue 0).run P w=(zeroValue 0).run Tryz.prog w
 aE:∀w,(isAgg 106).run P w=.ok true w
 zE:∀w,(Go.sizeOf 106).run P w=.ok k w
def ACy(enc:Nat->List Value)(k:Nat)(w0:World)(blk x y n:Nat)(d:Array Nat)(w' : World):Prop:=∃d',SWK enc k w0 blk 0 d' w'/\Swapped x y n d d'/\∀a b,a<=x->a<=y->x+n<=b->y+n<=b->b<=d.size->PermIn a b d d'
set_option maxHeartbeats 4000000 in
set_option maxRecDepth 1000000 in
theorem ABK{P:Program}{k:Nat}(E:StEW P k)(enc:Nat->List Value)(g:Nat)(blk cap x y n:Nat)(d0 d:Array Nat)(w0 w:World)(R:RowK enc k w0 blk 0 d0)(hs:d0.size=d.size)(S:SWK enc k w0 blk 0 d w)
 (hx:x+n<=d.size) (hy:y+n<=d.size) (hd:x+n<=y\/y+n<=x) (hsz:d.size<4611686018427387904) :
 Calls P 202 #[.slice (some ⟨blk,0,none⟩) d.size cap,.int .i64 x,.int .i64 y,.int .i64 n,.func (.func g) #[] #[]] w λe w'=>e=.returned (.tuple #[])/\ACy enc k w0 blk x y n d w':=by
 have t3:=E.t3;have a3:=E.a3;have z3:=E.z3;have v3:=E.v3;have t4:=E.t4;have a4:=E.a4;have z4:=E.z4;have v4:=E.v4;have tS:=E.tS;have aS:=E.aS;have zS:=E.zS;have vS:=E.vS;have tF:=E.tF;have aF:=E.aF;have zF:=E.zF;have vF:=E.vF;have tU:=E.tU;have aU:=E.aU;have zU:=E.zU;have vU:=E.vU;have t0:=E.t0;have a0:=E.a0;have z0:=E.z0;have v0:=E.v0;have aE:=E.aE;have zE:=E.zE;have mixed:=E.mixed;have FG:=E.f_swap.trans Tryz.func202;have S0:Aside (SWK enc k w0 blk 0 d w):=S;clear S E;go_enter FG,Tryz.ntmps202;go_wp2;go_loopg [10] n (λkx a1 wr=>∃(i:Nat)(dk:Array Nat),a1=.int .i64 i/\i<=n/\n-i<=kx/\dk.size=d.size/\Aside (SWK enc k w0 blk 0 dk wr)/\Aside (Swapped x y i d dk/\∀a b,a<=x->a<=y->x+n<=b->y+n<=b->b<=d.size->PermIn a b d dk));case atStart=>exact⟨0,d,rfl,Nat.zero_le _,Nat.le_refl _,rfl,S0,(⟨Swapped.zero _ _ _,λa b _ _ _ _ _=>permIn_refl _ _ _⟩:_/\_)⟩
 case round=>
  clear S0;obtain⟨i,dk,rfl,hin,hkx,a2,S1,I⟩:=hrel;by_cases hlt:i<n
  ·have hltz:(i:Int)<(n:Int):=by omega
   go_wp2_with fail;have ea:((x:Int)+(i:Int)).toNat=x+i:=by omega
   have pa:(0:Int)<=(x:Int)+(i:Int):=(by omega);have ba:(x:Int)+(i:Int)<(d.size:Int):=(by omega);have ra:IntKind.i64.wrap ((x:Int)+(i:Int))=(x:Int)+(i:Int):=(by rw[IntKind.wrap_i64];omega);have ec:((y:Int)+(i:Int)).toNat=y+i:=(by omega);have pc:(0:Int)<=(y:Int)+(i:Int):=(by omega);have bc:(y:Int)+(i:Int)<(d.size:Int):=(by omega);have rc:IntKind.i64.wrap ((y:Int)+(i:Int))=(y:Int)+(i:Int):=(by rw[IntKind.wrap_i64];omega);have S2:Aside (SWK enc k w0 blk 0 (swp dk (x+i) (y+i)) ((wr.drew.setCells blk (0+(x+i)*k) (enc dk[y+i]!)).setCells blk (0+(y+i)*k) (enc dk[x+i]!))):=S1.out.swapped R (x+i) (y+i) (by omega) (by omega);have la:=S1.out.ld1 R (by omega) P (x+i) (by omega);have lb:=S1.out.ld1 R (by omega) P (y+i) (by omega);have sa:=S1.out.st1 R (by omega) P (x+i) (by omega) dk[y+i]!;have sb:=S1.out.st2 R (by omega) P (x+i) (y+i) (by omega) (by omega) dk[y+i]! dk[x+i]!;have na:(enc dk[x+i]!).length=k:=R.hk _;have nb:(enc dk[y+i]!).length=k:=R.hk _;generalize enc dk[x+i]! = cI at S2 la sb na;generalize enc dk[y+i]! = cJ at S2 lb sa sb nb;rw[Nat.zero_add]at la lb sa sb;rw[Nat.zero_add]at sb;rw[Nat.zero_add,Nat.zero_add]at S2;clear S1;go_wp2_with fail;go_big_region_o;clear la lb sa sb;generalize (wr.drew.setCells blk ((x+i)*k) cJ).setCells blk ((y+i)*k) cI=w2 at S2 ⊢;go_wp2;go_roundg (n-(i+1));case measure=>omega
   case rel=>
    have I2:Aside (Swapped x y (i+1) d (swp dk (x+i) (y+i))/\∀a b,a<=x->a<=y->x+n<=b->y+n<=b->b<=d.size->PermIn a b d (swp dk (x+i) (y+i))):=
     (⟨I.out.1.step (by omega) (by omega) (by omega),λa b h1 h2 h3 h4 h5=>permIn_trans _ _ _ a b (I.out.2 a b h1 h2 h3 h4 h5) (swp_permIn dk a b (x+i) (y+i) (by omega) (by omega) (by omega) (by omega) (by omega))⟩:_/\_)
    exact⟨i+1,swp dk (x+i) (y+i),by simp,by omega,Nat.le_refl _,by rw[size_swp];exact a2,S2,I2⟩
  ·obtain rfl:i=n:=by omega
   go_wp2;go_end0;exact⟨rfl,dk,S1.out,I.out.1,I.out.2⟩
def AB4(enc:Nat->List Value)(k:Nat)(w0:World)(blk a m b:Nat)(d:Array Nat)(w' : World):Prop:=∃d',SWK enc k w0 blk 0 d' w'/\Turned m a b d d'/\PermIn a b d d'
set_option maxHeartbeats 4000000 in
set_option maxRecDepth 1000000 in
theorem Tf{P:Program}{k:Nat}(E:StEW P k)(enc:Nat->List Value)(g:Nat)(blk cap a m b:Nat)(d0 d:Array Nat)(w0 w:World)(R:RowK enc k w0 blk 0 d0)(hs:d0.size=d.size)(S:SWK enc k w0 blk 0 d w)
 (ham:a<m) (hmb:m<b) (hb:b<=d.size) (hsz:d.size<4611686018427387904) :
 Calls P 175 #[.slice (some ⟨blk,0,none⟩) d.size cap,.int .i64 a,.int .i64 m,.int .i64 b,.func (.func g) #[] #[]] w λe w'=>e=.returned (.tuple #[])/\AB4 enc k w0 blk a m b d w':=by
 have t3:=E.t3;have a3:=E.a3;have z3:=E.z3;have v3:=E.v3;have t4:=E.t4;have a4:=E.a4;have z4:=E.z4;have v4:=E.v4;have tS:=E.tS;have aS:=E.aS;have zS:=E.zS;have vS:=E.vS;have tF:=E.tF;have aF:=E.aF;have zF:=E.zF;have vF:=E.vF;have tU:=E.tU;have aU:=E.aU;have zU:=E.zU;have vU:=E.vU;have t0:=E.t0;have a0:=E.a0;have z0:=E.z0;have v0:=E.v0;have aE:=E.aE;have zE:=E.zE;have mixed:=E.mixed;have FG:=E.f_rota.trans Tryz.func175;have eS:∀args w,(callFunc 202 args).run P w=.ok (.enter 202 args) w:=enters_of (E.f_swap.trans Tryz.func202) (by kernel_rfl) rfl;have S0:Aside (SWK enc k w0 blk 0 d w):=S;have HE:Aside (StEW P k):=E;clear S E;go_enter FG,Tryz.ntmps175;go_wp2;go_loopg [10,11] (b-a) (λkx a5 a6 wr=>∃(i j:Nat)(dk:Array Nat),a5=.int .i64 i/\a6=.int .i64 j/\0<i/\0<j/\i<=m-a/\j<=b-m/\i+j<=kx/\dk.size=d.size/\Aside (SWK enc k w0 blk 0 dk wr)/\Aside ((∀D',Turned m (m-i) (m+j) dk D'->Turned m a b d D')/\PermIn a b d dk));case atStart=>exact⟨m-a,b-m,d,by rw[show((m-a:Nat):Int)=(m:Int)-(a:Int) by omega],by rw[show((b-m:Nat):Int)=(b:Int)-(m:Int) by omega],by omega,by omega,Nat.le_refl _,Nat.le_refl _,by omega,rfl,S0,(⟨λD' h=>by rw[show m-(m-a)=a by omega,show m+(b-m)=b by omega]at h;exact h,permIn_refl _ _ _⟩:_/\_)⟩
 case round=>
  clear S0;obtain⟨i,j,dk,rfl,rfl,hi0,hj0,a7,a8,hkx,a2,S1,I⟩:=hrel;have emi:((m-i:Nat):Int)=(m:Int)-(i:Int):=by omega
  by_cases a9:i=j
  ·subst a9
   have a1:=ABK HE.out enc g blk cap (m-i) m i d0 dk w0 wr R (by omega) S1.out (by omega) (by omega) (by omega) (by omega);rw[emi,a2]at a1;clear S1;go_wp2_with (go_at_fn 202;refine a1.mono ?_;rintro e w1 ⟨rfl,S2⟩);go_end0;obtain⟨d1,s1,s2,s3⟩:=S2;exact⟨rfl,d1,s1,I.out.1 _ (Turned.same (by omega) s2),permIn_trans _ _ _ a b I.out.2 (s3 a b (by omega) (by omega) (by omega) (by omega) (by omega))⟩
  ·have hnz:¬(i:Int)=(j:Int):=by omega
   by_cases hgt:j<i
   ·have aA:(j:Int)<(i:Int):=by omega
    have a1:=ABK HE.out enc g blk cap (m-i) m j d0 dk w0 wr R (by omega) S1.out (by omega) (by omega) (by omega) (by omega);rw[emi,a2]at a1;clear S1;go_wp2_with (go_at_fn 202;refine a1.mono ?_;rintro e w1 ⟨rfl,S2⟩);go_roundg (i-j+j);case measure=>omega
    case rel=>obtain⟨d1,s1,s2,s3⟩:=S2;exact⟨i-j,j,d1,by rw[show((i-j:Nat):Int)=(i:Int)-(j:Int) by omega],rfl,by omega,hj0,by omega,a8,Nat.le_refl _,by rw[s2.size];exact a2,s1,(⟨λD' h=>I.out.1 _ (Turned.big hgt (by omega) s2 h),permIn_trans _ _ _ a b I.out.2 (s3 a b (by omega) (by omega) (by omega) (by omega) (by omega))⟩:_/\_)⟩
   ·have aA:¬(j:Int)<(i:Int):=by omega
    have a1:=ABK HE.out enc g blk cap (m-i) (m+j-i) i d0 dk w0 wr R (by omega) S1.out (by omega) (by omega) (by omega) (by omega);rw[emi,a2,show((m+j-i:Nat):Int)=(m:Int)+(j:Int)-(i:Int) by omega]at a1;clear S1;go_wp2_with (go_at_fn 202;refine a1.mono ?_;rintro e w1 ⟨rfl,S2⟩);go_roundg (i+(j-i));case measure=>omega
    case rel=>obtain⟨d1,s1,s2,s3⟩:=S2;exact⟨i,j-i,d1,rfl,by rw[show((j-i:Nat):Int)=(j:Int)-(i:Int) by omega],hi0,by omega,a7,by omega,Nat.le_refl _,by rw[s2.size];exact a2,s1,(⟨λD' h=>I.out.1 _ (Turned.less (by omega) (by omega) s2 h),permIn_trans _ _ _ a b I.out.2 (s3 a b (by omega) (by omega) (by omega) (by omega) (by omega))⟩:_/\_)⟩
end Go.Proofs.YthoidhehmmcgnaaGreat
