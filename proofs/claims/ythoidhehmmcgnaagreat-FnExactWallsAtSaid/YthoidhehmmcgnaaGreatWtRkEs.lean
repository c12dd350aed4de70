import Derived.Test.YthoidhehmmcgnaaGreatWtCpf
namespace Go.Proofs.YthoidhehmmcgnaaGreat
set_option linter.unusedVariables false
set_option linter.unusedSimpArgs false
open Go.RowKit
def NP:Con:={ι:=(List Fr),pre:=λi=>i.length<=2000000000000,args:=λi=>[.one (DC.sl 44 z30 (AC i))],res:=λi=>⟨false,[none],[.top 44 [.bool,.sl 3 [.int],.sl 3 [.int]] (AC i)]⟩}
set_option maxRecDepth 100000 in
theorem WP:NP.Ok Tryz.prog 144:=by refine fok (X:=⟨tt,[],[],8,[]⟩) mixed AG (CTok.nil _) Tryz.func144 (λ_=>[]) ?_;intro (l:List Fr) a0;have a0:l.length<=2000000000000:=a0;refine AH (q:=∀b1:Bool,(b1=true->(AC l)=[])->(ifB (b1) ((([]:List (List Dat))=AC l)) ((([]:List (List Dat)).length+(AC l).length<=2199023255552)/\(((([]:List (List Dat))++(AC l))=AC l))))) (by kernel_rfl) ?_;delta ifB;have hfl:=Ao l;intro b1 q1;refine⟨λc2=>?_,λc2=>?_⟩;exact(q1 c2).symm;refine ao (by simp only[List.length_cons,List.length_nil];omega) λo4=>?_;rfl
def Cu:Con:={ι:=(List Fr),pre:=λi=>CA i/\i.length<=2000000000000,args:=λi=>[.one (DC.sl 44 z30 (AC i))],res:=λi=>⟨false,[none],[.view 44 [.bool,.sl 3 [.int],.sl 3 [.int]] (AC (CM [] i))]⟩}
open Go.Sort Go.Shelf
abbrev Gn(F:Nat->Prop)(w:World)(b:Nat):Prop:=F b\/w.heap.size<=b
def S1(F:Nat->Prop)(w w1:World)(l:List Fr)(u:Value):Prop:=∃rv:List (List Value),Below w.heap.size w w1/\w1.ownsRow 0 44 3 u rv.length rv.flatten/\rv.length=l.length/\(∀r ∈ rv,r.length=3)/\(∀g,u.ownBlock=some g->w.heap.size<=g)/\∀k,k<l.length->RdRowS (λb=>Gn F w b/\∀g,u.ownBlock=some g->b≠g) w1 rTy (frD (l.getD k Fr.none)) (rv.getD k [])
theorem Zb{F:Nat->Prop}{l:List Fr}(hl:l.length<=2000000000000){w:World}{u0:Value}(hF:∀b,F b->b<w.heap.size)(h:RdS F w (.sl 44 rTy) (.sl (AC l)) u0):Calls Tryz.prog 144 #[u0] w λe w1=>∃u,e=.returned u/\S1 F w w1 l u:=by
 refine(WP.calls l hl F w [u0] (λ_=>[]) ⟨rfl,hF,λp d u hd hu _=>?_,λj p hj=>by simp[NP]at hj,λi j b _ hi=>absurd hi (Nat.not_lt_zero _),λj b hj=>absurd hj (Nat.not_lt_zero _),⟨λ_ hb=>(List.not_mem_nil hb).elim,trivial⟩,λj b hj=>absurd hj (Nat.not_lt_zero _)⟩).mono ?_;match p,hd,hu with| 0,hd,hu=>cases hd;cases hu;exact h|p+1,hd,_=>cases hd
 rintro e w1 ⟨rs,bs,rfl,hq⟩;have hr:=hq.res;cases rs with
 |nil=>exact hr.elim|cons u us=>
  obtain⟨b1,b2,rfl,⟨rv,h1,h2,h3,h4,h5⟩,h6⟩:=hr;have h2' : rv.length=l.length:=by rw[h2];exact Ao l
  have a0:∀g,u.ownBlock=some g->w.heap.size<=g:=λg hg=>by rcases hq.fresh g (List.mem_append_left _ (h5 g hg))with h|⟨j,hj,_⟩;exact h;exact absurd hj (List.not_mem_nil)
  refine⟨u,rfl,rv,⟨hq.os,hq.tape,hq.output,hq.size,λb hb=>hq.keep b hb (λj hj=>absurd hj (Nat.not_lt_zero _))⟩,h1,h2',h3,a0,λk hk=>?_⟩;have h7:=h4 k (by rw[Ao];exact hk);rw[B0 hk]at h7;refine RdRowS.mono (λb hb=>?_) _ _ _ h7;rcases hb with hb|⟨hb,hn⟩;exact⟨.inl hb,λg hg e=>by have:=hF b hb;have:=a0 g hg;omega⟩;exact⟨.inr hb,λg hg e=>hn (e ▸ List.mem_append_left _ (h5 g hg))⟩
def S2(F:Nat->Prop)(w w2:World)(l:List Fr)(u:Value):Prop:=Below w.heap.size w w2/\((l=[]/\∃a cap,u=.slice a 0 cap/\cap<=maxLen/\(a=none->cap=0)) \/
 ∃(g cap:Nat)(d:Array R3),u=.slice (some ⟨g,0,none⟩) d.size cap/\0<d.size/\d.size=l.length/\d.size<=cap/\cap<=maxLen/\w.heap.size<=g/\g<w2.heap.size/\Row3 w2 g 0 d/\Rd3 (Gn F w) w2 g d/\Inc d/\∀x,(∃j,j<d.size/\(d[j]!).f=x)<->x ∈ l)
theorem Zc{F:Nat->Prop}{w:World}{r:Fr}{us:List Value}(h:RdRowS F w rTy (frD r) us):∃x:R3,rE x=us/\x.f=r:=by
 have h:=RdRowS.rd _ _ _ h;match us,h with| [a,b,c],h=>obtain⟨h1,h2,h3,-⟩:=h;obtain⟨_,s1,_⟩:=h2;obtain⟨_,s2,_⟩:=h3;obtain⟨p,m,e1,-⟩:=s1;obtain⟨q,n,e2,-⟩:=s2;exact⟨⟨_,p,_,m,q,_,n,r⟩,by rw[show a=_ from h1,e1,e2];rfl,rfl⟩
theorem YP{F:Nat->Prop}{w w1:World}{l:List Fr}{u:Value}(a4:CA l)(hl:l.length<=2000000000000)(h:S1 F w w1 l u):Calls Tryz.prog 145 #[u,.func (.func 81) #[] #[]] w1 λe w2=>e=.returned (.tuple #[])/\S2 F w w2 l u:=by
 obtain⟨rv,hb,ho,a0,h3,a5,a6⟩:=h;by_cases h0:l.length=0;have hl0:l=[]:=List.eq_nil_of_length_eq_zero h0;obtain⟨a,cap,rfl,hm,ha⟩:∃a cap,u=.slice a 0 cap/\cap<=maxLen/\(a=none->cap=0):=by rcases ho.2 with⟨rfl,_⟩|⟨g,cap,cur,rfl,-,-,-,hm,-⟩;exact⟨none,0,rfl,by decide,λ_=>rfl⟩;exact⟨some ⟨g,0,none⟩,cap,by rw[a0,h0],hm,λh=>by cases h⟩
 refine Calls.mono (P:=Tryz.prog) (AnyF.slices_SortFunc_none ABB a cap (.func (.func 81) #[] #[]) w1) ?_;rintro e w' ⟨rfl,rfl⟩;exact⟨rfl,hb,.inl ⟨hl0,a,cap,rfl,hm,ha⟩⟩;rcases ho.2 with⟨_,h⟩|⟨g,cap,cur,rfl,-,hh,hc,hm,hcs,ht⟩;omega;have hS:=Ee ho h3;obtain⟨_,_,e0,_,_,_,e1⟩:=hS;cases e0;rcases e1 with⟨e1,_⟩|⟨b,off,e1,a7,a3⟩;rw[e1]at a0;simp at a0;omega;cases e1;have a8:w.heap.size<=g:=a5 g rfl
 have hs:=ABC (G:=Gn F w) (w:=w1) (cap:=cap) hh a0 a4 (by omega) (λk hk=>RdRowS.mono (λb hb=>⟨⟨hb.1.1,hb.1.2 g rfl⟩,hb.2⟩) _ _ _ (RdRowS.step (Nat.le_refl _) (λ_ _ _=>rfl) _ _ _ (a6 k hk))) (λk i hk hi=>⟨by
  have h1:=a3 k (by omega) i hi;rw[Nat.zero_add]at h1;have h2:(rv.getD k []).length=3:=h3 _ (by simp[List.getD,show k<rv.length by omega]);rw[h1];have h4:i<(rv.getD k []).length:=by omega
  show some (((rv.getD k [])[i]?).getD undef)=_;rw[List.getElem?_eq_getElem h4];rfl,by simp[World.frozen?,hh]⟩)
 rw[a0];refine hs.mono ?_;rintro e w2 ⟨rfl,ls',rv',hS⟩;have a9:∀k,∃x:R3,k<l.length->rE x=rv'.getD k []/\x.f=ls'.getD k Fr.none:=λk=>by by_cases hk:k<l.length;obtain⟨x,e1,e2⟩:=Zc (hS.rd k hk);exact⟨x,λ_=>⟨e1,e2⟩⟩;exact⟨default,λh=>absurd h hk⟩
 obtain⟨f,hf⟩:=Classical.axiomOfChoice a9;let d:Array R3:=((List.range l.length).map f).toArray
 have a1:d.size=l.length:=by simp[d]
 have a2:∀k,k<l.length->d[k]! = f k:=λk hk=>by simp[d,hk]
 refine⟨rfl,hb.trans ⟨hS.os,hS.tape,hS.output,hS.size,λb hb'=>hS.old b (Nat.lt_of_lt_of_le hb' hb.size) (by omega)⟩,.inr ⟨g,cap,d,by rw[a1],by omega,a1,by omega,hm,a8,Nat.lt_of_lt_of_le a7 hS.size,λj hj=>?_,λj hj=>?_,⟨λj hj=>?_,λi j aA hj=>?_⟩,λx=>?_⟩⟩;rw[a1]at hj;obtain⟨e1,e2⟩:=hf j hj;have c0:=hS.cells j 0 hj (by omega);have c1:=hS.cells j 1 hj (by omega);have c2:=hS.cells j 2 hj (by omega);rw[← e1]at c0 c1 c2;rw[a2 j hj,Nat.zero_add];exact⟨⟨c0.1,c1.1,c2.1⟩,c0.2,c1.2,c2.2⟩;rw[a1]at hj;obtain⟨e1,e2⟩:=hf j hj;rw[a2 j hj,e1,e2];refine RdRowS.mono (λb hb=>⟨hb.1.1,Nat.lt_of_lt_of_le hb.2 hS.size⟩) _ _ _ (RdRowS.step hS.size (λb hb hG=>hS.old b hb hG.1.2) _ _ _ (hS.rd j hj));rw[a1]at hj;rw[a2 j hj,(hf j hj).2];refine a4 _ (hS.perm.mem_iff.1 ?_);simp[List.getD,hS.len.1,hj];rw[a1]at hj;rw[a2 j hj,a2 i (by omega),(hf j hj).2,(hf i (by omega)).2];exact hS.asc i j aA hj;rw[← hS.perm.mem_iff];constructor;rintro⟨j,hj,e⟩;rw[a1]at hj;rw[a2 j hj,(hf j hj).2]at e;rw[← e];simp[List.getD,hS.len.1,hj];intro hx;obtain⟨j,hj,e⟩:=List.getElem_of_mem hx;have hj2:j<l.length:=by rw[← hS.len.1];exact hj
 refine⟨j,by rw[a1];exact hj2,?_⟩;rw[a2 j hj2,(hf j hj2).2,← e];simp[List.getD,hj]
theorem TV(a:Option Addr)(cap:Nat)(w:World):Calls Tryz.prog 146 #[.slice a 0 cap,.func (.func 36) #[] #[]] w λe w'=>e=.returned (.slice a 0 cap)/\w'=w:=by go_enter Tryz.func146,Tryz.ntmps146;go_wp2;go_ret;exact⟨rfl,rfl⟩
theorem YQ{F:Nat->Prop}{w w2:World}{l:List Fr}{u:Value}(a6:CA l)(hl:l.length<=2000000000000)(h:S2 F w w2 l u):Calls Tryz.prog 146 #[u,.func (.func 36) #[] #[]] w2 λe w3=>∃v,e=.returned v/\Below w.heap.size w w3/\RdS (Gn F w) w3 (.sl 44 rTy) (.sl (AC (CM [] l))) v:=by
 obtain⟨hb,h⟩:=h;rcases h with⟨rfl,a,cap,rfl,hm,ha⟩|⟨g,cap,d,rfl,a1,hdl,hc,hm,a5,hg2,hR,hD,hI,a4⟩;refine(TV a cap w2).mono ?_;rintro e w3 ⟨rfl,rfl⟩;refine⟨_,rfl,hb,[],⟨a,cap,rfl,Nat.zero_le _,hm,λx hx=>by simp at hx,.inl ⟨rfl,ha⟩⟩,λh=>absurd rfl h,rfl,λk hk=>by simp[AC,CM]at hk⟩;refine(TU (G:=Gn F w) g 0 cap d w2 hR hD hI hg2 (by omega) a1 hc hm).mono ?_;rintro e w3 ⟨m,d',rfl,hC,hO,a0⟩;have hK:CM [] l=(List.range m).map (λj=>(d'[j]!).f):=by obtain⟨_,a2,a3⟩:=IV a6 (acc:=[]) (λx hx=>by simp at hx) List.Pairwise.nil;refine Pm a2 ?_ λx=>?_;unfold asc;rw[List.pairwise_iff_getElem];intro i j hi hj a7;simp only[List.length_map,List.length_range]at hi hj;simpa using hC.asc i j a7 hj;rw[a3,← a4 x,← hC.mem x];simp
 have hm' : m<=d.size:=hC.le;have hw3:=hO.size;refine⟨_,rfl,hb.trans (hO.below (λk hk=>by rw[hk];exact a5) hb.size),(List.range m).map (λj=>rE d'[j]!),⟨some ⟨g,0,none⟩,cap,by simp,by simp;omega,hm,?_,.inr ⟨g,0,rfl,Nat.lt_of_lt_of_le hg2 hw3,λj hj i hi=>?_⟩⟩,λ_ b hb'=>?_,by rw[hK,Ao];simp,λk hk=>?_⟩;intro x hx;obtain⟨j,_,rfl⟩:=List.mem_map.1 hx;rfl;have hj2:j<m:=by simpa using hj
 obtain⟨c0,c1,c2⟩:=a0 j hj2;have e1:((List.range m).map (λj=>rE d'[j]!)).getD j []=rE d'[j]! := by simp[List.getD,hj2]
 rw[e1];simp only[Nat.zero_add]at c0 c1 c2 ⊢;match i,hi with| 0,_=>exact c0| 1,_=>exact c1| 2,_=>exact c2
 obtain rfl:g=b:=Option.some.inj hb';exact .inr a5;rw[Ao,hK]at hk;have hk2:k<m:=by simpa using hk
 rw[B0 (by rw[hK];exact hk),hK];have e1:((List.range m).map (λj=>rE d'[j]!)).getD k []=rE d'[k]! := by simp[List.getD,hk2]
 have e2:((List.range m).map (λj=>(d'[j]!).f)).getD k Fr.none=(d'[k]!).f:=by simp[List.getD,hk2]
 rw[e1,e2];obtain⟨i,hi,e3⟩:=hC.sub k hk2;rw[e3];exact RdRowS.mono (λb hb=>hb.1.1.1) _ _ _ (RdRowS.step hw3 (λb hb hG=>hO.block b hb hG.1.2) _ _ _ (hD i hi))
theorem Po{F:Nat->Prop}{l:List Fr}(a0:CA l)(hl:l.length<=2000000000000){w:World}{u0:Value}(hF:∀b,F b->b<w.heap.size)(h:RdS F w (.sl 44 rTy) (.sl (AC l)) u0):Calls Tryz.prog 108 #[u0] w λe w'=>∃v,e=.returned v/\Below w.heap.size w w'/\RdS (Gn F w) w' (.sl 44 rTy) (.sl (AC (CM [] l))) v:=by have HC:=Lib.hid (Zb hl hF h);have HG:=Lib.hid a0;clear hF h a0;go_enter Tryz.func108,Tryz.ntmps108;go_wp2_with (go_at_call 144;refine HC.out.mono ?_;rintro e w1 ⟨u,rfl,h1⟩;have H1:=Lib.hid h1;clear h1);go_wp2_with (go_at_call 145;refine(YP HG.out hl H1.out).mono ?_;rintro e w2 ⟨rfl,h2⟩;have H2:=Lib.hid h2;clear h2);go_wp2_with (go_at_call 146;refine(YQ HG.out hl H2.out).mono ?_;rintro e w3 ⟨v,rfl,h3⟩;have H3:=Lib.hid h3;clear h3);go_wp2;go_ret;exact⟨v,rfl,H3.out⟩
theorem Ni:Cu.Ok Tryz.prog 108 where
 enter:=⟨_,Tryz.func108,by decide,rfl⟩
 small:=λ_=>Nat.le_of_ble_eq_true rfl
 calls:=by
  intro (l:List Fr) hp F w us mb h;obtain⟨u0,rfl⟩:∃u,us=[u]:=match us,h.len with|[_],_=>⟨_,rfl⟩
  have a0:RdS F w (.sl 44 rTy) (.sl (AC l)) u0:=h.rd 0 _ u0 rfl rfl (List.not_mem_nil);refine(Po hp.1 hp.2 h.lt a0).mono ?_;rintro e w' ⟨v,rfl,hb,hr⟩;exact⟨[v],[],rfl,⟨⟨RdS.mono (λb hb=>hb.elim .inl λh=>.inr ⟨h,List.not_mem_nil⟩) _ _ _ hr,rfl⟩,List.nodup_nil,λb hb=>absurd hb List.not_mem_nil,λj p e ts rows u _ hj=>(by cases hj),hb.os,hb.tape,hb.output,hb.size,λb hb' _=>hb.block b hb'⟩⟩
end Go.Proofs.YthoidhehmmcgnaaGreat
