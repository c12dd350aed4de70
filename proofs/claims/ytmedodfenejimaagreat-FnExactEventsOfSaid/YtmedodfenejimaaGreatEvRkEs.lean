import Derived.Test.YtmedodfenejimaaGreatEvCpf
namespace Go.Proofs.YtmedodfenejimaaGreat
set_option linter.unusedVariables false
set_option linter.unusedSimpArgs false
open Go.RowKit
def LR:Con:={ ι:=(List Fr),pre:=λ i=>i.length<=2000000000000,args:=λ i=>[.one (DC.sl 90 z84 (AG i))],res:=λ i=>⟨false,[none],[.top 90 [.bool,.sl 3 [.int],.sl 3 [.int]] (AG i)]⟩ }
set_option maxRecDepth 100000 in
theorem SV:LR.Ok Tryz.prog 225:=by
 refine fok (X:=⟨tt,[],[],8,[]⟩) mixed AN (CTok.nil _) Tryz.func225 (λ _=>[]) ?_
 intro (l:List Fr) hpre
 have hpre:l.length<=2000000000000:=hpre
 refine AP (q:=∀ b1:Bool,(b1=true->(AG l)=[])->(ifB (b1) ((([]:List (List Dat))=AG l)) ((([]:List (List Dat)).length+(AG l).length<=2199023255552)/\(((([]:List (List Dat))++(AG l))=AG l))))) (by kernel_rfl) ?_
 delta ifB
 have hfl:=AH l
 intro b1 q1
 refine ⟨λ c2=>?_,λ c2=>?_⟩
 ·try simp only [nrm] at c2
  exact (q1 c2).symm
 try simp only [nrm] at c2
 refine ao (by first|rfl|omega|(simp only [List.length_cons,List.length_nil];omega)) λ o4=>?_
 rfl
def Ce:Con:={ ι:=(List Fr),pre:=λ i=>Da i/\i.length<=2000000000000,args:=λ i=>[.one (DC.sl 90 z84 (AG i))],res:=λ i=>⟨false,[none],[.view 90 [.bool,.sl 3 [.int],.sl 3 [.int]] (AG (CA [] i))]⟩ }
open Go.Sort Go.Shelf
abbrev Gn (F:Nat->Prop) (w:World) (b:Nat):Prop:=F b∨w.heap.size<=b
def S1 (F:Nat->Prop) (w w1:World) (l:List Fr) (u:Value):Prop:=∃ rv:List (List Value),Below w.heap.size w w1/\w1.ownsRow 0 90 3 u rv.length rv.flatten/\rv.length=l.length/\(∀ r ∈ rv,r.length=3)/\(∀ g,u.ownBlock=some g->w.heap.size<=g)/\∀ k,k<l.length->RdRowS (λ b=>Gn F w b/\∀ g,u.ownBlock=some g->b≠g) w1 rTy (frD (l.getD k Fr.none)) (rv.getD k [])
theorem VM {F:Nat->Prop} {l:List Fr} (hl:l.length<=2000000000000) {w:World} {u0:Value} (hF:∀ b,F b->b<w.heap.size) (h:RdS F w (.sl 90 rTy) (.sl (AG l)) u0):Calls Tryz.prog 225 #[u0] w λ e w1=>∃ u,e=.returned u/\S1 F w w1 l u:=by
 refine (SV.calls l hl F w [u0] (λ _=>[]) ⟨rfl,hF,λ p d u hd hu _=>?_,λ j p hj=>by simp [LR] at hj,λ i j b _ hi=>absurd hi (Nat.not_lt_zero _),λ j b hj=>absurd hj (Nat.not_lt_zero _)⟩).mono ?_
 ·match p,hd,hu with
  | 0,hd,hu=>cases hd;cases hu;exact h
  | p+1,hd,_=>cases hd
 ·rintro e w1 ⟨rs,bs,rfl,hq⟩
  have hr:=hq.res
  cases rs with
  | nil=>exact hr.elim
  | cons u us=>
   obtain ⟨b1,b2,rfl,⟨rv,h1,h2,h3,h4,h5⟩,h6⟩:=hr
   have h2' : rv.length=l.length:=by rw [h2];exact AH l
   have hfr:∀ g,u.ownBlock=some g->w.heap.size<=g:=λ g hg=>by
    rcases hq.fresh g (List.mem_append_left _ (h5 g hg)) with h|⟨j,hj,_⟩
    ·exact h
    ·exact absurd hj (List.not_mem_nil)
   refine ⟨u,rfl,rv,⟨hq.os,hq.tape,hq.output,hq.size,λ b hb=>hq.keep b hb (λ j hj=>absurd hj (Nat.not_lt_zero _))⟩,h1,h2',h3,hfr,λ k hk=>?_⟩
   have h7:=h4 k (by rw [AH];exact hk)
   rw [Cp hk] at h7
   refine RdRowS.mono (λ b hb=>?_) _ _ _ h7
   rcases hb with hb|⟨hb,hn⟩
   ·exact ⟨.inl hb,λ g hg e=>by have:=hF b hb;have:=hfr g hg;omega⟩
   ·exact ⟨.inr hb,λ g hg e=>hn (e ▸ List.mem_append_left _ (h5 g hg))⟩
def S2 (F:Nat->Prop) (w w2:World) (l:List Fr) (u:Value):Prop:=Below w.heap.size w w2/\((l=[]/\∃ a cap,u=.slice a 0 cap/\cap<=maxLen/\(a=none->cap=0)) ∨
 ∃ (g cap:Nat) (d:Array R3),u=.slice (some ⟨g,0,none⟩) d.size cap/\0<d.size/\d.size=l.length/\d.size<=cap/\cap<=maxLen/\w.heap.size<=g/\g<w2.heap.size/\Row3 w2 g 0 d/\Rd3 (Gn F w) w2 g d/\Inc d/\∀ x,(∃ j,j<d.size/\(d[j]!).f=x)↔x ∈ l)
theorem VN {F:Nat->Prop} {w:World} {r:Fr} {us:List Value} (h:RdRowS F w rTy (frD r) us):∃ x:R3,rE x=us/\x.f=r:=by
 have h:=RdRowS.rd _ _ _ h
 match us,h with
 | [a,b,c],h=>
  obtain ⟨h1,h2,h3,-⟩:=h
  obtain ⟨_,s1,_⟩:=h2
  obtain ⟨_,s2,_⟩:=h3
  obtain ⟨p,m,e1,-⟩:=s1
  obtain ⟨q,n,e2,-⟩:=s2
  exact ⟨⟨_,p,_,m,q,_,n,r⟩,by rw [show a=_ from h1,e1,e2];rfl,rfl⟩
theorem UQ {F : Nat → Prop} {w w1 : World} {l : List Fr} {u : Value} (hgd : Da l) (hl : l.length ≤ 2000000000000) (h : S1 F w w1 l u) : Calls Tryz.prog 226 #[u, .func (.func 153) #[] #[]] w1 fun e w2 => e = .returned (.tuple #[]) ∧ S2 F w w2 l u := by
  obtain ⟨rv, hb, ho, hlen, h3, hfr, hrd⟩ := h
  by_cases h0 : l.length = 0
  · have hl0 : l = [] := List.eq_nil_of_length_eq_zero h0
    obtain ⟨a, cap, rfl, hm, ha⟩ : ∃ a cap, u = .slice a 0 cap ∧ cap ≤ maxLen ∧ (a = none → cap = 0) := by
      rcases ho.2 with ⟨rfl, _⟩ | ⟨g, cap, cur, rfl, -, -, -, hm, -⟩
      · exact ⟨none, 0, rfl, by decide, fun _ => rfl⟩
      · exact ⟨some ⟨g, 0, none⟩, cap, by rw [hlen, h0], hm, fun h => by cases h⟩
    refine Calls.mono (P := Tryz.prog) (AnyF.slices_SortFunc_none WP a cap (.func (.func 153) #[] #[]) w1) ?_
    rintro e w' ⟨rfl, rfl⟩
    exact ⟨rfl, hb, .inl ⟨hl0, a, cap, rfl, hm, ha⟩⟩
  · rcases ho.2 with ⟨_, h⟩ | ⟨g, cap, cur, rfl, -, hh, hc, hm, hcs, ht⟩
    · omega
    · have hS := EE ho h3
      obtain ⟨_, _, e0, _, _, _, e1⟩ := hS
      cases e0
      rcases e1 with ⟨e1, _⟩ | ⟨b, off, e1, hbl, hcell⟩
      · rw [e1] at hlen; simp at hlen; omega
      · cases e1
        have hgw : w.heap.size ≤ g := hfr g rfl
        have hs := WQ (G := Gn F w) (w := w1) (cap := cap) hh hlen hgd (by omega) (fun k hk => RdRowS.mono (fun b hb => ⟨⟨hb.1.1, hb.1.2 g rfl⟩, hb.2⟩) _ _ _ (RdRowS.step (Nat.le_refl _) (fun _ _ _ => rfl) _ _ _ (hrd k hk))) (fun k i hk hi => ⟨by
            have h1 := hcell k (by omega) i hi
            rw [Nat.zero_add] at h1
            have h2 : (rv.getD k []).length = 3 := h3 _ (by simp [List.getD, show k < rv.length by omega])
            rw [h1]
            have h4 : i < (rv.getD k []).length := by omega
            show some (((rv.getD k [])[i]?).getD undef) = _
            rw [List.getElem?_eq_getElem h4]; rfl, by simp [World.frozen?, hh]⟩)
        rw [hlen]
        refine hs.mono ?_
        rintro e w2 ⟨rfl, ls', rv', hS⟩
        have hex : ∀ k, ∃ x : R3, k < l.length → rE x = rv'.getD k [] ∧ x.f = ls'.getD k Fr.none := fun k => by
          by_cases hk : k < l.length
          · obtain ⟨x, e1, e2⟩ := VN (hS.rd k hk)
            exact ⟨x, fun _ => ⟨e1, e2⟩⟩
          · exact ⟨default, fun h => absurd h hk⟩
        obtain ⟨f, hf⟩ := Classical.axiomOfChoice hex
        let d : Array R3 := ((List.range l.length).map f).toArray
        have hds : d.size = l.length := by simp [d]
        have hdk : ∀ k, k < l.length → d[k]! = f k := fun k hk => by simp [d, hk]
        refine ⟨rfl, hb.trans ⟨hS.os, hS.tape, hS.output, hS.size, fun b hb' => hS.old b (Nat.lt_of_lt_of_le hb' hb.size) (by omega)⟩, .inr ⟨g, cap, d, by rw [hds], by omega, hds, by omega, hm, hgw, Nat.lt_of_lt_of_le hbl hS.size, fun j hj => ?_, fun j hj => ?_, ⟨fun j hj => ?_, fun i j hij hj => ?_⟩, fun x => ?_⟩⟩
        · rw [hds] at hj
          obtain ⟨e1, e2⟩ := hf j hj
          have c0 := hS.cells j 0 hj (by omega)
          have c1 := hS.cells j 1 hj (by omega)
          have c2 := hS.cells j 2 hj (by omega)
          rw [← e1] at c0 c1 c2
          rw [hdk j hj, Nat.zero_add]
          exact ⟨⟨c0.1, c1.1, c2.1⟩, c0.2, c1.2, c2.2⟩
        · rw [hds] at hj
          obtain ⟨e1, e2⟩ := hf j hj
          rw [hdk j hj, e1, e2]
          refine RdRowS.mono (fun b hb => ⟨hb.1.1, Nat.lt_of_lt_of_le hb.2 hS.size⟩) _ _ _ (RdRowS.step hS.size (fun b hb hG => hS.old b hb hG.1.2) _ _ _ (hS.rd j hj))
        · rw [hds] at hj
          rw [hdk j hj, (hf j hj).2]
          refine hgd _ (hS.perm.mem_iff.1 ?_)
          simp [List.getD, hS.len.1, hj]
        · rw [hds] at hj
          rw [hdk j hj, hdk i (by omega), (hf j hj).2, (hf i (by omega)).2]
          exact hS.asc i j hij hj
        · rw [← hS.perm.mem_iff]
          constructor
          · rintro ⟨j, hj, e⟩
            rw [hds] at hj
            rw [hdk j hj, (hf j hj).2] at e
            rw [← e]
            simp [List.getD, hS.len.1, hj]
          · intro hx
            obtain ⟨j, hj, e⟩ := List.getElem_of_mem hx
            have hj2 : j < l.length := by rw [← hS.len.1]; exact hj
            refine ⟨j, by rw [hds]; exact hj2, ?_⟩
            rw [hdk j hj2, (hf j hj2).2, ← e]
            simp [List.getD, hj]
theorem P9 (a:Option Addr) (cap:Nat) (w:World):Calls Tryz.prog 227 #[.slice a 0 cap,.func (.func 109) #[] #[]] w λ e w'=>e=.returned (.slice a 0 cap)/\w'=w:=by
 go_enter Tryz.func227,Tryz.ntmps227
 go_wp2
 go_ret
 exact ⟨rfl,rfl⟩
theorem UR {F:Nat->Prop} {w w2:World} {l:List Fr} {u:Value} (hgd:Da l) (hl:l.length<=2000000000000) (h:S2 F w w2 l u):Calls Tryz.prog 227 #[u,.func (.func 109) #[] #[]] w2 λ e w3=>∃ v,e=.returned v/\Below w.heap.size w w3/\RdS (Gn F w) w3 (.sl 90 rTy) (.sl (AG (CA [] l))) v:=by
 obtain ⟨hb,h⟩:=h
 rcases h with ⟨rfl,a,cap,rfl,hm,ha⟩|⟨g,cap,d,rfl,hpos,hdl,hc,hm,hgw,hg2,hR,hD,hI,hmem⟩
 ·refine (P9 a cap w2).mono ?_
  rintro e w3 ⟨rfl,rfl⟩
  refine ⟨_,rfl,hb,[],⟨a,cap,rfl,Nat.zero_le _,hm,λ x hx=>by simp at hx,.inl ⟨rfl,ha⟩⟩,λ h=>absurd rfl h,rfl,λ k hk=>by simp [AG,CA] at hk⟩
 ·refine (P8 (G:=Gn F w) g 0 cap d w2 hR hD hI hg2 (by omega) hpos hc hm).mono ?_
  rintro e w3 ⟨m,d',rfl,hC,hO,hcells⟩
  have hK:CA [] l=(List.range m).map (λ j=>(d'[j]!).f):=by
   obtain ⟨_,a2,a3⟩:=JC hgd (acc:=[]) (λ x hx=>by simp at hx) List.Pairwise.nil
   refine NU a2 ?_ λ x=>?_
   ·unfold asc
    rw [List.pairwise_iff_getElem]
    intro i j hi hj hij
    simp only [List.length_map,List.length_range] at hi hj
    simpa using hC.asc i j hij hj
   ·rw [a3,← hmem x,← hC.mem x]
    simp
  have hm' : m<=d.size:=hC.le
  have hw3:=hO.size
  refine ⟨_,rfl,hb.trans (hO.below (λ k hk=>by rw [hk];exact hgw) hb.size),(List.range m).map (λ j=>rE d'[j]!),⟨some ⟨g,0,none⟩,cap,by simp,by simp;omega,hm,?_,.inr ⟨g,0,rfl,Nat.lt_of_lt_of_le hg2 hw3,λ j hj i hi=>?_⟩⟩,λ _ b hb'=>?_,by rw [hK,AH];simp,λ k hk=>?_⟩
  ·intro x hx
   obtain ⟨j,_,rfl⟩:=List.mem_map.1 hx
   rfl
  ·have hj2:j<m:=by simpa using hj
   obtain ⟨c0,c1,c2⟩:=hcells j hj2
   have e1:((List.range m).map (λ j=>rE d'[j]!)).getD j []=rE d'[j]! := by simp [List.getD,hj2]
   rw [e1]
   simp only [Nat.zero_add] at c0 c1 c2 ⊢
   match i,hi with
   | 0,_=>exact c0
   | 1,_=>exact c1
   | 2,_=>exact c2
  ·obtain rfl:g=b:=Option.some.inj hb'
   exact .inr hgw
  ·rw [AH,hK] at hk
   have hk2:k<m:=by simpa using hk
   rw [Cp (by rw [hK];exact hk),hK]
   have e1:((List.range m).map (λ j=>rE d'[j]!)).getD k []=rE d'[k]! := by simp [List.getD,hk2]
   have e2:((List.range m).map (λ j=>(d'[j]!).f)).getD k Fr.none=(d'[k]!).f:=by simp [List.getD,hk2]
   rw [e1,e2]
   obtain ⟨i,hi,e3⟩:=hC.sub k hk2
   rw [e3]
   exact RdRowS.mono (λ b hb=>hb.1.1.1) _ _ _ (RdRowS.step hw3 (λ b hb hG=>hO.block b hb hG.1.2) _ _ _ (hD i hi))
theorem NW {F:Nat->Prop} {l:List Fr} (hgd:Da l) (hl:l.length<=2000000000000) {w:World} {u0:Value} (hF:∀ b,F b->b<w.heap.size) (h:RdS F w (.sl 90 rTy) (.sl (AG l)) u0):Calls Tryz.prog 157 #[u0] w λ e w'=>∃ v,e=.returned v/\Below w.heap.size w w'/\RdS (Gn F w) w' (.sl 90 rTy) (.sl (AG (CA [] l))) v:=by
 have HC:=Lib.hid (VM hl hF h)
 have HG:=Lib.hid hgd
 clear hF h hgd
 go_enter Tryz.func157,Tryz.ntmps157
 go_wp2_with (go_at_call 225;refine HC.out.mono ?_;rintro e w1 ⟨u,rfl,h1⟩;have H1:=Lib.hid h1;clear h1)
 go_wp2_with (go_at_call 226;refine (UQ HG.out hl H1.out).mono ?_;rintro e w2 ⟨rfl,h2⟩;have H2:=Lib.hid h2;clear h2)
 go_wp2_with (go_at_call 227;refine (UR HG.out hl H2.out).mono ?_;rintro e w3 ⟨v,rfl,h3⟩;have H3:=Lib.hid h3;clear h3)
 go_wp2
 go_ret
 exact ⟨v,rfl,H3.out⟩
theorem Le:Ce.Ok Tryz.prog 157 where
 enter:=⟨_,Tryz.func157,by decide,rfl⟩
 small:=λ _=>Nat.le_of_ble_eq_true rfl
 calls:=by
  intro (l:List Fr) hp F w us mb h
  obtain ⟨u0,rfl⟩:∃ u,us=[u]:=match us,h.len with|[_],_=>⟨_,rfl⟩
  have hrd:RdS F w (.sl 90 rTy) (.sl (AG l)) u0:=h.rd 0 _ u0 rfl rfl (List.not_mem_nil)
  refine (NW hp.1 hp.2 h.lt hrd).mono ?_
  rintro e w' ⟨v,rfl,hb,hr⟩
  exact ⟨[v],[],rfl,⟨⟨RdS.mono (λ b hb=>hb.elim .inl λ h=>.inr ⟨h,List.not_mem_nil⟩) _ _ _ hr,rfl⟩,List.nodup_nil,λ b hb=>absurd hb List.not_mem_nil,λ j p e ts rows u _ hj=>(by cases hj),hb.os,hb.tape,hb.output,hb.size,λ b hb' _=>hb.block b hb'⟩⟩
end Go.Proofs.YtmedodfenejimaaGreat
