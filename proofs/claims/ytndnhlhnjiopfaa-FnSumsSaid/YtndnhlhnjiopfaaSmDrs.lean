import Derived.Test.YtndnhlhnjiopfaaSmDrw
namespace Go.Proofs.Ytndnhlhnjiopfaa
set_option linter.unusedVariables false
set_option linter.unusedSimpArgs false
theorem Qb {l:List V2} (h:AI l=true):-256000000<=DQ l/\DQ l<=256000000:=by
 obtain ⟨h3,h16,hv⟩:=Cf h
 have:=Is hv (l.length-1) (by omega)
 rw [G2 h,← OB (by omega)]
 omega
structure SumsLaw (a b:List V2):Prop where
 poly:AI (BZ a b)=true
 vec:a.all AE=true/\b.all AE=true
 len:(BZ a b).length<=16/\(BZ b a).length<=16
 same:CF (BZ a b) (BZ b a)=true
 near:IS a b
 con:∀ i j,i<a.length->j<b.length->0<=MF (BZ a b) (ptV (Ab (a.getD i (0,0)) (b.getD j (0,0))))
 area:DQ a+DQ b<=DQ (BZ a b)
 bd:-512000000<=DQ a+DQ b/\DQ a+DQ b<=512000000
theorem UN {a b:List V2} (ha:AI a=true) (hb:AI b=true) (h1:a.length<=8) (h2:b.length<=8) (hn:IS a b):HullOk (G8 a b) (DN a b):=by
 have hm:∀ x,x ∈ Bv a b a.length↔G8 a b x:=λ x=>EJ hn x a.length (Nat.le_refl _)
 have h64:a.length*b.length<=64:=Nat.mul_le_mul h1 h2
 have hv:(Bv a b a.length).all AE=true:=by
  rw [List.all_eq_true]
  intro x hx
  obtain ⟨i,j,hi,hj,rfl⟩:=(hm x).1 hx
  exact hn i j hi hj
 have hlen:=CE a b a.length
 obtain ⟨hb3,-,-⟩:=Cf hb
 obtain ⟨x,y,w,hx,hy,hw,ht⟩:=OC ha
 have hs:∀ x ∈ a,Ab x (b.getD 0 (0,0)) ∈ Bv a b a.length:=λ x hx=>by
  obtain ⟨i,hi,rfl⟩:=UF hx
  exact (hm _).2 ⟨i,0,hi,by omega,rfl⟩
 exact (N8 hv (by omega) (hs x hx) (hs y hy) (hs w hw) (by rw [N0];exact ht)).congr hm
theorem UO {a b p p' : List V2} (ha:AI a=true) (hb:AI b=true) (h1:a.length<=8) (h2:b.length<=8) (hn:IS a b) (Ha:HullOk (λ v=>v ∈ p) a) (Hb:HullOk (λ v=>v ∈ p') b):SumsLaw a b:=by
 have hn' : IS b a:=λ i j hi hj=>by
  have:=hn j i hj hi
  rwa [show Ab (b.getD i (0,0)) (a.getD j (0,0))=Ab (a.getD j (0,0)) (b.getD i (0,0)) by unfold Ab;rw [Int.add_comm,Int.add_comm (b.getD i (0,0)).2]]
 have h64:a.length*b.length<=64:=Nat.mul_le_mul h1 h2
 have h64' : b.length*a.length<=64:=Nat.mul_le_mul h2 h1
 have H:=UN ha hb h1 h2 hn
 have hp:=J5 ha hb h64 (by omega) hn
 have hp':=J5 hb ha h64' (by omega) hn'
 have e:BZ a b=DN a b:=by unfold BZ;rw [if_pos ⟨ha,hb,h64,hp⟩]
 have e' : BZ b a=DN b a:=by unfold BZ;rw [if_pos ⟨hb,ha,h64',hp'⟩]
 have hm:∀ x,x ∈ Bv a b a.length↔G8 a b x:=λ x=>EJ hn x a.length (Nat.le_refl _)
 have hm' : ∀ x,x ∈ Bv b a b.length↔G8 b a x:=λ x=>EJ hn' x b.length (Nat.le_refl _)
 have hv:∀ {a b:List V2},IS a b->(Bv a b a.length).all AE=true:=λ {a b} hn=>by
  rw [List.all_eq_true]
  intro x hx
  obtain ⟨i,j,hi,hj,rfl⟩:=(EJ hn x a.length (Nat.le_refl _)).1 hx
  exact hn i j hi hj
 have hl:=CE a b a.length
 have hl':=CE b a b.length
 have hsame:DN a b=DN b a:=by
  unfold DN
  rw [Cv (by omega) (hv hn),Cv (by omega) (hv hn'),OJ (FN _ _) (FN (Bv b a b.length) _) λ x=>?_]
  rw [CX _ x _ (Nat.le_refl _),CX _ x _ (Nat.le_refl _),List.take_length,List.take_length,hm,hm']
  constructor
  ·rintro ⟨i,j,hi,hj,rfl⟩
   exact ⟨j,i,hj,hi,by unfold Ab;rw [Int.add_comm,Int.add_comm (a.getD i (0,0)).2]⟩
  ·rintro ⟨i,j,hi,hj,rfl⟩
   exact ⟨j,i,hj,hi,by unfold Ab;rw [Int.add_comm,Int.add_comm (b.getD i (0,0)).2]⟩
 obtain ⟨h3,h16,hvs⟩:=Cf hp
 have b1:=Qb ha
 have b2:=Qb hb
 refine ⟨by rw [e];exact hp,⟨(Cf ha).2.2,(Cf hb).2.2⟩,⟨by rw [e];exact h16,by rw [e',← hsame];exact h16⟩,?_,hn,λ i j hi hj=>?_,?_,by omega⟩
 ·rw [e,e',← hsame]
  exact OA rfl (show 0<(DN a b).length by omega) (by simp)
 ·rw [e]
  exact (VM hvs (hn i j hi hj)).2 λ t ht=>H.ring.side t ht _ ⟨i,j,hi,hj,rfl⟩
 ·rw [e,G2 ha,G2 hb,G2 hp]
  exact UE Ha Hb H
end Go.Proofs.Ytndnhlhnjiopfaa
