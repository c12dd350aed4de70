import Derived.Test.YtkffpiaagjcmpaaGreatEvEvp
import Derived.Test.YtkffpiaagjcmpaaGreatEvSml
namespace Go.Proofs.YtkffpiaagjcmpaaGreat
set_option linter.unusedVariables false
set_option linter.unusedSimpArgs false
open Go.RowKit
theorem PX {e:Edg} (h:e.ok=true):FrS 22 (slp e) (((e.b.2-e.a.2:Int):Rat)/((e.b.1-e.a.1:Int):Rat)):=by
 have hb:=Edg.bd h
 exact ⟨ACK h,TV (j:=11) (k:=11) (Ml (by omega)) (Ml (by omega)) (I4 (by omega))⟩
theorem YJ {e:Edg} (h:e.ok=true):∃ q,FrS 44 (hgt e (Fr.ofInt 0)) q:=by
 have hb:=Edg.bd h
 have h1:=FrS.int (n:=e.a.2) (k:=10) (by omega) (by omega)
 have h2:=(FrS.int (n:=0) (k:=0) (by omega) (by omega)).sub (FrS.int (n:=e.a.1) (k:=10) (by omega) (by omega)) (by omega)
 exact ⟨_,h1.add ((PX h).mul h2 (by omega)) (by omega)⟩
theorem ABk {e f:Edg} (he:e.ok=true) (hf:f.ok=true) (h:FG e f=true):∃ q,FrS 200 (Ef e f) q:=by
 rw [DK h]
 have hg:(I3 e f).good=true:=by
  unfold FG at h;rw [Bool.and_eq_true] at h;exact h.1
 obtain ⟨u,hu⟩:=YJ he
 obtain ⟨v,hv⟩:=YJ hf
 have h1:=hv.sub hu (by omega)
 have h2:=(PX he).sub (PX hf) (by omega)
 by_cases h0:((e.b.2-e.a.2:Int):Rat)/((e.b.1-e.a.1:Int):Rat)-((f.b.2-f.a.2:Int):Rat)/((f.b.1-f.a.1:Int):Rat)=0
 ·have:I3 e f=Fr.none:=Fr.div_zero h2.1 h0
  rw [this] at hg;cases hg
 ·exact ⟨_,(h1.div h2 h0 (by omega)).mono (by omega)⟩
theorem YK {e:Edg} {y:Int} (he:e.ok=true) (h:CL e y=true):∃ q,FrS 200 (As e y) q:=by
 rw [CR h]
 have hb:=Edg.bd he
 unfold CL at h
 simp only [Bool.and_eq_true,Bool.not_eq_true',decide_eq_false_iff_not,decide_eq_true_eq] at h
 obtain ⟨hn,⟨hy1,hy2⟩,-⟩:=h
 have h0:¬ (((e.b.2-e.a.2:Int):Rat)/((e.b.1-e.a.1:Int):Rat))=0:=by
  have h3:=I4 (show e.b.2-e.a.2≠0 by omega)
  have h4:=I4 (show e.b.1-e.a.1≠0 by omega)
  grind
 have h1:=(FrS.int (n:=y-e.a.2) (k:=11) (by omega) (by omega)).div (PX he) h0 (by omega)
 exact ⟨_,((FrS.int (n:=e.a.1) (k:=10) (by omega) (by omega)).add h1 (by omega)).mono (by omega)⟩
def ACL (c:Cnd):Prop:=c.2=true->∃ q,FrS 200 c.1 q
theorem AA2 {ls:List (List V2)} (hp:BU ls=true):∀ k,k<=ls.length->∀ c ∈ cA ls k,ACL c
 | 0,_,c,hc=>by simp [cA] at hc
 | k+1,hk,c,hc=>by
  rcases List.mem_append.1 hc with hc|hc
  ·exact AA2 hp k (by omega) c hc
  ·unfold cV at hc
   obtain ⟨v,hv,rfl⟩:=List.mem_map.1 hc
   intro _
   have hm:=List.mem_of_mem_take hv
   have:=Bs (List.all_eq_true.1 (CG (Fb hp (show k<ls.length by omega))).1 v hm)
   exact ⟨_,(FrS.int (n:=v.1) (k:=10) (by omega) (by omega)).mono (by omega)⟩
theorem AA3 {es:List Edg} (he:∀ e ∈ es,e.ok=true) (ly hy:Int):∀ i,i<=es.length->∀ c ∈ cE es ly hy i,ACL c
 | 0,_,c,hc=>by simp [cE] at hc
 | i+1,hi,c,hc=>by
  have hei:(es.getD i noE).ok=true:=he _ (by simp [List.getD,show i<es.length by omega])
  simp only [cE,List.mem_append] at hc
  rcases hc with hc|hc|hc|hc
  ·exact AA3 he ly hy i (by omega) c hc
  ·unfold cC at hc
   obtain ⟨f,hf,rfl⟩:=List.mem_map.1 hc
   exact λ h=>ABk hei (he f (List.mem_of_mem_take (List.mem_of_mem_take hf))) h
  ·simp only [cL,List.mem_singleton] at hc
   subst hc
   exact λ h=>YK hei h
  ·simp only [cL,List.mem_singleton] at hc
   subst hc
   exact λ h=>YK hei h
structure EvLaw (l:List Fr) (lx hx:Int):Prop where
 two:2<=l.length
 good:BC l
 asc:asc l
 first:l.getD 0 Fr.none=Fr.ofInt lx
 last:l.getD (l.length-1) Fr.none=Fr.ofInt hx
 own:Bp [] l=l
 hg:(rOf 1 2).good=true
 ag:(Fr.add (l.getD 0 Fr.none) (l.getD 1 Fr.none)).good=true
 mg:(Fr.mul (rOf 1 2) (Fr.add (l.getD 0 Fr.none) (l.getD 1 Fr.none))).good=true
 m1:Fr.cmp (l.getD 0 Fr.none) (Fr.mul (rOf 1 2) (Fr.add (l.getD 0 Fr.none) (l.getD 1 Fr.none)))<0
 m2:Fr.cmp (Fr.mul (rOf 1 2) (Fr.add (l.getD 0 Fr.none) (l.getD 1 Fr.none))) (l.getD 1 Fr.none)<0
theorem PY {a b:Rat} : NS a b<0↔a<b:=by
 unfold NS
 split
 ·exact ⟨λ _=>by assumption,λ _=>by omega⟩
 ·split
  ·exact ⟨λ h=>by omega,λ h=>by grind⟩
  ·exact ⟨λ h=>by omega,λ h=>by grind⟩
theorem ABl {lx ly hx hy:Int} {ls:List (List V2)} (hp:BU ls=true) (h:lx<hx) (hl:lx.natAbs<=1024) (hh:hx.natAbs<=1024):EvLaw (evR lx ly hx hy ls) lx hx:=by
 have bl:LA lx:=⟨by omega,by omega⟩
 have bh:LA hx:=⟨by omega,by omega⟩
 have hA:=JB (ly:=ly) (hy:=hy) hp h bl bh
 have h2:=PW (ly:=ly) (hy:=hy) hp h bl bh
 have hf:=V1 (ly:=ly) (hy:=hy) hp h bl bh
 have s0:=FrS.int (n:=lx) (k:=10) (by omega) (by omega)
 have s9:=FrS.int (n:=hx) (k:=10) (by omega) (by omega)
 have s1:∃ q,FrS 200 ((evR lx ly hx hy ls).getD 1 Fr.none) q:=by
  have hm:=Mk (l:=evR lx ly hx hy ls) (i:=1) (by omega)
  rcases (hA.2.2 _).1 hm with h1|h1
  ·simp only [List.mem_cons,List.not_mem_nil,or_false] at h1
   rcases h1 with h1|h1 <;> rw [h1]
   ·exact ⟨_,s0.mono (by omega)⟩
   ·exact ⟨_,s9.mono (by omega)⟩
  ·unfold evF at h1
   obtain ⟨c,hc,e⟩:=List.mem_map.1 h1
   have hc:=List.mem_filter.1 hc
   have hb:c.2=true:=by
    have:=hc.2
    unfold evP at this
    rw [Bool.and_eq_true] at this
    exact this.1
   rw [← e]
   rcases List.mem_append.1 hc.1 with h3|h3
   ·exact AA2 hp _ (Nat.le_refl _) c h3 hb
   ·exact AA3 (KB hp _ (Nat.le_refl _)) ly hy _ (Nat.le_refl _) c h3 hb
 obtain ⟨q,hq⟩:=s1
 have hlt:=TU hA.2.1 (show 0<1 by omega) (by omega)
 rw [hf] at hlt
 have hlt2:(lx:Rat)<q:=by rw [s0.cmp hq] at hlt;exact PY.1 hlt
 have hh' : FrS 1 (rOf 1 2) (1/2):=by
  have e:((1:Int):Rat)/((2:Int):Rat)=1/2:=rfl
  rw [← e]
  exact ⟨AA0 (by decide) (JC (k:=0) (by decide) (by omega)) (JC (k:=2) (by decide) (by omega)),TV (j:=0) (k:=1) (Ml (by decide)) (Ml (by decide)) (I4 (by decide))⟩
 have hm:=hh'.mul (s0.add hq (by omega)) (by omega)
 refine ⟨h2,hA.1,hA.2.1,hf,YG hp h bl bh,RU hA.1 hA.2.1,hh'.good,by rw [hf];exact (s0.add hq (by omega)).good,?_,?_,?_⟩
 ·rw [hf];exact hm.good
 ·rw [hf,s0.cmp hm,PY];grind
 ·rw [hf,hm.cmp hq,PY];grind
end Go.Proofs.YtkffpiaagjcmpaaGreat
