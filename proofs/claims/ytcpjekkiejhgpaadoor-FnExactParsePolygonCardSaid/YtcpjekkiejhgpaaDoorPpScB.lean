import Derived.Test.YtcpjekkiejhgpaaDoorPpBas
import Derived.Test.YtcpjekkiejhgpaaDoorPpScA
import Derived.RegionTactic
import Derived.BigRegion
import Derived.Deep.RegionHeld3
import Derived.Deep.DrawnRows
import Derived.Deep.RegionLaw
import Derived.Lib.SliceRun
namespace Go.Proofs.YtcpjekkiejhgpaaDoor
open Go.RowKit
attribute [local go_sem ↓] Go.wp_at_zero Go.wp_at_succ
end Go.Proofs.YtcpjekkiejhgpaaDoor
namespace Go.Proofs.YtcpjekkiejhgpaaDoor
open Go.RowKit
attribute [local go_sem ↓] Go.wp_at_zero Go.wp_at_succ
end Go.Proofs.YtcpjekkiejhgpaaDoor
namespace Go.Proofs.YtcpjekkiejhgpaaDoor
open Go.RowKit
attribute [local go_sem ↓] Go.wp_at_zero Go.wp_at_succ
end Go.Proofs.YtcpjekkiejhgpaaDoor
namespace Go.Proofs.YtcpjekkiejhgpaaDoor
open Go.RowKit
end Go.Proofs.YtcpjekkiejhgpaaDoor
namespace Go.Proofs.YtcpjekkiejhgpaaDoor
open Go.RowKit
attribute [local go_sem ↓] Go.wp_at_zero Go.wp_at_succ
theorem FpRow.split {w:World} : ∀ (t1:List Ty) {t2:List Ty} (d1:List Dat) {d2:List Dat} (v1:List Value) {v2:List Value} (bs:List Nat),d1.length=t1.length->v1.length=t1.length->FpRow w (t1++t2) (d1++d2) (v1++v2) bs->∃ b1 b2,bs=b1++b2/\FpRow w t1 d1 v1 b1/\FpRow w t2 d2 v2 b2:=by
 intro t1
 induction t1 with
 | nil=>
  intro t2 d1 d2 v1 v2 bs hd hv h
  obtain rfl:=List.eq_nil_of_length_eq_zero hd
  obtain rfl:=List.eq_nil_of_length_eq_zero hv
  exact ⟨[],bs,rfl,rfl,h⟩
 | cons t ts ih=>
  intro t2 d1 d2 v1 v2 bs hd hv h
  match d1,v1,hd,hv with
  | d::ds,v::vs,hd,hv=>
   simp only [List.cons_append,FpRow] at h ⊢
   obtain ⟨c1,c2,rfl,p1,p2⟩:=h
   obtain ⟨e1,e2,rfl,q1,q2⟩:=ih ds vs c2 (by simpa using hd) (by simpa using hv) p2
   exact ⟨c1++e1,e2,by simp,⟨c1,e1,rfl,p1,q1⟩,q2⟩
theorem Own.replace {w:World} {lo mid hi:Nat} {t1 t2 t3:List Ty} {d1 d2 d2' d3:List Dat} {v1 v2 v2' v3:List Value} (h:Own w lo mid (t1++t2++t3) (d1++d2++d3) (v1++v2++v3)) (h' : Own w mid hi t2 d2' v2') (hm:lo<=mid) (hh:mid<=hi)
  (l1:d1.length=t1.length) (l1' : v1.length=t1.length) (l2:d2.length=t2.length) (l2' : v2.length=t2.length):Own w lo hi (t1++t2++t3) (d1++d2'++d3) (v1++v2'++v3):=by
 obtain ⟨bs,p1,p2,p3⟩:=h
 obtain ⟨bs',q1,q2,q3⟩:=h'
 obtain ⟨c,b3,rfl,h12,h3⟩:=FpRow.split _ _ _ _ (by simp [l1,l2]) (by simp [l1',l2']) p1
 obtain ⟨b1,b2,rfl,h1,h2⟩:=FpRow.split _ _ _ _ l1 l1' h12
 have n1:=List.nodup_append.1 p2
 have n2:=List.nodup_append.1 n1.1
 refine ⟨b1++bs'++b3,FpRow.append _ _ _ _ (FpRow.append _ _ _ _ h1 q1) h3,?_,?_⟩
 ·refine List.nodup_append.2 ⟨List.nodup_append.2 ⟨n2.1,q2,λ a ha b hb e=>?_⟩,n1.2.1,λ a ha b hb e=>?_⟩
  ·have:=p3 a (by simp [ha]);have:=q3 b hb;omega
  ·rcases List.mem_append.1 ha with ha|ha
   ·exact n1.2.2 a (by simp [ha]) b hb e
   ·have:=q3 a ha;have:=p3 b (by simp [hb]);omega
 ·intro b hb
  rcases List.mem_append.1 hb with hb|hb
  ·rcases List.mem_append.1 hb with hb|hb
   ·have:=p3 b (by simp [hb]);omega
   ·have:=q3 b hb;omega
  ·have:=p3 b (by simp [hb]);omega
end Go.Proofs.YtcpjekkiejhgpaaDoor
namespace Go.Proofs.YtcpjekkiejhgpaaDoor
open Go.RowKit
attribute [local go_sem ↓] Go.wp_at_zero Go.wp_at_succ
end Go.Proofs.YtcpjekkiejhgpaaDoor
