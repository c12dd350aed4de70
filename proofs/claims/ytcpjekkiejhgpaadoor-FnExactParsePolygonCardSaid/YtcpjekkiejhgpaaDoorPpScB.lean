import Derived.Test.YtcpjekkiejhgpaaDoorPpBas
import Derived.Test.YtcpjekkiejhgpaaDoorPpScA
import Derived.RegionTactic
import Derived.BigRegion
import Derived.Deep.RegionHeld3
import Derived.Deep.DrawnRows
import Derived.Deep.RegionLaw
import Derived.Lib.SliceRun
namespace Go.Proofs.YtcpjekkiejhgpaaDoor
open Go.RowKit
attribute [local go_sem ↓] Go.wp_at_zero Go.wp_at_succ
end Go.Proofs.YtcpjekkiejhgpaaDoor
namespace Go.Proofs.YtcpjekkiejhgpaaDoor
open Go.RowKit
attribute [local go_sem ↓] Go.wp_at_zero Go.wp_at_succ
end Go.Proofs.YtcpjekkiejhgpaaDoor
namespace Go.Proofs.YtcpjekkiejhgpaaDoor
open Go.RowKit
attribute [local go_sem ↓] Go.wp_at_zero Go.wp_at_succ
end Go.Proofs.YtcpjekkiejhgpaaDoor
namespace Go.Proofs.YtcpjekkiejhgpaaDoor
open Go.RowKit
end Go.Proofs.YtcpjekkiejhgpaaDoor
namespace Go.Proofs.YtcpjekkiejhgpaaDoor
open Go.RowKit
attribute [local go_sem ↓] Go.wp_at_zero Go.wp_at_succ
theorem FpRow.split {w:World} : ∀ (t1:List Ty) {t2:List Ty} (d1:List Dat) {d2:List Dat} (v1:List Value) {v2:List Value} (bs:List Nat),d1.length=t1.length->v1.length=t1.length->FpRow w (t1++t2) (d1++d2) (v1++v2) bs->∃ b1 b2,bs=b1++b2/\FpRow w t1 d1 v1 b1/\FpRow w t2 d2 v2 b2:=by
 intro t1
 induction t1 with
 | nil=>
  intro t2 d1 d2 v1 v2 bs hd hv h
  obtain rfl:=List.eq_nil_of_length_eq_zero hd
  obtain rfl:=List.eq_nil_of_length_eq_zero hv
  exact ⟨[],bs,rfl,rfl,h⟩
 | cons t ts ih=>
  intro t2 d1 d2 v1 v2 bs hd hv h
  match d1,v1,hd,hv with
  | d::ds,v::vs,hd,hv=>
   simp only [List.cons_append,FpRow] at h ⊢
   obtain ⟨c1,c2,rfl,p1,p2⟩:=h
   obtain ⟨e1,e2,rfl,q1,q2⟩:=ih ds vs c2 (by simpa using hd) (by simpa using hv) p2
   exact ⟨c1++e1,e2,by simp,⟨c1,e1,rfl,p1,q1⟩,q2⟩
end Go.Proofs.YtcpjekkiejhgpaaDoor
namespace Go.Proofs.YtcpjekkiejhgpaaDoor
open Go.RowKit
attribute [local go_sem ↓] Go.wp_at_zero Go.wp_at_succ
end Go.Proofs.YtcpjekkiejhgpaaDoor
