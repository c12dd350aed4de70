import Derived.Test.YtmedodfenejimaaGreatEvRkI
import Derived.RegionTactic
namespace Go.Proofs.YtmedodfenejimaaGreat
set_option linter.unusedVariables false
set_option linter.unusedSimpArgs false
open Go.RowKit
def Er:Con:={ ι:=(List V2),pre:=λ i=>True,args:=λ i=>[.one (DC.sl 39 [.int,.int] (An i))],res:=λ i=>⟨false,[none],[rcB (i.all A0)]⟩ }
theorem P0:Er.Ok Tryz.prog 212:=Gw rfl ⟨_,Tryz.func212,by decide,rfl⟩ (λ _=>Nat.le_of_ble_eq_true rfl) (λ _=>rfl) (λ l=>[.im (.bool (l.all A0))]) (λ _=>rfl) (λ _=>rfl) (λ i hp w us h=>by
 have h:RdRow w [.sl 39 [.int,.int]] [.sl (An i)] us:=h
 obtain ⟨v,vs,rfl,h1,h2⟩:=RdRow.cons2 h
 obtain ⟨-,rfl⟩:=RdRow.nil_inv h2
 refine (I9 i v w (Rd.vecs h1)).mono ?_
 rintro e w' ⟨rfl,hb⟩
 exact ⟨[Value.bool (i.all A0)],rfl,Own.leaf (Fp.mk_bool _),hb⟩)
end Go.Proofs.YtmedodfenejimaaGreat
