import Derived.Test.YtmedodfenejimaaGreatEvRkE
import Derived.Test.YtmedodfenejimaaGreatEvScW
namespace Go.Proofs.YtmedodfenejimaaGreat
set_option linter.unusedVariables false
set_option linter.unusedSimpArgs false
open Go.RowKit
def Dj:Con:={ ι:=Int×Int,pre:=λ i=>True,args:=λ i=>[DA.agg [cI i.1,cI i.2]],res:=λ i=>⟨false,[none],[rcB (A0 (i.1,i.2))]⟩ }
theorem SC:Dj.Ok Tryz.prog 135:=Gw rfl ⟨_,Tryz.func135,by decide,rfl⟩ (λ _=>Nat.le_of_ble_eq_true rfl) (λ _=>rfl) (λ i=>[.im (.bool (A0 (i.1,i.2)))]) (λ _=>rfl) (λ _=>rfl) (λ i hp w us h=>by
 obtain ⟨x,y⟩:=i
 have h:RdRow w [.int,.int] [.int x,.int y] us:=h
 obtain ⟨a,_,rfl,q1,h⟩:=RdRow.cons2 h
 obtain ⟨b,_,rfl,q2,h⟩:=RdRow.cons2 h
 obtain ⟨-,rfl⟩:=RdRow.nil_inv h
 obtain rfl:=Rd.int2 q1
 obtain rfl:=Rd.int2 q2
 refine (Bt x y w).mono ?_
 rintro e w' ⟨rfl,hb⟩
 exact ⟨[Value.bool (A0 (x,y))],rfl,Own.leaf (Fp.mk_bool _),hb⟩)
def Eq:Con:={ ι:=(List V2),pre:=λ i=>True,args:=λ i=>[.one (DC.sl 39 [.int,.int] (An i))],res:=λ i=>⟨false,[none],[rcB (Ae i)]⟩ }
theorem Pz:Eq.Ok Tryz.prog 150:=Gw rfl ⟨_,Tryz.func150,by decide,rfl⟩ (λ _=>Nat.le_of_ble_eq_true rfl) (λ _=>rfl) (λ l=>[.im (.bool (Ae l))]) (λ _=>rfl) (λ _=>rfl) (λ i hp w us h=>by
 have h:RdRow w [.sl 39 [.int,.int]] [.sl (An i)] us:=h
 obtain ⟨v,vs,rfl,h1,h2⟩:=RdRow.cons2 h
 obtain ⟨-,rfl⟩:=RdRow.nil_inv h2
 refine (Oi i v w (Rd.vecs h1)).mono ?_
 rintro e w' ⟨rfl,hb⟩
 exact ⟨[Value.bool (Ae i)],rfl,Own.leaf (Fp.mk_bool _),hb⟩)
def Ca:Con:={ ι:=(List V2),pre:=λ i=>True,args:=λ i=>[.one (DC.sl 39 [.int,.int] (An i))],res:=λ i=>⟨false,[none],[rcB (Ae i)]⟩ }
theorem LK:Ca.Ok Tryz.prog 89:=Gw rfl ⟨_,Tryz.func89,by decide,rfl⟩ (λ _=>Nat.le_of_ble_eq_true rfl) (λ _=>rfl) (λ l=>[.im (.bool (Ae l))]) (λ _=>rfl) (λ _=>rfl) (λ i hp w us h=>by
 have h:RdRow w [.sl 39 [.int,.int]] [.sl (An i)] us:=h
 obtain ⟨v,vs,rfl,h1,h2⟩:=RdRow.cons2 h
 obtain ⟨-,rfl⟩:=RdRow.nil_inv h2
 refine (NH i v w (Rd.vecs h1)).mono ?_
 rintro e w' ⟨rfl,hb⟩
 exact ⟨[Value.bool (Ae i)],rfl,Own.leaf (Fp.mk_bool _),hb⟩)
def RatD.has (r:RatD):Prop:=Dat.has (.sl 3 [.int]) (.sl r.num)/\Dat.has (.sl 3 [.int]) (.sl r.den)
def PtD.has (p:PtD):Prop:=p.x.has/\p.y.has
theorem FT {k n:Nat} (hk:k<n) (hn:n<=1048576):(Int.tmod (IntKind.i64.wrap (((k:Nat):Int)+(1:Int))) ((n:Nat):Int)).toNat=(k+1)%n/\(k+1)%n<n/\Int.tmod (IntKind.i64.wrap (((k:Nat):Int)+(1:Int))) ((n:Nat):Int)=(((k+1)%n:Nat):Int):=by
 have e:Int.tmod (IntKind.i64.wrap (((k:Nat):Int)+(1:Int))) ((n:Nat):Int)=(((k+1)%n:Nat):Int):=by
  rw [AB (by omega) (by omega),show ((k:Nat):Int)+1=((k+1:Nat):Int) by omega,Tf]
 refine ⟨by rw [e];omega,Nat.mod_lt _ (by omega),e⟩
end Go.Proofs.YtmedodfenejimaaGreat
