import Derived.Test.YthnkggacopepgaaGreatSwRkH
namespace Go.Proofs.YthnkggacopepgaaGreat
set_option linter.unusedVariables false
set_option linter.unusedSimpArgs false
open Go.RowKit
def iValid_con:Con:={ ι:=Scn,pre:=fun i=>True,args:=fun i=>[.agg [.im (.int .i64 i.low.1),.im (.int .i64 i.low.2),.im (.int .i64 i.high.1),.im (.int .i64 i.high.2),.sl 61 [.int,.int] (vecsD i.robot),.sl 33 [.sl 61 [.int,.int]] (areasD i.obst),.sl 61 [.int,.int] (vecsD i.tables)]],res:=fun i=>⟨false,[none],[.im (Value.bool (validScn i))]⟩ }
theorem iValid_ok:iValid_con.Ok Tryz.prog 96:=genOwn_ok rfl ⟨_,Tryz.func96,by decide,rfl⟩ (fun _=>Nat.le_of_ble_eq_true rfl) (fun _=>rfl) (fun s=>[.im (.bool (validScn s))]) (fun _=>rfl) (fun _=>rfl) (fun i hp w us h=>by
 have h:RdRow w [.int,.int,.int,.int,.sl 61 [.int,.int],.sl 33 [.sl 61 [.int,.int]],.sl 61 [.int,.int]] (scnD i) us:=h
 have hl:=(RdRow.lens _ _ _ h).2
 rw [show valD (iValid_con.args i) us=[.agg us.toArray] from valD_one_agg hl]
 refine (IsValidScene_c i _ w (RdRow.scene h)).mono ?_
 rintro e w' ⟨rfl,hb⟩
 exact ⟨[.bool (validScn i)],rfl,Own.leaf (Fp.mk_bool _),hb⟩)
def sValid_con:Con:={ ι:=Scn,pre:=fun i=>True,args:=fun i=>[.agg [.im (.int .i64 i.low.1),.im (.int .i64 i.low.2),.im (.int .i64 i.high.1),.im (.int .i64 i.high.2),.sl 61 [.int,.int] (vecsD i.robot),.sl 33 [.sl 61 [.int,.int]] (areasD i.obst),.sl 61 [.int,.int] (vecsD i.tables)]],res:=fun i=>⟨false,[none],[.im (Value.bool (validScn i))]⟩ }
theorem sValid_ok:sValid_con.Ok Tryz.prog 93:=genOwn_ok rfl ⟨_,Tryz.func93,by decide,rfl⟩ (fun _=>Nat.le_of_ble_eq_true rfl) (fun _=>rfl) (fun s=>[.im (.bool (validScn s))]) (fun _=>rfl) (fun _=>rfl) (fun i hp w us h=>by
 have h:RdRow w [.int,.int,.int,.int,.sl 61 [.int,.int],.sl 33 [.sl 61 [.int,.int]],.sl 61 [.int,.int]] (scnD i) us:=h
 have hl:=(RdRow.lens _ _ _ h).2
 rw [show valD (sValid_con.args i) us=[.agg us.toArray] from valD_one_agg hl]
 refine (sIsValidScene_c i _ w (RdRow.scene h)).mono ?_
 rintro e w' ⟨rfl,hb⟩
 exact ⟨[.bool (validScn i)],rfl,Own.leaf (Fp.mk_bool _),hb⟩)
end Go.Proofs.YthnkggacopepgaaGreat
