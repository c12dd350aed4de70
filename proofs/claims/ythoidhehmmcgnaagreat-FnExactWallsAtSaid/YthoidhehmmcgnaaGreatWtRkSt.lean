import Derived.Test.YthoidhehmmcgnaaGreatProg
import Derived.Test.YthoidhehmmcgnaaGreatWtBas
import Derived.Outline
import Derived.Laws.MakeOwn
import Derived.RegionTactic
import Derived.BigRegion
import Derived.Deep.RegionHeld3
import Derived.Deep.DrawnRows
import Derived.Test.YthoidhehmmcgnaaGreatWtRkB
import Derived.Test.YthoidhehmmcgnaaGreatWtExD
import Derived.Test.YthoidhehmmcgnaaGreatWtTyB
namespace Go.Proofs.YthoidhehmmcgnaaGreat
set_option maxRecDepth 100000
set_option linter.unusedVariables false
set_option linter.unusedSimpArgs false
open Go.RowKit
attribute [local go_sem ↓] Go.wp_at_zero Go.wp_at_succ
set_option maxHeartbeats 4000000 in
theorem Zr(ds:List Dat)(vs us:List Value)(w:World)(h:RdRow w [.int,.int] ds vs)(h' : RdRow w [.int,.int] ds us) :
 Calls Tryz.prog 73 #[.agg vs.toArray,.agg us.toArray] w λe w'=>e=.returned (.bool true)/\Below w.heap.size w w':=by
 obtain⟨pd,pds,pv,pvs,rfl,rfl,ph,a0⟩:=RdRow.cons_inv h;obtain⟨px0,rfl,rfl⟩:=Rd.int_inv ph;obtain⟨pd,pds,pv,pvs,rfl,rfl,ph,a1⟩:=RdRow.cons_inv a0;obtain⟨px1,rfl,rfl⟩:=Rd.int_inv ph;obtain⟨rfl,rfl⟩:=RdRow.nil_inv a1;obtain⟨qv,qvs,rfl,qh,h'_0⟩:=RdRow.cons2 h';obtain rfl:=Rd.int2 qh;obtain⟨qv,qvs,rfl,qh,h'_1⟩:=RdRow.cons2 h'_0;obtain rfl:=Rd.int2 qh;obtain⟨-,rfl⟩:=RdRow.nil_inv h'_1;go_enter Tryz.func73,Tryz.ntmps73;go_wp2;go_ret;exact⟨rfl,(by(with_reducible repeat (first|exact Below.refl _ _|assumption|refine Below.drew ?_|refine Below.setCell ?_ ?_ _|refine Below.alloc ?_ ?_ _));all_goals first|(simp;done)|(simp;omega)|omega)⟩
set_option maxHeartbeats 4000000 in
theorem VI(ds:List Dat)(a0:Ae ds<=1048576)(vs:List Value)(w:World)(h:RdRow w [.int,.int] ds vs) :
 Calls Tryz.prog 30 #[.agg vs.toArray] w λe w'=>∃us:List Value,e=.returned (.agg us.toArray)/\Own w' w.heap.size w'.heap.size [.int,.int] ds us/\Below w.heap.size w w':=by
 obtain⟨pd,pds,pv,pvs,rfl,rfl,ph,a1⟩:=RdRow.cons_inv h;obtain⟨px0,rfl,rfl⟩:=Rd.int_inv ph;obtain⟨pd,pds,pv,pvs,rfl,rfl,ph,a2⟩:=RdRow.cons_inv a1;obtain⟨px1,rfl,rfl⟩:=Rd.int_inv ph;obtain⟨rfl,rfl⟩:=RdRow.nil_inv a2;simp only[Ae,Dat.sz]at a0;have HZ:=Lib.hid a0;clear a0;go_enter Tryz.func30,Tryz.ntmps30;go_wp2;refine bodyPost_ret (v:=.agg #[.int .i64 px0,.int .i64 px1]) (by simp[results,Tryz.results30,go_sem]) rfl ⟨[.int .i64 px0,.int .i64 px1],rfl,?_,(by(with_reducible repeat (first|exact Below.refl _ _|assumption|refine Below.drew ?_|refine Below.setCell ?_ ?_ _|refine Below.alloc ?_ ?_ _));all_goals first|(simp;done)|(simp;omega)|omega)⟩;exact(((Own.nil _ w.heap.size w.heap.size).append (Own.leaf (hi:=w.heap.size) (Fp.mk_int _)) (Nat.le_refl _) (Nat.le_refl _)).append (Own.leaf (hi:=w.heap.size) (Fp.mk_int _)) (Nat.le_refl _) (Nat.le_refl _)).mono (Nat.le_refl _) (by simp;try omega)
set_option maxHeartbeats 4000000 in
theorem Yi(ls:List (List Dat))(v u:Value)(w:World)(h:Rd w (.sl 36 [.int,.int]) (.sl ls) v)(h' : Rd w (.sl 36 [.int,.int]) (.sl ls) u) :
 Calls Tryz.prog 39 #[v,u] w λe w'=>e=.returned (.bool true)/\Below w.heap.size w w':=by
 obtain⟨a,cap,rfl,hl,hc,a1⟩:=h.open;obtain⟨a',cap',rfl,hl',hc',a0⟩:=h'.open;have HC:=Lib.hid a1;have HC':=Lib.hid a0;clear a1 h a0 h';go_enter Tryz.func39,Tryz.ntmps39;go_wp2;go_loopw [5] (λi wr=>∃k:Nat,k<=ls.length/\i=.int .i64 k/\Below w.heap.size w wr) (λi _=>ls.length-(intOf i).toNat);case atStart=>exact⟨0,Nat.zero_le _,rfl,Below.refl _ _⟩
 case round=>
  obtain⟨k,hk,rfl,hb⟩:=hrel;by_cases aA:k<ls.length
  ·obtain⟨b,off,row,rfl,a8,a9,a7⟩:=HC.out k aA
   obtain⟨b',off',row',rfl,a3,a4,a2⟩:=HC'.out k aA;generalize ls.getD k []=ld at a7 a2;obtain⟨pd,pds,pv,pvs,rfl,rfl,ph,a5⟩:=RdRow.cons_inv a7;obtain⟨px0,rfl,rfl⟩:=Rd.int_inv ph;obtain⟨pd,pds,pv,pvs,rfl,rfl,ph,a6⟩:=RdRow.cons_inv a5;obtain⟨px1,rfl,rfl⟩:=Rd.int_inv ph;obtain⟨rfl,rfl⟩:=RdRow.nil_inv a6;obtain⟨qv,qvs,rfl,qh,hrow'_0⟩:=RdRow.cons2 a2;obtain rfl:=Rd.int2 qh;obtain⟨qv,qvs,rfl,qh,hrow'_1⟩:=RdRow.cons2 hrow'_0;obtain rfl:=Rd.int2 qh;obtain⟨-,rfl⟩:=RdRow.nil_inv hrow'_1;have d0:wr.cell? ⟨b,off+k*2,none⟩=some (.int .i64 px0):=(hb.cell (p:=⟨b,_,none⟩) a8).trans (by have q:=a9 0 (by decide);simpa[Nat.add_assoc]using q);have d'0:wr.cell? ⟨b',off' + k*2,none⟩=some (.int .i64 px0):=(hb.cell (p:=⟨b',_,none⟩) a3).trans (by have q:=a4 0 (by decide);simpa[Nat.add_assoc]using q);have d1:wr.cell? ⟨b,off+k*2+1,none⟩=some (.int .i64 px1):=(hb.cell (p:=⟨b,_,none⟩) a8).trans (by have q:=a9 1 (by decide);simpa[Nat.add_assoc]using q);have d'1:wr.cell? ⟨b',off' + k*2+1,none⟩=some (.int .i64 px1):=(hb.cell (p:=⟨b',_,none⟩) a3).trans (by have q:=a4 1 (by decide);simpa[Nat.add_assoc]using q);have HB:=Lib.hid hb;have T9:=hb.size;clear a9 a4 hb;go_wp2
   go_region_held3 (λw'=>w'.cell? ⟨b,off+k*2,none⟩=some (.int .i64 px0)/\w'.cell? ⟨b,off+k*2+1,none⟩=some (.int .i64 px1)/\w'.cell? ⟨b',off' + k*2,none⟩=some (.int .i64 px0)/\w'.cell? ⟨b',off' + k*2+1,none⟩=some (.int .i64 px1)) ((refine⟨?_,?_,?_,?_⟩ <;> go_simp))
    (((go_at_call 73);(refine(Zr [.int px0,.int px1] [.int .i64 px0,.int .i64 px1] [.int .i64 px0,.int .i64 px1] _ (RdRow.below (by(with_reducible repeat (first|exact Below.refl _ _|assumption|refine Below.drew ?_|refine Below.setCell ?_ ?_ _|refine Below.alloc ?_ ?_ _));all_goals first|(simp;done)|(simp;omega)|omega) _ _ _ (RdRow.mk_cons (Rd.mk_int px0) (RdRow.mk_cons (Rd.mk_int px1) RdRow.mk_nil))) (RdRow.below (by(with_reducible repeat (first|exact Below.refl _ _|assumption|refine Below.drew ?_|refine Below.setCell ?_ ?_ _|refine Below.alloc ?_ ?_ _));all_goals first|(simp;done)|(simp;omega)|omega) _ _ _ (RdRow.mk_cons (Rd.mk_int px0) (RdRow.mk_cons (Rd.mk_int px1) RdRow.mk_nil)))).mono ?_);rintro e w1 ⟨rfl,hb1⟩;have B1:Below w.heap.size w w1:=Below.trans (Below.drew HB.out) (hb1.mono T9);have HB1:=Lib.hid B1;obtain⟨k1,f1⟩:=Es hb1;(try simp at k1);(try simp at f1);have x1:b<wr.heap.size:=Nat.lt_of_lt_of_le a8 T9;have x2:b' < wr.heap.size:=Nat.lt_of_lt_of_le a3 T9;clear B1 hb1))
   all_goals
    go_wp2
    go_roundw
    case rel=>exact⟨k+1,by omega,by go_num,HB1.out⟩
    case measure=>simp[intOf];omega
  ·have HB:=Lib.hid hb
   clear hb;go_wp2;go_ret;exact⟨rfl,HB.out⟩
theorem Yj:∃bytes,bytes<=1024/\ElemT Tryz.prog 66 36 2 bytes:=by
 cases hi:Tryz.prog.info? 36 with
 |none=>exact absurd hi (by
  have:(Tryz.prog.info? 36).isSome=true:=by kernel_rfl
  intro h;rw[h]at this;cases this)
 |some i=>
  have h1:(Tryz.prog.info? 36).map (λi=>i.zero)=some (some (.agg #[(.int .i64 0),(.int .i64 0)])):=by kernel_rfl
  have h2:(Tryz.prog.info? 36).map (λi=>i.size)=some 2:=by kernel_rfl
  have h3:(Tryz.prog.info? 36).map (λi=>decide (i.bytes<=1024))=some true:=by kernel_rfl
  rw[hi]at h1 h2 h3;simp only[Option.map_some,Option.some.injEq,decide_eq_true_eq]at h1 h2 h3;exact⟨i.bytes,h3,Tryz.underlying66,⟨i,_,hi,h1,h2,rfl,rfl⟩,by decide⟩
set_option maxHeartbeats 4000000 in
theorem Yk(ls:List (List Dat))(aD:ls.length+Aa ls<=1048576)(v:Value)(w:World)(h:Rd w (.sl 36 [.int,.int]) (.sl ls) v) :
 Calls Tryz.prog 31 #[v] w λe w'=>∃u:Value,e=.returned u/\Own w' w.heap.size w'.heap.size [.sl 36 [.int,.int]] [.sl ls] [u]/\Below w.heap.size w w':=by
 obtain⟨a,cap,rfl,hl,hc,a0⟩:=h.open;have HC:=Lib.hid a0;clear a0 h;have aG:ls.length<=1048576:=by omega
 have HZ:=Lib.hid aD;clear aD;obtain⟨bytes,a9,hE⟩:=Yj;obtain⟨i,z,hi,hz,hs1,aH,aI⟩:=hE.info;obtain⟨C,hCs,aJ⟩:∃C:Array Value,C.size=ls.length*2/\∀W:World,(Instr.makeSlice 66 (.int .i64 (ls.length:Int)) (.int .i64 (ls.length:Int))).run Tryz.prog W=.ok (.slice (some ⟨W.heap.size,0,none⟩) ls.length ls.length) (W.alloc (.cells C 36)):=by refine⟨madeCells z.cells (ls.length*i.size),by rw[size_madeCells,hs1],λW=>?_⟩;have hbb:ls.length*i.bytes<=1048576*1024:=Nat.mul_le_mul aG (by omega);have hbc:=Nat.mul_comm ls.length i.bytes;have:=run_make (P:=Tryz.prog) W 66 36 i z hE.slice hi hz .i64 .i64 ls.length ls.length (by omega) (Int.le_refl _) (by omega) (by omega);simpa using this
 have a3:(w.alloc (.cells C 36)).ownsRow w.heap.size 36 2 (.slice (some ⟨w.heap.size,0,none⟩) ls.length ls.length) ls.length C.toList:=World.ownsRow_lit w _ ls.length (Nat.le_refl _) (by unfold maxLen;omega) hCs;have HO0:=Lib.hid (Part.zero (ts:=[.int,.int]) (ls:=ls) a3);clear a3 hi hz hs1 aH aI hCs hE a9;go_enter Tryz.func31,Tryz.ntmps31;go_wp2;clear aJ;go_loopw [4] (λi wr=>∃k:Nat,k<=ls.length/\i=.int .i64 k/\Part wr w.heap.size 36 [.int,.int] (.slice (some ⟨w.heap.size,0,none⟩) ls.length ls.length) ls.length k ls/\Below w.heap.size w wr) (λi _=>ls.length-(intOf i).toNat);case atStart=>exact⟨0,Nat.zero_le _,rfl,HO0.out,(Below.refl _ _).alloc (Nat.le_refl _) _⟩
 case round=>
  clear HO0;obtain⟨k,hk,rfl,hp,hb⟩:=hrel;by_cases aA:k<ls.length
  ·obtain⟨b,off,row,rfl,aE,aB,a7⟩:=HC.out k aA
   have a8:=G9 aA;obtain⟨ld,aC⟩:∃ld,ls.getD k []=ld:=⟨_,rfl⟩;rw[aC]at a7 a8;obtain⟨pd,pds,pv,pvs,rfl,rfl,ph,a4⟩:=RdRow.cons_inv a7;obtain⟨px0,rfl,rfl⟩:=Rd.int_inv ph;obtain⟨pd,pds,pv,pvs,rfl,rfl,ph,a5⟩:=RdRow.cons_inv a4;obtain⟨px1,rfl,rfl⟩:=Rd.int_inv ph;obtain⟨rfl,rfl⟩:=RdRow.nil_inv a5;have d0:wr.cell? ⟨b,off+k*2,none⟩=some (.int .i64 px0):=(hb.cell (p:=⟨b,_,none⟩) aE).trans (by have q:=aB 0 (by decide);simpa[Nat.add_assoc]using q);have d1:wr.cell? ⟨b,off+k*2+1,none⟩=some (.int .i64 px1):=(hb.cell (p:=⟨b,_,none⟩) aE).trans (by have q:=aB 1 (by decide);simpa[Nat.add_assoc]using q);simp only[Ae,Dat.sz]at a8;have HSN:=Lib.hid a8;have HLD:=Lib.hid aC;have HP:=Lib.hid hp;have HB:=Lib.hid hb;have T9:=hb.size;have hgs:w.heap.size<wr.heap.size:=(by obtain⟨xs,q⟩:=HP.out.owns;exact(World.ownsRow.lt q _ rfl).2);clear aC a8 aB hb hp;go_wp2_with fail;refine(VI [.int px0,.int px1] (by have a1:=HZ.out;have a2:=HSN.out;simp only[Ae,Dat.sz];omega) [.int .i64 px0,.int .i64 px1] _ (RdRow.below (by(with_reducible repeat (first|exact Below.refl _ _|assumption|refine Below.drew ?_|refine Below.setCell ?_ ?_ _|refine Below.alloc ?_ ?_ _));all_goals first|(simp;done)|(simp;omega)|omega) _ _ _ (RdRow.mk_cons (Rd.mk_int px0) (RdRow.mk_cons (Rd.mk_int px1) RdRow.mk_nil)))).mono ?_;rintro e w1 ⟨us,rfl,ho,h1⟩;have B1:Below wr.heap.size wr w1:=Below.trans (by(with_reducible repeat (first|exact Below.refl _ _|assumption|refine Below.drew ?_|refine Below.setCell ?_ ?_ _|refine Below.alloc ?_ ?_ _));all_goals first|(simp;done)|(simp;omega)|omega) (h1.mono (by first|(simp;done)|(simp;omega)|omega));have S1:=h1.size;have T1:=B1.size;try simp at S1
   obtain⟨k1,f1⟩:=Es h1;try simp at k1
   try simp at f1
   have Hc1:=Lib.hid h1;clear h1;obtain rfl:us=[.int .i64 px0,.int .i64 px1]:=(by have q:=ho.rd;obtain⟨v0,q0,rfl,e0,aK⟩:=RdRow.cons2 q;obtain rfl:=Rd.int2 e0;obtain⟨v1,q1,rfl,e1,aL⟩:=RdRow.cons2 aK;obtain rfl:=Rd.int2 e1;obtain⟨-,rfl⟩:=RdRow.nil_inv aL;exact rfl);have OW:Hid (Own w1 wr.heap.size w1.heap.size [.int,.int] [.int px0,.int px1] [.int .i64 px0,.int .i64 px1]):=ho;clear ho;have HB1:=Lib.hid (HB.out.trans (B1.mono T9));have HP1:=Lib.hid (Part.below HP.out B1);obtain⟨xs,a6⟩:=HP1.out.owns;have HBB:=Lib.hid B1;clear k1 f1 B1;obtain⟨old0,hd0⟩:∃u,w1.cell? ⟨w.heap.size,k*2,none⟩=some u:=(by rw[a6.cellAt (k*2) (by simp only[List.length_cons,List.length_nil];omega)];exact⟨_,List.getElem?_eq_getElem (by have:=a6.1;simp only[List.length_cons,List.length_nil]at this;omega)⟩);have hf0:=a6.frozenAt (k*2);obtain⟨old1,hd1⟩:∃u,w1.cell? ⟨w.heap.size,k*2+1,none⟩=some u:=(by rw[a6.cellAt (k*2+1) (by simp only[List.length_cons,List.length_nil];omega)];exact⟨_,List.getElem?_eq_getElem (by have:=a6.1;simp only[List.length_cons,List.length_nil]at this;omega)⟩);have hf1:=a6.frozenAt (k*2+1);have ST:=Part.step (cs:=[.int .i64 px0,.int .i64 px1]) HP.out (HBB.out) aA (by rw[HLD.out];exact OW.out) (by omega);have SB:=(HB1.out).trans (OnlyIn.below (B:=w.heap.size) (Et w.heap.size [.int .i64 px0,.int .i64 px1] w1 (k*2)) (λb hb=>by subst hb;exact Nat.le_refl _) (by omega));simp only[stN,List.length_cons,List.length_nil,Nat.reduceAdd]at ST;simp only[stN]at SB;have HST:=Lib.hid ST;have HSB:=Lib.hid SB;clear ST SB a6;go_wp2;go_roundw;case rel=>exact⟨k+1,by omega,by go_num,HST.out,HSB.out⟩
   case measure=>simp[intOf];omega
  ·have aF:k=ls.length:=by omega
   have HF:=Lib.hid (Part.done hp aF);have HB:=Lib.hid hb;clear hp hb aF;go_wp2;go_ret;exact⟨_,rfl,HF.out,HB.out⟩
attribute [local go_sem ↓] Go.wp_at_zero Go.wp_at_succ
set_option maxHeartbeats 4000000 in
theorem Wd(ls:List (List Dat))(v u:Value)(w:World)(h:Rd w (.sl 66 [.sl 36 [.int,.int]]) (.sl ls) v)(h' : Rd w (.sl 66 [.sl 36 [.int,.int]]) (.sl ls) u) :
 Calls Tryz.prog 13 #[v,u] w λe w'=>e=.returned (.bool true)/\Below w.heap.size w w':=by
 obtain⟨a,cap,rfl,hl,hc,a1⟩:=h.open;obtain⟨a',cap',rfl,hl',hc',a0⟩:=h'.open;have HC:=Lib.hid a1;have HC':=Lib.hid a0;clear a1 h a0 h';go_enter Tryz.func13,Tryz.ntmps13;go_wp2;go_loopw [5] (λi wr=>∃k:Nat,k<=ls.length/\i=.int .i64 k/\Below w.heap.size w wr) (λi _=>ls.length-(intOf i).toNat);case atStart=>exact⟨0,Nat.zero_le _,rfl,Below.refl _ _⟩
 case round=>
  obtain⟨k,hk,rfl,hb⟩:=hrel;by_cases a7:k<ls.length
  ·obtain⟨b,off,row,rfl,a8,a9,a4⟩:=HC.out k a7
   obtain⟨b',off',row',rfl,a5,a6,a2⟩:=HC'.out k a7;generalize ls.getD k []=ld at a4 a2;obtain⟨pd,pds,pv,pvs,rfl,rfl,ph,a3⟩:=RdRow.cons_inv a4;obtain⟨pl0,pa0,pc0,rfl,rfl,pe0,pf0,pr0⟩:=Rd.sl_inv ph;obtain⟨rfl,rfl⟩:=RdRow.nil_inv a3;obtain⟨qv,qvs,rfl,qh,hrow'_0⟩:=RdRow.cons2 a2;obtain⟨qa0,qc0,rfl,qe0,qf0,qr0⟩:=Rd.sl2 qh;obtain⟨-,rfl⟩:=RdRow.nil_inv hrow'_0;have d0:wr.cell? ⟨b,off+k,none⟩=some (.slice pa0 pl0.length pc0):=(hb.cell (p:=⟨b,_,none⟩) a8).trans (by have q:=a9 0 (by decide);simpa[Nat.add_assoc]using q);have d'0:wr.cell? ⟨b',off' + k,none⟩=some (.slice qa0 pl0.length qc0):=(hb.cell (p:=⟨b',_,none⟩) a5).trans (by have q:=a6 0 (by decide);simpa[Nat.add_assoc]using q);have H0:=Lib.hid (Rd.below hb _ _ _ pr0);have G0:=Lib.hid (Rd.below hb _ _ _ qr0);clear pr0 qr0;have HB:=Lib.hid hb;have T9:=hb.size;clear a9 a6 hb;go_wp2
   go_region_held3 (λw'=>w'.cell? ⟨b,off+k,none⟩=some (.slice pa0 pl0.length pc0)/\w'.cell? ⟨b',off' + k,none⟩=some (.slice qa0 pl0.length qc0)) ((refine⟨?_,?_⟩ <;> go_simp))
    (((go_at_call 39);(refine(Yi pl0 _ _ _ (Rd.below (by(with_reducible repeat (first|exact Below.refl _ _|assumption|refine Below.drew ?_|refine Below.setCell ?_ ?_ _|refine Below.alloc ?_ ?_ _));all_goals first|(simp;done)|(simp;omega)|omega) _ _ _ H0.out) (Rd.below (by(with_reducible repeat (first|exact Below.refl _ _|assumption|refine Below.drew ?_|refine Below.setCell ?_ ?_ _|refine Below.alloc ?_ ?_ _));all_goals first|(simp;done)|(simp;omega)|omega) _ _ _ G0.out)).mono ?_);rintro e w1 ⟨rfl,hb1⟩;have B1:Below w.heap.size w w1:=Below.trans (Below.drew HB.out) (hb1.mono T9);have HB1:=Lib.hid B1;obtain⟨k1,f1⟩:=Es hb1;(try simp at k1);(try simp at f1);have x1:b<wr.heap.size:=Nat.lt_of_lt_of_le a8 T9;have x2:b' < wr.heap.size:=Nat.lt_of_lt_of_le a5 T9;clear B1 hb1))
   all_goals
    go_wp2
    go_roundw
    case rel=>exact⟨k+1,by omega,by go_num,HB1.out⟩
    case measure=>simp[intOf];omega
  ·have HB:=Lib.hid hb
   clear hb;go_wp2;go_ret;exact⟨rfl,HB.out⟩
theorem We:∃bytes,bytes<=1024/\ElemT Tryz.prog 40 66 1 bytes:=by
 cases hi:Tryz.prog.info? 66 with
 |none=>exact absurd hi (by
  have:(Tryz.prog.info? 66).isSome=true:=by kernel_rfl
  intro h;rw[h]at this;cases this)
 |some i=>
  have h1:(Tryz.prog.info? 66).map (λi=>i.zero)=some (some ((.slice none 0 0))):=by kernel_rfl
  have h2:(Tryz.prog.info? 66).map (λi=>i.size)=some 1:=by kernel_rfl
  have h3:(Tryz.prog.info? 66).map (λi=>decide (i.bytes<=1024))=some true:=by kernel_rfl
  rw[hi]at h1 h2 h3;simp only[Option.map_some,Option.some.injEq,decide_eq_true_eq]at h1 h2 h3;exact⟨i.bytes,h3,Tryz.underlying40,⟨i,_,hi,h1,h2,rfl,rfl⟩,by decide⟩
set_option maxHeartbeats 4000000 in
theorem Wf(ls:List (List Dat))(aB:ls.length+Aa ls<=1048576)(v:Value)(w:World)(h:Rd w (.sl 66 [.sl 36 [.int,.int]]) (.sl ls) v) :
 Calls Tryz.prog 9 #[v] w λe w'=>∃u:Value,e=.returned u/\Own w' w.heap.size w'.heap.size [.sl 66 [.sl 36 [.int,.int]]] [.sl ls] [u]/\Below w.heap.size w w':=by
 obtain⟨a,cap,rfl,hl,hc,a0⟩:=h.open;have HC:=Lib.hid a0;clear a0 h;have aE:ls.length<=1048576:=by omega
 have HZ:=Lib.hid aB;clear aB;obtain⟨bytes,a8,hE⟩:=We;obtain⟨i,z,hi,hz,hs1,aF,aG⟩:=hE.info;obtain⟨C,hCs,aH⟩:∃C:Array Value,C.size=ls.length*1/\∀W:World,(Instr.makeSlice 40 (.int .i64 (ls.length:Int)) (.int .i64 (ls.length:Int))).run Tryz.prog W=.ok (.slice (some ⟨W.heap.size,0,none⟩) ls.length ls.length) (W.alloc (.cells C 66)):=by refine⟨madeCells z.cells (ls.length*i.size),by rw[size_madeCells,hs1],λW=>?_⟩;have hbb:ls.length*i.bytes<=1048576*1024:=Nat.mul_le_mul aE (by omega);have hbc:=Nat.mul_comm ls.length i.bytes;have:=run_make (P:=Tryz.prog) W 40 66 i z hE.slice hi hz .i64 .i64 ls.length ls.length (by omega) (Int.le_refl _) (by omega) (by omega);simpa using this
 have a3:(w.alloc (.cells C 66)).ownsRow w.heap.size 66 1 (.slice (some ⟨w.heap.size,0,none⟩) ls.length ls.length) ls.length C.toList:=World.ownsRow_lit w _ ls.length (Nat.le_refl _) (by unfold maxLen;omega) hCs;have HO0:=Lib.hid (Part.zero (ts:=[.sl 36 [.int,.int]]) (ls:=ls) a3);clear a3 hi hz hs1 aF aG hCs hE a8;go_enter Tryz.func9,Tryz.ntmps9;go_wp2;clear aH;go_loopw [4] (λi wr=>∃k:Nat,k<=ls.length/\i=.int .i64 k/\Part wr w.heap.size 66 [.sl 36 [.int,.int]] (.slice (some ⟨w.heap.size,0,none⟩) ls.length ls.length) ls.length k ls/\Below w.heap.size w wr) (λi _=>ls.length-(intOf i).toNat);case atStart=>exact⟨0,Nat.zero_le _,rfl,HO0.out,(Below.refl _ _).alloc (Nat.le_refl _) _⟩
 case round=>
  clear HO0;obtain⟨k,hk,rfl,hp,hb⟩:=hrel;by_cases a9:k<ls.length
  ·obtain⟨b,off,row,rfl,aI,aC,a5⟩:=HC.out k a9
   have a6:=G9 a9;obtain⟨ld,aA⟩:∃ld,ls.getD k []=ld:=⟨_,rfl⟩;rw[aA]at a5 a6;obtain⟨pd,pds,pv,pvs,rfl,rfl,ph,a4⟩:=RdRow.cons_inv a5;obtain⟨pl0,pa0,pc0,rfl,rfl,pe0,pf0,pr0⟩:=Rd.sl_inv ph;obtain⟨rfl,rfl⟩:=RdRow.nil_inv a4;have d0:wr.cell? ⟨b,off+k,none⟩=some (.slice pa0 pl0.length pc0):=(hb.cell (p:=⟨b,_,none⟩) aI).trans (by have q:=aC 0 (by decide);simpa[Nat.add_assoc]using q);have H0:=Lib.hid (Rd.below hb _ _ _ pr0);clear pr0;simp only[Ae,Dat.sz]at a6;have HSN:=Lib.hid a6;have HLD:=Lib.hid aA;have HP:=Lib.hid hp;have HB:=Lib.hid hb;have T9:=hb.size;have hgs:w.heap.size<wr.heap.size:=(by obtain⟨xs,q⟩:=HP.out.owns;exact(World.ownsRow.lt q _ rfl).2);clear aA a6 aC hb hp;go_wp2_with fail;refine(Yk pl0 (by have a1:=HZ.out;have a2:=HSN.out;omega) _ _ (Rd.below (by(with_reducible repeat (first|exact Below.refl _ _|assumption|refine Below.drew ?_|refine Below.setCell ?_ ?_ _|refine Below.alloc ?_ ?_ _));all_goals first|(simp;done)|(simp;omega)|omega) _ _ _ H0.out)).mono ?_;rintro e w1 ⟨us,rfl,ho,h1⟩;have B1:Below wr.heap.size wr w1:=Below.trans (by(with_reducible repeat (first|exact Below.refl _ _|assumption|refine Below.drew ?_|refine Below.setCell ?_ ?_ _|refine Below.alloc ?_ ?_ _));all_goals first|(simp;done)|(simp;omega)|omega) (h1.mono (by first|(simp;done)|(simp;omega)|omega));have S1:=h1.size;have T1:=B1.size;try simp at S1
   obtain⟨k1,f1⟩:=Es h1;try simp at k1
   try simp at f1
   have Hc1:=Lib.hid h1;clear h1;obtain⟨ua0,uc0,rfl⟩:∃a c,us=.slice a pl0.length c:=(by obtain⟨q,q1,-,-⟩:=Own.one ho;obtain⟨a,c,q2,-⟩:=Rd.sl2 (Fp.rd _ _ _ _ q1);exact⟨a,c,q2⟩);have OW:Hid (Own w1 wr.heap.size w1.heap.size [.sl 36 [.int,.int]] [.sl pl0] [.slice ua0 pl0.length uc0]):=ho;clear ho;have HB1:=Lib.hid (HB.out.trans (B1.mono T9));have HP1:=Lib.hid (Part.below HP.out B1);obtain⟨xs,a7⟩:=HP1.out.owns;have HBB:=Lib.hid B1;clear k1 f1 B1;obtain⟨old0,hd0⟩:∃u,w1.cell? ⟨w.heap.size,k,none⟩=some u:=(by rw[a7.cellAt (k) (by simp only[List.length_cons,List.length_nil];omega)];exact⟨_,List.getElem?_eq_getElem (by have:=a7.1;simp only[List.length_cons,List.length_nil]at this;omega)⟩);have hf0:=a7.frozenAt (k);have ST:=Part.step (cs:=[.slice ua0 pl0.length uc0]) HP.out (HBB.out) a9 (by rw[HLD.out];exact OW.out) (by omega);have SB:=(HB1.out).trans (OnlyIn.below (B:=w.heap.size) (Et w.heap.size [.slice ua0 pl0.length uc0] w1 (k*1)) (λb hb=>by subst hb;exact Nat.le_refl _) (by omega));simp only[stN,List.length_cons,List.length_nil,Nat.reduceAdd,Nat.mul_one]at ST;simp only[stN,Nat.mul_one]at SB;have HST:=Lib.hid ST;have HSB:=Lib.hid SB;clear ST SB a7;go_wp2;go_roundw;case rel=>exact⟨k+1,by omega,by go_num,HST.out,HSB.out⟩
   case measure=>simp[intOf];omega
  ·have aD:k=ls.length:=by omega
   have HF:=Lib.hid (Part.done hp aD);have HB:=Lib.hid hb;clear hp hb aD;go_wp2;go_ret;exact⟨_,rfl,HF.out,HB.out⟩
def Cv:Con:={ι:=(List (List Dat))×Int,pre:=λi=>Dat.has (.sl 3 [.int]) (.sl i.1)/\0<=i.2/\i.2<=1048576,args:=λi=>[.one (cS i.1),.one (cI i.2)],res:=λi=>⟨false,[none],[rcI (szR (i.1.length+Aa i.1) i.2)]⟩}
theorem On:Cv.Ok Tryz.prog 26:=by
 refine fok (X:=⟨tt,[],[],12,[]⟩) mixed AG (CTok.nil _) Tryz.func26 (λ_=>[]) ?_;rintro⟨l,n⟩ a0;have a0:Dat.has (.sl 3 [.int]) (.sl l)/\0<=n/\n<=1048576:=a0;refine AH (q:=let Z2:=wR (n-(nI l.length));let Z1:=szR (l.length+Aa l) n;ifB ((decide (Z2<(0:Int)))) ((vI (-1:Int)=vI Z1)) ((vI Z2=vI Z1))) (by kernel_rfl) ?_;conv=>zeta
 delta ifB vI wR nI;obtain⟨hh,h0,h1⟩:=a0;have hz:=JW (by decide) hh;simp only[Dat.has]at hh;obtain⟨hl,-⟩:=hh;have hw:IntKind.i64.wrap (n-(l.length:Int))=n-l.length:=AB (by omega) (by omega);refine⟨λc1=>?_,λc1=>?_⟩;simp only[nrm]at c1;refine AU ?_;try rw[hw]at *;grind[szR]
 simp only[nrm]at c1;refine AU ?_;try rw[hw]at *;grind[szR]
def Gx:Con:={ι:=(List (List Dat))×Int,pre:=λi=>Dat.has (.sl 36 [.int,.int]) (.sl i.1)/\0<=i.2/\i.2<=1048576,args:=λi=>[.one (DC.sl 23 [.int,.int] i.1),.one (cI i.2)],res:=λi=>⟨false,[none],[rcI (szR (i.1.length+Aa i.1) i.2)]⟩}
theorem Wg:Gx.Ok Tryz.prog 24:=by
 refine fok (X:=⟨tt,[],[],12,[]⟩) mixed AG (CTok.nil _) Tryz.func24 (λ_=>[]) ?_;rintro⟨l,n⟩ a0;have a0:Dat.has (.sl 36 [.int,.int]) (.sl l)/\0<=n/\n<=1048576:=a0;refine AH (q:=let Z2:=wR (n-(nI l.length));let Z1:=szR (l.length+Aa l) n;ifB ((decide (Z2<(0:Int)))) ((vI (-1:Int)=vI Z1)) ((vI Z2=vI Z1))) (by kernel_rfl) ?_;conv=>zeta
 delta ifB vI wR nI;obtain⟨hh,h0,h1⟩:=a0;have hz:=JW (by decide) hh;simp only[Dat.has]at hh;obtain⟨hl,-⟩:=hh;have hw:IntKind.i64.wrap (n-(l.length:Int))=n-l.length:=AB (by omega) (by omega);refine⟨λc1=>?_,λc1=>?_⟩;simp only[nrm]at c1;refine AU ?_;try rw[hw]at *;grind[szR]
 simp only[nrm]at c1;refine AU ?_;try rw[hw]at *;grind[szR]
def Ed:Con:={ι:=BigD×Int,pre:=λi=>hasRow [.bool,.sl 3 [.int]] [.bool i.1.neg,.sl i.1.num]/\0<=i.2/\i.2<=1048576,args:=λi=>[DA.agg [cB i.1.neg,cS i.1.num],.one (cI i.2)],res:=λi=>⟨false,[none],[rcI (szR (Ae [.bool i.1.neg,.sl i.1.num]) i.2)]⟩}
theorem Rw:Ed.Ok Tryz.prog 25:=by
 refine fok (X:=⟨tt,[(26,Cv)],[],12,[]⟩) mixed AG (CTok.cons On (CTok.nil _)) Tryz.func25 (λ_=>[]) ?_;rintro⟨b,n⟩ a0;have a0:hasRow [.bool,.sl 3 [.int]] [.bool b.neg,.sl b.num]/\0<=n/\n<=1048576:=a0;refine AH (q:=let Z1:=szR (Ae [.bool b.neg,.sl b.num]) n;∃i1:(List (List Dat))×Int,let Z2:=szR (i1.1.length+Aa i1.1) i1.2;[DA.one (cS b.num),DA.one (cI n)]=Cv.args i1/\Cv.pre i1/\(ifB ((decide (Z2<(0:Int)))) ((vI (-1:Int)=vI Z1)) ((vI Z2=vI Z1)))) (by kernel_rfl) ?_;conv=>zeta
 delta ifB vI;obtain⟨hh,h0,h1⟩:=a0;simp only[hasRow]at hh
 refine⟨(b.num,n),by
  rfl,by
  refine⟨?_,?_,?_⟩ <;> first|(simp only[hasRow];simp only[hh,and_self];done)|exact hh.1|exact hh.2.1|exact hh.2.2.1|exact hh.2.2.2.1|exact hh.2.2.2.2.1|exact hh.2.2.2.2.2.1|exact hh.2.2.2.2.2.2.1|omega|(unfold szR;grind)|(simp[hh];done),?_⟩
 refine⟨λc4=>?_,λc4=>?_⟩
 ·simp only[nrm]at c4
  refine AU ?_;try simp only[Ae,Dat.sz,Nat.add_zero,Nat.zero_add]at *;all_goals grind[szR]
 simp only[nrm]at c4;refine AU ?_;try simp only[Ae,Dat.sz,Nat.add_zero,Nat.zero_add]at *;all_goals grind[szR]
def GL:Con:={ι:=RatD×Int,pre:=λi=>hasRow [.bool,.sl 3 [.int],.sl 3 [.int]] [.bool i.1.neg,.sl i.1.num,.sl i.1.den]/\0<=i.2/\i.2<=1048576,args:=λi=>[DA.agg [cB i.1.neg,cS i.1.num,cS i.1.den],.one (cI i.2)],res:=λi=>⟨false,[none],[rcI (szR (Ae [.bool i.1.neg,.sl i.1.num,.sl i.1.den]) i.2)]⟩}
theorem Yl:GL.Ok Tryz.prog 6:=by
 refine fok (X:=⟨tt,[(25,Ed),(26,Cv)],[],18,[]⟩) mixed AG (CTok.cons Rw (CTok.cons On (CTok.nil _))) Tryz.func6 (λ_=>[]) ?_;rintro⟨r,n⟩ a0;have a0:hasRow [.bool,.sl 3 [.int],.sl 3 [.int]] [.bool r.neg,.sl r.num,.sl r.den]/\0<=n/\n<=1048576:=a0;refine AH (q:=let Z1:=szR (Ae [.bool r.neg,.sl r.num,.sl r.den]) n;let Z4:=(vI (-1:Int)=vI Z1);∃i1:BigD×Int,let Z2:=szR (Ae [.bool i1.1.neg,.sl i1.1.num]) i1.2;[DA.agg [cB r.neg,cS r.num],DA.one (cI n)]=Ed.args i1/\Ed.pre i1/\(ifB ((decide (Z2<(0:Int)))) Z4 (∃i2:(List (List Dat))×Int,let Z3:=szR (i2.1.length+Aa i2.1) i2.2;[DA.one (cS r.den),DA.one (cI Z2)]=Cv.args i2/\Cv.pre i2/\(ifB ((decide (Z3<(0:Int)))) Z4 ((vI Z3=vI Z1)))))) (by kernel_rfl) ?_;conv=>zeta
 delta ifB vI;obtain⟨hh,h0,h1⟩:=a0;simp only[hasRow]at hh
 refine⟨(BigD.mk r.neg r.num,n),by
  rfl,by
  refine⟨?_,?_,?_⟩ <;> first|(simp only[hasRow];simp only[hh,and_self];done)|exact hh.1|exact hh.2.1|exact hh.2.2.1|exact hh.2.2.2.1|exact hh.2.2.2.2.1|exact hh.2.2.2.2.2.1|exact hh.2.2.2.2.2.2.1|omega|(unfold szR;grind)|(simp[hh];done),?_⟩
 refine⟨λc4=>?_,λc4=>?_⟩
 ·simp only[nrm]at c4
  refine AU ?_;try simp only[Ae,Dat.sz,Nat.add_zero,Nat.zero_add]at *;all_goals grind[szR]
 simp only[nrm]at c4
 refine⟨(r.den,(szR (Ae [.bool (BigD.mk r.neg r.num).neg,.sl (BigD.mk r.neg r.num).num]) n)),by
  rfl,by
  try dsimp only[Cv]
  refine⟨?_,?_,?_⟩ <;> first|(simp only[hasRow];simp only[hh,and_self];done)|exact hh.1|exact hh.2.1|exact hh.2.2.1|exact hh.2.2.2.1|exact hh.2.2.2.2.1|exact hh.2.2.2.2.2.1|exact hh.2.2.2.2.2.2.1|omega|(unfold szR;grind)|(simp[hh];done),?_⟩
 refine⟨λc9=>?_,λc9=>?_⟩
 ·simp only[nrm]at c9
  refine AU ?_;try simp only[Ae,Dat.sz,Nat.add_zero,Nat.zero_add]at *;all_goals grind[szR]
 simp only[nrm]at c9;refine AU ?_;try simp only[Ae,Dat.sz,Nat.add_zero,Nat.zero_add]at *;all_goals grind[szR]
def CG:Con:={ι:=RatD,pre:=λi=>True,args:=λi=>[DA.agg [cB i.neg,cS i.num,cS i.den],DA.agg [cB i.neg,cS i.num,cS i.den]],res:=λi=>⟨false,[none],[rcB true]⟩}
theorem Rx:CG.Ok Tryz.prog 14:=AAk [.bool,.sl 3 [.int],.sl 3 [.int]] ⟨_,Tryz.func14,by decide,rfl⟩ (λ_=>rfl) (λ_=>rfl) (λds vs us w=>Zp ds vs us w)
def Cc:Con:={ι:=RatD,pre:=λi=>Ae [.bool i.neg,.sl i.num,.sl i.den]<=1048576,args:=λi=>[DA.agg [cB i.neg,cS i.num,cS i.den]],res:=λi=>⟨false,[some 3],[rcB i.neg,.own 3 [.int] i.num,.own 3 [.int] i.den]⟩}
theorem Ym:Cc.Ok Tryz.prog 10:=Xb (out:=λr=>[.im (.bool r.neg),.sl 3 [.int] r.num,.sl 3 [.int] r.den]) [.bool,.sl 3 [.int],.sl 3 [.int]] ⟨_,Tryz.func10,by decide,rfl⟩ (λ_=>rfl) (λ_=>rfl) (λ_=>rfl) (λ_=>rfl) (λ_=>rfl) (λ_=>rfl) (λ_=>rfl) (λ_=>Nat.le_of_ble_eq_true rfl) (λ_ h=>h) (λds h vs w=>Zq ds h vs w)
def Fb:Con:={ι:=(List (List Dat)),pre:=λi=>True,args:=λi=>[.one (DC.sl 66 [.sl 36 [.int,.int]] i),.one (DC.sl 66 [.sl 36 [.int,.int]] i)],res:=λi=>⟨false,[none],[rcB true]⟩}
theorem Tp:Fb.Ok Tryz.prog 13:=AAl (.sl 66 [.sl 36 [.int,.int]]) ⟨_,Tryz.func13,by decide,rfl⟩ (λ_=>rfl) (λ_=>rfl) (λd v u w h h'=>by obtain⟨l,_,_,rfl,_⟩:=Rd.sl_inv h;exact Wd l v u w h h')
def Bl:Con:={ι:=(List (List Dat)),pre:=λi=>i.length+Aa i<=1048576,args:=λi=>[.one (DC.sl 59 [.sl 23 [.int,.int]] i)],res:=λi=>⟨false,[none],[.own 66 [.sl 36 [.int,.int]] i]⟩}
theorem Tq:Bl.Ok Tryz.prog 9:=AAm 66 [.sl 36 [.int,.int]] ⟨_,Tryz.func9,by decide,rfl⟩ (λ_=>rfl) (λ_=>rfl) (λ_=>rfl) (λ_ h=>h) (λls h v w=>Wf ls h v w)
def Eq:Con:={ι:=(Int×Int),pre:=λi=>Ae [.int i.1,.int i.2]<=1048576,args:=λi=>[DA.agg [cI i.1,cI i.2]],res:=λi=>⟨false,[some 2],[rcI i.1,rcI i.2]⟩}
theorem Yn:Eq.Ok Tryz.prog 30:=Xb (out:=λp=>[.im (.int .i64 p.1),.im (.int .i64 p.2)]) [.int,.int] ⟨_,Tryz.func30,by decide,rfl⟩ (λ_=>rfl) (λ_=>rfl) (λ_=>rfl) (λ_=>rfl) (λ_=>rfl) (λ_=>rfl) (λ_=>rfl) (λ_=>Nat.le_of_ble_eq_true rfl) (λ_ h=>h) (λds h vs w=>VI ds h vs w)
def Fc:Con:={ι:=(List (List Dat))×Int,pre:=λi=>Dat.has (.sl 59 [.sl 23 [.int,.int]]) (.sl i.1)/\0<=i.2/\i.2<=1048576,args:=λi=>[.one (DC.sl 59 [.sl 23 [.int,.int]] i.1),.one (cI i.2)],res:=λi=>⟨false,[none],[rcI (szR (i.1.length+Aa i.1) i.2)]⟩}
theorem Ts:Fc.Ok Tryz.prog 5:=by
 refine fok (X:=⟨tt,[(24,Gx)],[],27,[]⟩) mixed AG (CTok.cons Wg (CTok.nil _)) Tryz.func5 (λ(i:(List (List Dat))×Int)=>[(5,.mk 2 (Nat×Int) (λx1=>{tm:=[(0,tX 1),(4,tI (0:Int)),(5,tI (x1.1:Int)),(1,tI x1.2)],en:=[(1,.view 59 [.sl 23 [.int,.int]] i.1 [])]}) (λx1=>x1.1<=i.1.length/\0<=x1.2/\x1.2+i.1.length+Aa (i.1.take x1.1)=i.2) (λx1=>i.1.length-x1.1) (λ_=>[]))]) ?_;rintro⟨l,n⟩ a0;have a0:Dat.has (.sl 59 [.sl 23 [.int,.int]]) (.sl l)/\0<=n/\n<=1048576:=a0;refine AH (q:=let Z5:=wR (n-(nI l.length));let Z1:=szR (l.length+Aa l) n;let Z4:=(vI (-1:Int)=vI Z1);ifB ((decide (Z5<(0:Int)))) Z4 ((∃x1:Nat×Int,(x1.1<=l.length/\0<=x1.2/\x1.2+l.length+Aa (l.take x1.1)=n)/\((rf (vI (0:Int)))/\(vI (0:Int)=vI (x1.1:Int))/\(vI Z5=vI x1.2)/\(rf (l))))/\∀x1:Nat×Int,let Z3:=(x1.1:Int);(x1.1<=l.length/\0<=x1.2/\x1.2+l.length+Aa (l.take x1.1)=n)->(ifB ((decide (Z3<(nI l.length)))) ((0<=Z3/\Z3<(l.length:Int))/\((x1.1<l.length)/\(∃i1:(List (List Dat))×Int,let Z2:=szR (i1.1.length+Aa i1.1) i1.2;[DA.one (DC.sl 23 [.int,.int] ((((l.getD x1.1 []).getD 0 (.int 0))).r)),DA.one (cI x1.2)]=Gx.args i1/\Gx.pre i1/\(ifB ((decide (Z2<(0:Int)))) Z4 (∃y2:Nat×Int,(y2.1<=l.length/\0<=y2.2/\y2.2+l.length+Aa (l.take y2.1)=n)/\(l.length-y2.1<l.length-x1.1)/\((rf (vI (0:Int)))/\(vI (wR (Z3+(1:Int)))=vI (y2.1:Int))/\(vI Z2=vI y2.2)/\(rf (l)))))))) ((vI x1.2=vI Z1))))) (by kernel_rfl) ?_;conv=>zeta
 delta ifB vI wR nI;obtain⟨hh,h0,h1⟩:=a0;have hh2:=Dl hh;have hl:=GR hh;have hw:IntKind.i64.wrap (n-(l.length:Int))=n-l.length:=AB (by omega) (by omega);refine⟨λc1=>?_,λc1=>?_⟩;simp only[nrm]at c1;refine AU ?_;try rw[hw]at *;grind[szR]
 simp only[nrm]at c1;refine⟨⟨(0,n-l.length),by rw[hw]at c1;simp[Aa];omega,?_⟩,?_⟩;refine⟨rfl,rfl,?_,rfl⟩;exact AU hw;rintro⟨k,m⟩ a1;have a1:k<=l.length/\0<=m/\m+l.length+Aa (l.take k)=n:=a1;have a5:=HD l k;refine And.symm ⟨λc9=>?_,λc9=>?_⟩;simp only[nrm]at c9;obtain rfl:k=l.length:=by omega
 rw[List.take_length]at a1;refine AU ?_;try rw[hw]at *;grind[szR]
 simp only[nrm]at c9;refine ao (by omega) λo10=>?_;refine ao (by omega) λo11=>?_
 refine⟨(((l.getD k []).getD 0 (.int 0)).r,m),by
  rfl,by
  refine⟨?_,by omega,by omega⟩;have:=hh2 k (by omega);rw[← Pc this]at this;exact this.1,?_⟩
 have a5:=HD l (k+1);have a2:=Kl l k (by omega);have a3:=hh2 k (by omega);rw[← Pc a3]at a2;have a2:Aa (l.take (k+1))=Aa (l.take k)+((((l.getD k []).getD 0 (.int 0)).r).length+Aa (((l.getD k []).getD 0 (.int 0)).r)):=by first|exact a2|simpa only[Ae,Dat.sz,Nat.add_zero]using a2
 refine⟨λa4=>?_,λa4=>?_⟩;simp only[nrm]at a4;refine AU ?_;try rw[hw]at *;grind[szR]
 simp only[nrm]at a4
 refine⟨(k+1,szR ((((l.getD k []).getD 0 (.int 0)).r).length+Aa (((l.getD k []).getD 0 (.int 0)).r)) m),by
  unfold szR at *;grind,by
  omega,?_⟩
 refine⟨rfl,?_,rfl,rfl⟩;exact AU (AB (by omega) (by omega))
def Gy:Con:={ι:=(List Dat),pre:=λi=>True,args:=λi=>[w80 i,w80 i],res:=λi=>⟨false,[none],[rcB true]⟩}
theorem Wh:Gy.Ok Tryz.prog 49:=by
 refine fok (X:=⟨tt,[(14,CG)],[],23,[]⟩) mixed AG (CTok.cons Rx (CTok.nil _)) Tryz.func49 (λ_=>[]) ?_;intro (r:List Dat) a0;have a0:True:=a0;refine AH (q:=let Z1:=(vB false=vB true);∃i1:RatD,[w30 r,w30 r]=CG.args i1/\CG.pre i1/\(ifB ((!true)) Z1 (∃i2:RatD,[dA r 3 4 5,dA r 3 4 5]=CG.args i2/\CG.pre i2/\(ifB ((!true)) Z1 (∃i3:RatD,[dA r 6 7 8,dA r 6 7 8]=CG.args i3/\CG.pre i3/\(ifB ((!true)) Z1 ((vB true=vB true)))))))) (by kernel_rfl) ?_;conv=>zeta
 delta dA w30 ifB vB
 refine⟨(RatD.mk ((r.getD 0 (.int 0)).b) ((r.getD 1 (.int 0)).r) ((r.getD 2 (.int 0)).r)),by
  rfl,by
  trivial,?_⟩
 refine⟨λc4=>?_,λc4=>?_⟩;simp only[nrm]at c4;exfalso;simp_all;simp only[nrm]at c4
 refine⟨(RatD.mk ((r.getD 3 (.int 0)).b) ((r.getD 4 (.int 0)).r) ((r.getD 5 (.int 0)).r)),by
  rfl,by
  trivial,?_⟩
 refine⟨λc9=>?_,λc9=>?_⟩;simp only[nrm]at c9;exfalso;simp_all;simp only[nrm]at c9
 refine⟨(RatD.mk ((r.getD 6 (.int 0)).b) ((r.getD 7 (.int 0)).r) ((r.getD 8 (.int 0)).r)),by
  rfl,by
  trivial,?_⟩
 refine⟨λa1=>?_,λa1=>?_⟩;simp only[nrm]at a1;exfalso;simp_all;simp only[nrm]at a1;exact rfl
def Ba:Con:={ι:=(List (List Dat)),pre:=λi=>i.length<=9223372036854775807,args:=λi=>[.one (DC.sl 81 z80 i),.one (DC.sl 81 z80 i)],res:=λi=>⟨false,[none],[rcB true]⟩}
theorem Tt:Ba.Ok Tryz.prog 21:=by
 refine fok (X:=⟨tt,[(49,Gy)],[],27,[]⟩) mixed AG (CTok.cons Wh (CTok.nil _)) Tryz.func21 (λ(i:(List (List Dat)))=>[(4,.mk 3 (Nat) (λx1=>{tm:=[(0,tX 1),(1,tX 2),(5,tI (nI x1))],en:=[(1,.view 81 z80 i []),(2,.view 81 z80 i [])]}) (λx1=>x1<=i.length) (λx1=>i.length-x1) (λ_=>[]))]) ?_;intro (l:List (List Dat)) a0;have a0:l.length<=9223372036854775807:=a0;refine AH (q:=ifB (((nI l.length) != (nI l.length))) ((vB false=vB true)) ((∃x1:Nat,(x1<=l.length)/\((vI (0:Int)=vI (nI x1))/\(rf (l))/\(rf (l))))/\∀x1:Nat,let Z1:=l.getD x1 [];let a3:=((Z1.getD 8 (.int 0))).r;let Z9:=((Z1.getD 7 (.int 0))).r;let Z8:=((Z1.getD 6 (.int 0))).b;let Z7:=((Z1.getD 5 (.int 0))).r;let Z6:=((Z1.getD 4 (.int 0))).r;let Z5:=((Z1.getD 3 (.int 0))).b;let Z4:=((Z1.getD 2 (.int 0))).r;let Z3:=((Z1.getD 1 (.int 0))).r;let Z2:=((Z1.getD 0 (.int 0))).b;(x1<=l.length)->(ifB ((decide ((nI x1)<(nI l.length)))) ((0<=(nI x1)/\(nI x1)<(l.length:Int))/\((x1<l.length)/\((0<=(nI x1)/\(nI x1)<(l.length:Int))/\((x1<l.length)/\(∃i1:(List Dat),[DA.agg [cB Z2,cS Z3,cS Z4,cB Z5,cS Z6,cS Z7,cB Z8,cS Z9,cS a3],DA.agg [cB Z2,cS Z3,cS Z4,cB Z5,cS Z6,cS Z7,cB Z8,cS Z9,cS a3]]=Gy.args i1/\Gy.pre i1/\(ifB ((!true)) ((vB false=vB true)) (∃y2:Nat,(y2<=l.length)/\(l.length-y2<l.length-x1)/\((vI (wR ((nI x1)+(1:Int)))=vI (nI y2))/\(rf (l))/\(rf (l)))))))))) ((vB true=vB true))))) (by kernel_rfl) ?_;conv=>zeta
 delta ifB vB vI wR nI;refine⟨λc1=>?_,λc1=>?_⟩;simp only[nrm]at c1;exfalso;simp_all;simp only[nrm]at c1;refine⟨⟨0,by omega,?_⟩,?_⟩;refine⟨?_,rfl,rfl⟩;rfl;intro (k:Nat) a1;have a1:k<=l.length:=a1;refine And.symm ⟨λc8=>?_,λc8=>?_⟩;simp only[nrm]at c8;exact rfl;simp only[nrm]at c8;refine ao (by omega) λo9=>?_;refine ao (by omega) λo10=>?_;refine ao (by omega) λo11=>?_;refine ao (by omega) λo12=>?_
 refine⟨(l.getD k []),by
  rfl,by
  trivial,?_⟩
 refine⟨λa2=>?_,λa2=>?_⟩;simp only[nrm]at a2;exfalso;simp_all;simp only[nrm]at a2
 refine⟨k+1,by
  trivial,by
  omega,?_⟩
 refine⟨?_,rfl,rfl⟩;exact AU (AB (by omega) (by omega))
theorem Tu{r:List Dat}(h:hasRow [.int,.int,.int,.int] r):r=[.int (r.getD 0 (.int 0)).n,.int (r.getD 1 (.int 0)).n,.int (r.getD 2 (.int 0)).n,.int (r.getD 3 (.int 0)).n]:=by obtain⟨_,_,rfl,q0,h0⟩:=h.cons;obtain⟨_,rfl⟩:=Dat.has_int q0;obtain⟨_,_,rfl,q1,h1⟩:=h0.cons;obtain⟨_,rfl⟩:=Dat.has_int q1;obtain⟨_,_,rfl,q2,h2⟩:=h1.cons;obtain⟨_,rfl⟩:=Dat.has_int q2;obtain⟨_,_,rfl,q3,h3⟩:=h2.cons;obtain⟨_,rfl⟩:=Dat.has_int q3;obtain rfl:=hasRow.nil h3;rfl
theorem ABN{r:List Dat}(h:hasRow [.int,.int,.int,.int] r):Ae r=0:=by rw[Tu h];simp only[Ae,Dat.sz]
theorem ABO{r:List Dat}(h:hasRow [.int,.int,.int,.int] r):Dat.has .int (.int (r.getD 0 (.int 0)).n)/\Dat.has .int (.int (r.getD 1 (.int 0)).n)/\Dat.has .int (.int (r.getD 2 (.int 0)).n)/\Dat.has .int (.int (r.getD 3 (.int 0)).n):=by rw[Tu h]at h;simpa only[hasRow,and_true]using h
def Da:Con:={ι:=(List Dat),pre:=λi=>hasRow [.int,.int,.int,.int] i/\Ae i<=1048576,args:=λi=>[w24 i],res:=λi=>⟨false,[some 4],[rcI ((i.getD 0 (.int 0)).n),rcI ((i.getD 1 (.int 0)).n),rcI ((i.getD 2 (.int 0)).n),rcI ((i.getD 3 (.int 0)).n)]⟩}
theorem Yo:Da.Ok Tryz.prog 8:=by
 refine fok (X:=⟨tt,[(30,Eq)],[],13,[]⟩) mixed AG (CTok.cons Yn (CTok.nil _)) Tryz.func8 (λ_=>[]) ?_;intro (r:List Dat) a0;have a0:hasRow [.int,.int,.int,.int] r/\Ae r<=1048576:=a0;refine AH (q:=∃i1:(Int×Int),[DA.agg [cI ((r.getD 0 (.int 0)).n),cI ((r.getD 1 (.int 0)).n)]]=Eq.args i1/\Eq.pre i1/\(∃i2:(Int×Int),[DA.agg [cI ((r.getD 2 (.int 0)).n),cI ((r.getD 3 (.int 0)).n)]]=Eq.args i2/\Eq.pre i2/\((vI i1.1=vI ((r.getD 0 (.int 0)).n))/\(vI i1.2=vI ((r.getD 1 (.int 0)).n))/\(vI i2.1=vI ((r.getD 2 (.int 0)).n))/\(vI i2.2=vI ((r.getD 3 (.int 0)).n))))) (by kernel_rfl) ?_;delta vI;have hz:=ABN a0.1;have hs:=a0.2;have hp:=ABO a0.1;obtain⟨p0,p1,p2,p3⟩:=hp
 refine⟨(((r.getD 0 (.int 0)).n),((r.getD 1 (.int 0)).n)),by
  rfl,by
  show Ae [.int (((r.getD 0 (.int 0)).n),((r.getD 1 (.int 0)).n)).1,.int (((r.getD 0 (.int 0)).n),((r.getD 1 (.int 0)).n)).2]<=1048576;simp[Ae,Dat.sz];done,?_⟩
 refine⟨(((r.getD 2 (.int 0)).n),((r.getD 3 (.int 0)).n)),by
  rfl,by
  show Ae [.int (((r.getD 2 (.int 0)).n),((r.getD 3 (.int 0)).n)).1,.int (((r.getD 2 (.int 0)).n),((r.getD 3 (.int 0)).n)).2]<=1048576;simp[Ae,Dat.sz];done,?_⟩
 refine⟨?_,?_,?_,?_⟩;·rfl
 ·rfl
 ·rfl
 rfl
end Go.Proofs.YthoidhehmmcgnaaGreat
