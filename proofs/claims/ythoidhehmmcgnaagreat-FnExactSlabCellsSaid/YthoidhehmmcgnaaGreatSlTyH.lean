import Derived.Test.YthoidhehmmcgnaaGreatProg
import Derived.Test.YthoidhehmmcgnaaGreatSlBas
import Derived.Outline
import Derived.Laws.MakeOwn
import Derived.RegionTactic
import Derived.BigRegion
import Derived.Deep.RegionHeld3
import Derived.Deep.DrawnRows
namespace Go.Proofs.YthoidhehmmcgnaaGreat
set_option maxRecDepth 100000
set_option linter.unusedVariables false
set_option linter.unusedSimpArgs false
open Go.RowKit
attribute [local go_sem ↓] Go.wp_at_zero Go.wp_at_succ
set_option maxHeartbeats 4000000 in
theorem SO(ls:List (List Dat))(v u:Value)(w:World)(h:Rd w (.sl 3 [.int]) (.sl ls) v)(h' : Rd w (.sl 3 [.int]) (.sl ls) u) :
 Calls Tryz.prog 41 #[v,u] w λe w'=>e=.returned (.bool true)/\Below w.heap.size w w':=by
 obtain⟨a,cap,rfl,hl,hc,a1⟩:=h.open;obtain⟨a',cap',rfl,hl',hc',a0⟩:=h'.open;have HC:=Lib.hid a1;have HC':=Lib.hid a0;clear a1 h a0 h';go_enter Tryz.func41,Tryz.ntmps41;go_wp2;go_loopw [5] (λi wr=>∃k:Nat,k<=ls.length/\i=.int .i64 k/\Below w.heap.size w wr) (λi _=>ls.length-(intOf i).toNat);case atStart=>exact⟨0,Nat.zero_le _,rfl,Below.refl _ _⟩
 case round=>
  obtain⟨k,hk,rfl,hb⟩:=hrel;by_cases a7:k<ls.length
  ·obtain⟨b,off,row,rfl,a9,a8,a4⟩:=HC.out k a7
   obtain⟨b',off',row',rfl,a6,a5,a2⟩:=HC'.out k a7;generalize ls.getD k []=ld at a4 a2;obtain⟨pd,pds,pv,pvs,rfl,rfl,ph,a3⟩:=RdRow.cons_inv a4;obtain⟨px0,rfl,rfl⟩:=Rd.int_inv ph;obtain⟨rfl,rfl⟩:=RdRow.nil_inv a3;obtain⟨qv,qvs,rfl,qh,hrow'_0⟩:=RdRow.cons2 a2;obtain rfl:=Rd.int2 qh;obtain⟨-,rfl⟩:=RdRow.nil_inv hrow'_0;have d0:wr.cell? ⟨b,off+k,none⟩=some (.int .i64 px0):=(hb.cell (p:=⟨b,_,none⟩) a9).trans (by have q:=a8 0 (by decide);simpa[Nat.add_assoc]using q);have d'0:wr.cell? ⟨b',off' + k,none⟩=some (.int .i64 px0):=(hb.cell (p:=⟨b',_,none⟩) a6).trans (by have q:=a5 0 (by decide);simpa[Nat.add_assoc]using q);have HB:=Lib.hid hb;have T9:=hb.size;clear a8 a5 hb;go_wp2;go_region
   all_goals
    go_wp2
    go_roundw
    case rel=>exact⟨k+1,by omega,by go_num,by first|exact HB.out|exact HB.out.drew⟩
    case measure=>simp[intOf];omega
  ·have HB:=Lib.hid hb
   clear hb;go_wp2;go_ret;exact⟨rfl,HB.out⟩
theorem ZC:∃bytes,bytes<=1024/\ElemT Tryz.prog 27 3 1 bytes:=by
 cases hi:Tryz.prog.info? 3 with
 |none=>exact absurd hi (by
  have:(Tryz.prog.info? 3).isSome=true:=by kernel_rfl
  intro h;rw[h]at this;cases this)
 |some i=>
  have h1:(Tryz.prog.info? 3).map (λi=>i.zero)=some (some ((.int .i64 0))):=by kernel_rfl
  have h2:(Tryz.prog.info? 3).map (λi=>i.size)=some 1:=by kernel_rfl
  have h3:(Tryz.prog.info? 3).map (λi=>decide (i.bytes<=1024))=some true:=by kernel_rfl
  rw[hi]at h1 h2 h3;simp only[Option.map_some,Option.some.injEq,decide_eq_true_eq]at h1 h2 h3;exact⟨i.bytes,h3,Tryz.underlying27,⟨i,_,hi,h1,h2,rfl,rfl⟩,by decide⟩
set_option maxHeartbeats 4000000 in
theorem SP(ls:List (List Dat))(a9:ls.length+Ac ls<=1048576)(v:Value)(w:World)(h:Rd w (.sl 3 [.int]) (.sl ls) v) :
 Calls Tryz.prog 33 #[v] w λe w'=>∃u:Value,e=.returned u/\Own w' w.heap.size w'.heap.size [.sl 3 [.int]] [.sl ls] [u]/\Below w.heap.size w w':=by
 obtain⟨a,cap,rfl,hl,hc,a0⟩:=h.open;have HC:=Lib.hid a0;clear a0 h;have aC:ls.length<=1048576:=by omega
 have HZ:=Lib.hid a9;clear a9;obtain⟨bytes,a6,hE⟩:=ZC;obtain⟨i,z,hi,hz,hs1,aD,aE⟩:=hE.info;obtain⟨C,hCs,aF⟩:∃C:Array Value,C.size=ls.length*1/\∀W:World,(Instr.makeSlice 27 (.int .i64 (ls.length:Int)) (.int .i64 (ls.length:Int))).run Tryz.prog W=.ok (.slice (some ⟨W.heap.size,0,none⟩) ls.length ls.length) (W.alloc (.cells C 3)):=by refine⟨madeCells z.cells (ls.length*i.size),by rw[size_madeCells,hs1],λW=>?_⟩;have hbb:ls.length*i.bytes<=1048576*1024:=Nat.mul_le_mul aC (by omega);have hbc:=Nat.mul_comm ls.length i.bytes;have:=run_make (P:=Tryz.prog) W 27 3 i z hE.slice hi hz .i64 .i64 ls.length ls.length (by omega) (Int.le_refl _) (by omega) (by omega);simpa using this
 have a1:(w.alloc (.cells C 3)).ownsRow w.heap.size 3 1 (.slice (some ⟨w.heap.size,0,none⟩) ls.length ls.length) ls.length C.toList:=World.ownsRow_lit w _ ls.length (Nat.le_refl _) (by unfold maxLen;omega) hCs;have HO0:=Lib.hid (Part.zero (ts:=[.int]) (ls:=ls) a1);clear a1 hi hz hs1 aD aE hCs hE a6;go_enter Tryz.func33,Tryz.ntmps33;go_wp2;clear aF;go_loopw [4] (λi wr=>∃k:Nat,k<=ls.length/\i=.int .i64 k/\Part wr w.heap.size 3 [.int] (.slice (some ⟨w.heap.size,0,none⟩) ls.length ls.length) ls.length k ls/\Below w.heap.size w wr) (λi _=>ls.length-(intOf i).toNat);case atStart=>exact⟨0,Nat.zero_le _,rfl,HO0.out,(Below.refl _ _).alloc (Nat.le_refl _) _⟩
 case round=>
  clear HO0;obtain⟨k,hk,rfl,hp,hb⟩:=hrel;by_cases a7:k<ls.length
  ·obtain⟨b,off,row,rfl,aG,aA,a3⟩:=HC.out k a7
   have a4:=Hi a7;obtain⟨ld,a8⟩:∃ld,ls.getD k []=ld:=⟨_,rfl⟩;rw[a8]at a3 a4;obtain⟨pd,pds,pv,pvs,rfl,rfl,ph,a2⟩:=RdRow.cons_inv a3;obtain⟨px0,rfl,rfl⟩:=Rd.int_inv ph;obtain⟨rfl,rfl⟩:=RdRow.nil_inv a2;have d0:wr.cell? ⟨b,off+k,none⟩=some (.int .i64 px0):=(hb.cell (p:=⟨b,_,none⟩) aG).trans (by have q:=aA 0 (by decide);simpa[Nat.add_assoc]using q);simp only[Ah,Dat.sz]at a4;have HSN:=Lib.hid a4;have HLD:=Lib.hid a8;have HP:=Lib.hid hp;have HB:=Lib.hid hb;have T9:=hb.size;have hgs:w.heap.size<wr.heap.size:=(by obtain⟨xs,q⟩:=HP.out.owns;exact(World.ownsRow.lt q _ rfl).2);clear a8 a4 aA hb hp;have HP1:=Lib.hid (Part.below HP.out (Below.refl _ _));obtain⟨xs,a5⟩:=HP.out.owns;have OW:Hid (Own wr wr.heap.size wr.heap.size [.int] [.int px0] [.int .i64 px0]):=Own.leaf (Fp.mk_int _);obtain⟨old0,hd0⟩:∃u,wr.cell? ⟨w.heap.size,k,none⟩=some u:=(by rw[a5.cellAt (k) (by simp only[List.length_cons,List.length_nil];omega)];exact⟨_,List.getElem?_eq_getElem (by have:=a5.1;simp only[List.length_cons,List.length_nil]at this;omega)⟩);have hf0:=a5.frozenAt (k);have ST:=Part.step (cs:=[.int .i64 px0]) HP.out (Below.refl _ _) a7 (by rw[HLD.out];exact OW.out) (by omega);have SB:=(HB.out).trans (OnlyIn.below (B:=w.heap.size) (FJ w.heap.size [.int .i64 px0] wr (k*1)) (λb hb=>by subst hb;exact Nat.le_refl _) (by omega));simp only[stN,List.length_cons,List.length_nil,Nat.reduceAdd,Nat.mul_one]at ST;simp only[stN,Nat.mul_one]at SB;have HST:=Lib.hid ST;have HSB:=Lib.hid SB;clear ST SB a5;go_wp2;go_roundw;case rel=>exact⟨k+1,by omega,by go_num,HST.out,HSB.out⟩
   case measure=>simp[intOf];omega
  ·have aB:k=ls.length:=by omega
   have HF:=Lib.hid (Part.done hp aB);have HB:=Lib.hid hb;clear hp hb aB;go_wp2;go_ret;exact⟨_,rfl,HF.out,HB.out⟩
attribute [local go_sem ↓] Go.wp_at_zero Go.wp_at_succ
set_option maxHeartbeats 4000000 in
theorem UE(ds:List Dat)(vs us:List Value)(w:World)(h:RdRow w [.bool,.sl 3 [.int]] ds vs)(h' : RdRow w [.bool,.sl 3 [.int]] ds us) :
 Calls Tryz.prog 40 #[.agg vs.toArray,.agg us.toArray] w λe w'=>e=.returned (.bool true)/\Below w.heap.size w w':=by
 obtain⟨pd,pds,pv,pvs,rfl,rfl,ph,a0⟩:=RdRow.cons_inv h;obtain⟨px0,rfl,rfl⟩:=Rd.bool_inv ph;obtain⟨pd,pds,pv,pvs,rfl,rfl,ph,a1⟩:=RdRow.cons_inv a0;obtain⟨pl1,pa1,pc1,rfl,rfl,pe1,pf1,pr1⟩:=Rd.sl_inv ph;obtain⟨rfl,rfl⟩:=RdRow.nil_inv a1;obtain⟨qv,qvs,rfl,qh,h'_0⟩:=RdRow.cons2 h';obtain rfl:=Rd.bool2 qh;obtain⟨qv,qvs,rfl,qh,h'_1⟩:=RdRow.cons2 h'_0;obtain⟨qa1,qc1,rfl,qe1,qf1,qr1⟩:=Rd.sl2 qh;obtain⟨-,rfl⟩:=RdRow.nil_inv h'_1;have H1:=Lib.hid pr1;have G1:=Lib.hid qr1;clear pr1 qr1;go_enter Tryz.func40,Tryz.ntmps40;go_wp2_with fail;refine(SO pl1 _ _ _ (Rd.below (by(with_reducible repeat (first|exact Below.refl _ _|assumption|refine Below.drew ?_|refine Below.setCell ?_ ?_ _|refine Below.alloc ?_ ?_ _));all_goals first|(simp;done)|(simp;omega)|omega) _ _ _ H1.out) (Rd.below (by(with_reducible repeat (first|exact Below.refl _ _|assumption|refine Below.drew ?_|refine Below.setCell ?_ ?_ _|refine Below.alloc ?_ ?_ _));all_goals first|(simp;done)|(simp;omega)|omega) _ _ _ G1.out)).mono ?_;rintro e w1 ⟨rfl,h1⟩;have B1:Below w.heap.size w w1:=Below.trans (by(with_reducible repeat (first|exact Below.refl _ _|assumption|refine Below.drew ?_|refine Below.setCell ?_ ?_ _|refine Below.alloc ?_ ?_ _));all_goals first|(simp;done)|(simp;omega)|omega) (h1.mono (by first|(simp;done)|(simp;omega)|omega));have S1:=h1.size;have T1:=B1.size;try simp at S1
 obtain⟨k1,f1⟩:=FI h1;try simp at k1
 try simp at f1
 have Hc1:=Lib.hid h1;clear h1;have u1_0:w.heap.size<w1.heap.size:=by omega
 have u1_1:w.heap.size+1<w1.heap.size:=by omega
 go_wp2;go_ret;exact⟨rfl,(by(with_reducible repeat (first|exact Below.refl _ _|assumption|refine Below.drew ?_|refine Below.setCell ?_ ?_ _|refine Below.alloc ?_ ?_ _));all_goals first|(simp;done)|(simp;omega)|omega)⟩
set_option maxHeartbeats 4000000 in
theorem UF(ds:List Dat)(a0:Ah ds<=1048576)(vs:List Value)(w:World)(h:RdRow w [.bool,.sl 3 [.int]] ds vs) :
 Calls Tryz.prog 32 #[.agg vs.toArray] w λe w'=>∃us:List Value,e=.returned (.agg us.toArray)/\Own w' w.heap.size w'.heap.size [.bool,.sl 3 [.int]] ds us/\Below w.heap.size w w':=by
 obtain⟨pd,pds,pv,pvs,rfl,rfl,ph,a2⟩:=RdRow.cons_inv h;obtain⟨px0,rfl,rfl⟩:=Rd.bool_inv ph;obtain⟨pd,pds,pv,pvs,rfl,rfl,ph,a3⟩:=RdRow.cons_inv a2;obtain⟨pl1,pa1,pc1,rfl,rfl,pe1,pf1,pr1⟩:=Rd.sl_inv ph;obtain⟨rfl,rfl⟩:=RdRow.nil_inv a3;have H1:=Lib.hid pr1;clear pr1;simp only[Ah,Dat.sz]at a0;have HZ:=Lib.hid a0;clear a0;go_enter Tryz.func32,Tryz.ntmps32;go_wp2_with fail;refine(SP pl1 (by have hz:=HZ.out;omega) _ _ (Rd.below (by(with_reducible repeat (first|exact Below.refl _ _|assumption|refine Below.drew ?_|refine Below.setCell ?_ ?_ _|refine Below.alloc ?_ ?_ _));all_goals first|(simp;done)|(simp;omega)|omega) _ _ _ H1.out)).mono ?_;rintro e w1 ⟨u1,rfl,ho1,h1⟩;have B1:Below w.heap.size w w1:=Below.trans (by(with_reducible repeat (first|exact Below.refl _ _|assumption|refine Below.drew ?_|refine Below.setCell ?_ ?_ _|refine Below.alloc ?_ ?_ _));all_goals first|(simp;done)|(simp;omega)|omega) (h1.mono (by first|(simp;done)|(simp;omega)|omega));have S1:=h1.size;have T1:=B1.size;try simp at S1
 obtain⟨k1,f1⟩:=FI h1;try simp at k1
 try simp at f1
 have Hc1:=Lib.hid h1;clear h1;have u1_0:w.heap.size<w1.heap.size:=by omega
 have u1_1:w.heap.size+1<w1.heap.size:=by omega
 have u1_2:w.heap.size+1+1<w1.heap.size:=by omega
 obtain⟨ub1,uc1,rfl⟩:∃a c,u1=.slice a pl1.length c:=by obtain⟨q,q1,-,-⟩:=Own.one ho1;obtain⟨a,c,q2,-⟩:=Rd.sl2 (Fp.rd _ _ _ _ q1);exact⟨a,c,q2⟩
 have P1:OnlyIn (λb=>b<w.heap.size+3) w w1:=OnlyIn.trans (by(with_reducible repeat (first|exact OnlyIn.refl _ _|refine OnlyIn.setCell ?_ ?_ _|refine OnlyIn.alloc ?_ _));all_goals (show _<_;first|(simp;done)|(simp;omega)|omega)) (OnlyIn.of_below Hc1.out);have O1:=Lib.hid ho1;have PP1:=Lib.hid P1;clear ho1 P1;have r0_:w1.cell? ⟨w.heap.size+1+1,0,none⟩=some (.bool px0):=by go_simp
 have s0_:w1.cell? ⟨w.heap.size+1,0,none⟩=some (.bool false):=by go_simp
 have f0_:w1.frozen? ⟨w.heap.size+1,0,none⟩=false:=by go_simp
 have r1_:w1.cell? ⟨w.heap.size+1+1,1,none⟩=some (.slice none 0 0):=by go_simp
 have s1_:w1.cell? ⟨w.heap.size+1,1,none⟩=some (.slice none 0 0):=by go_simp
 have f1_:w1.frozen? ⟨w.heap.size+1,1,none⟩=false:=by go_simp
 have g1_:w1.frozen? ⟨w.heap.size+1+1,1,none⟩=false:=by go_simp
 clear k1 f1;have q0_:(((w1.setCell ⟨w.heap.size+1+1,1,none⟩ (.slice ub1 pl1.length uc1)).setCell ⟨w.heap.size+1,0,none⟩ (.bool px0)).setCell ⟨w.heap.size+1,1,none⟩ (.slice ub1 pl1.length uc1)).cell? ⟨w.heap.size+1,0,none⟩=some (.bool px0):=by go_simp
 have q1_:(((w1.setCell ⟨w.heap.size+1+1,1,none⟩ (.slice ub1 pl1.length uc1)).setCell ⟨w.heap.size+1,0,none⟩ (.bool px0)).setCell ⟨w.heap.size+1,1,none⟩ (.slice ub1 pl1.length uc1)).cell? ⟨w.heap.size+1,1,none⟩=some (.slice ub1 pl1.length uc1):=by go_simp
 have QQ:=Lib.hid (And.intro q0_ (q1_));clear q0_ q1_;have PF:OnlyIn (λb=>b<w.heap.size+3) w1 (((w1.setCell ⟨w.heap.size+1+1,1,none⟩ (.slice ub1 pl1.length uc1)).setCell ⟨w.heap.size+1,0,none⟩ (.bool px0)).setCell ⟨w.heap.size+1,1,none⟩ (.slice ub1 pl1.length uc1)):=(by(with_reducible repeat (first|exact OnlyIn.refl _ _|refine OnlyIn.setCell ?_ ?_ _|refine OnlyIn.alloc ?_ _));all_goals (show _<_;first|(simp;done)|(simp;omega)|omega));have BF:Below w.heap.size w (((w1.setCell ⟨w.heap.size+1+1,1,none⟩ (.slice ub1 pl1.length uc1)).setCell ⟨w.heap.size+1,0,none⟩ (.bool px0)).setCell ⟨w.heap.size+1,1,none⟩ (.slice ub1 pl1.length uc1)):=(by(with_reducible repeat (first|exact Below.refl _ _|assumption|refine Below.drew ?_|refine Below.setCell ?_ ?_ _|refine Below.alloc ?_ ?_ _));all_goals first|(simp;done)|(simp;omega)|omega)
 have FIN:Own (((w1.setCell ⟨w.heap.size+1+1,1,none⟩ (.slice ub1 pl1.length uc1)).setCell ⟨w.heap.size+1,0,none⟩ (.bool px0)).setCell ⟨w.heap.size+1,1,none⟩ (.slice ub1 pl1.length uc1)) w.heap.size (((w1.setCell ⟨w.heap.size+1+1,1,none⟩ (.slice ub1 pl1.length uc1)).setCell ⟨w.heap.size+1,0,none⟩ (.bool px0)).setCell ⟨w.heap.size+1,1,none⟩ (.slice ub1 pl1.length uc1)).heap.size [.bool,.sl 3 [.int]] [.bool px0,.sl pl1] [.bool px0,.slice ub1 pl1.length uc1]:=by
  have a1:(((w1.setCell ⟨w.heap.size+1+1,1,none⟩ (.slice ub1 pl1.length uc1)).setCell ⟨w.heap.size+1,0,none⟩ (.bool px0)).setCell ⟨w.heap.size+1,1,none⟩ (.slice ub1 pl1.length uc1)).heap.size=w1.heap.size:=by simp[World.setCell]
  rw[a1];have own1:Own (((w1.setCell ⟨w.heap.size+1+1,1,none⟩ (.slice ub1 pl1.length uc1)).setCell ⟨w.heap.size+1,0,none⟩ (.bool px0)).setCell ⟨w.heap.size+1,1,none⟩ (.slice ub1 pl1.length uc1)) (w.heap.size+3) w1.heap.size [.sl 3 [.int]] [.sl pl1] [.slice ub1 pl1.length uc1]:=by have o:=O1.out;simp only[World.size_alloc]at o;exact(o.only (PF) (λb hb=>.inl (by omega))).mono (by omega) (Nat.le_refl _)
  exact(((Own.nil _ w.heap.size (w.heap.size+3)).append (Own.leaf (hi:=w.heap.size+3) (Fp.mk_bool _)) (by omega) (by omega)).append own1 (by omega) (by omega)).mono (Nat.le_refl _) (by omega)
 have FF:=Lib.hid FIN;clear FIN PF;go_wp2;obtain⟨q0_,q1_⟩:=QQ.out;exact bodyPost_ret (v:=.agg #[.bool px0,.slice ub1 pl1.length uc1]) (by simp[results,Tryz.results32,go_sem,q0_,q1_]) rfl ⟨_,rfl,FF.out,BF⟩
set_option maxHeartbeats 4000000 in
theorem AAX(ds:List Dat)(vs us:List Value)(w:World)(h:RdRow w [.bool,.sl 3 [.int],.sl 3 [.int]] ds vs)(h' : RdRow w [.bool,.sl 3 [.int],.sl 3 [.int]] ds us) :
 Calls Tryz.prog 14 #[.agg vs.toArray,.agg us.toArray] w λe w'=>e=.returned (.bool true)/\Below w.heap.size w w':=by
 obtain⟨pd,pds,pv,pvs,rfl,rfl,ph,a0⟩:=RdRow.cons_inv h;obtain⟨px0,rfl,rfl⟩:=Rd.bool_inv ph;obtain⟨pd,pds,pv,pvs,rfl,rfl,ph,a1⟩:=RdRow.cons_inv a0;obtain⟨pl1,pa1,pc1,rfl,rfl,pe1,pf1,pr1⟩:=Rd.sl_inv ph;obtain⟨pd,pds,pv,pvs,rfl,rfl,ph,a2⟩:=RdRow.cons_inv a1;obtain⟨pl2,pa2,pc2,rfl,rfl,pe2,pf2,pr2⟩:=Rd.sl_inv ph;obtain⟨rfl,rfl⟩:=RdRow.nil_inv a2;obtain⟨qv,qvs,rfl,qh,h'_0⟩:=RdRow.cons2 h';obtain rfl:=Rd.bool2 qh;obtain⟨qv,qvs,rfl,qh,h'_1⟩:=RdRow.cons2 h'_0;obtain⟨qa1,qc1,rfl,qe1,qf1,qr1⟩:=Rd.sl2 qh;obtain⟨qv,qvs,rfl,qh,h'_2⟩:=RdRow.cons2 h'_1;obtain⟨qa2,qc2,rfl,qe2,qf2,qr2⟩:=Rd.sl2 qh;obtain⟨-,rfl⟩:=RdRow.nil_inv h'_2;have H1:=Lib.hid pr1;have G1:=Lib.hid qr1;clear pr1 qr1;have H2:=Lib.hid pr2;have G2:=Lib.hid qr2;clear pr2 qr2;go_enter Tryz.func14,Tryz.ntmps14;go_wp2_with fail;refine(UE [.bool px0,.sl pl1] [.bool px0,.slice pa1 pl1.length pc1] [.bool px0,.slice qa1 pl1.length qc1] _ (RdRow.below (by(with_reducible repeat (first|exact Below.refl _ _|assumption|refine Below.drew ?_|refine Below.setCell ?_ ?_ _|refine Below.alloc ?_ ?_ _));all_goals first|(simp;done)|(simp;omega)|omega) _ _ _ (RdRow.mk_cons (Rd.mk_bool px0) (RdRow.mk_cons H1.out RdRow.mk_nil))) (RdRow.below (by(with_reducible repeat (first|exact Below.refl _ _|assumption|refine Below.drew ?_|refine Below.setCell ?_ ?_ _|refine Below.alloc ?_ ?_ _));all_goals first|(simp;done)|(simp;omega)|omega) _ _ _ (RdRow.mk_cons (Rd.mk_bool px0) (RdRow.mk_cons G1.out RdRow.mk_nil)))).mono ?_;rintro e w1 ⟨rfl,h1⟩;have B1:Below w.heap.size w w1:=Below.trans (by(with_reducible repeat (first|exact Below.refl _ _|assumption|refine Below.drew ?_|refine Below.setCell ?_ ?_ _|refine Below.alloc ?_ ?_ _));all_goals first|(simp;done)|(simp;omega)|omega) (h1.mono (by first|(simp;done)|(simp;omega)|omega));have S1:=h1.size;have T1:=B1.size;try simp at S1
 obtain⟨k1,f1⟩:=FI h1;try simp at k1
 try simp at f1
 have Hc1:=Lib.hid h1;clear h1;have u1_0:w.heap.size<w1.heap.size:=by omega
 have u1_1:w.heap.size+1<w1.heap.size:=by omega
 go_wp2_with fail;refine(SO pl2 _ _ _ (Rd.below (by(with_reducible repeat (first|exact Below.refl _ _|assumption|refine Below.drew ?_|refine Below.setCell ?_ ?_ _|refine Below.alloc ?_ ?_ _));all_goals first|(simp;done)|(simp;omega)|omega) _ _ _ H2.out) (Rd.below (by(with_reducible repeat (first|exact Below.refl _ _|assumption|refine Below.drew ?_|refine Below.setCell ?_ ?_ _|refine Below.alloc ?_ ?_ _));all_goals first|(simp;done)|(simp;omega)|omega) _ _ _ G2.out)).mono ?_;rintro e w2 ⟨rfl,h2⟩;have B2:Below w.heap.size w w2:=Below.trans (by(with_reducible repeat (first|exact Below.refl _ _|assumption|refine Below.drew ?_|refine Below.setCell ?_ ?_ _|refine Below.alloc ?_ ?_ _));all_goals first|(simp;done)|(simp;omega)|omega) (h2.mono (by first|(simp;done)|(simp;omega)|omega));have S2:=h2.size;have T2:=B2.size;try simp at S2
 obtain⟨k2,f2⟩:=FI h2;try simp at k2
 try simp at f2
 have Hc2:=Lib.hid h2;clear h2;have u2_0:w.heap.size<w2.heap.size:=by omega
 have u2_1:w.heap.size+1<w2.heap.size:=by omega
 go_wp2;go_ret;exact⟨rfl,(by(with_reducible repeat (first|exact Below.refl _ _|assumption|refine Below.drew ?_|refine Below.setCell ?_ ?_ _|refine Below.alloc ?_ ?_ _));all_goals first|(simp;done)|(simp;omega)|omega)⟩
set_option maxHeartbeats 4000000 in
theorem AAY(ds:List Dat)(a0:Ah ds<=1048576)(vs:List Value)(w:World)(h:RdRow w [.bool,.sl 3 [.int],.sl 3 [.int]] ds vs) :
 Calls Tryz.prog 10 #[.agg vs.toArray] w λe w'=>∃us:List Value,e=.returned (.agg us.toArray)/\Own w' w.heap.size w'.heap.size [.bool,.sl 3 [.int],.sl 3 [.int]] ds us/\Below w.heap.size w w':=by
 obtain⟨pd,pds,pv,pvs,rfl,rfl,ph,a3⟩:=RdRow.cons_inv h;obtain⟨px0,rfl,rfl⟩:=Rd.bool_inv ph;obtain⟨pd,pds,pv,pvs,rfl,rfl,ph,a4⟩:=RdRow.cons_inv a3;obtain⟨pl1,pa1,pc1,rfl,rfl,pe1,pf1,pr1⟩:=Rd.sl_inv ph;obtain⟨pd,pds,pv,pvs,rfl,rfl,ph,a5⟩:=RdRow.cons_inv a4;obtain⟨pl2,pa2,pc2,rfl,rfl,pe2,pf2,pr2⟩:=Rd.sl_inv ph;obtain⟨rfl,rfl⟩:=RdRow.nil_inv a5;have H1:=Lib.hid pr1;clear pr1;have H2:=Lib.hid pr2;clear pr2;simp only[Ah,Dat.sz]at a0;have HZ:=Lib.hid a0;clear a0;go_enter Tryz.func10,Tryz.ntmps10;go_wp2_with fail;refine(UF [.bool px0,.sl pl1] (by have hz:=HZ.out;simp only[Ah,Dat.sz];omega) [.bool px0,.slice pa1 pl1.length pc1] _ (RdRow.below (by(with_reducible repeat (first|exact Below.refl _ _|assumption|refine Below.drew ?_|refine Below.setCell ?_ ?_ _|refine Below.alloc ?_ ?_ _));all_goals first|(simp;done)|(simp;omega)|omega) _ _ _ (RdRow.mk_cons (Rd.mk_bool px0) (RdRow.mk_cons H1.out RdRow.mk_nil)))).mono ?_;rintro e w1 ⟨u1,rfl,ho1,h1⟩;have B1:Below w.heap.size w w1:=Below.trans (by(with_reducible repeat (first|exact Below.refl _ _|assumption|refine Below.drew ?_|refine Below.setCell ?_ ?_ _|refine Below.alloc ?_ ?_ _));all_goals first|(simp;done)|(simp;omega)|omega) (h1.mono (by first|(simp;done)|(simp;omega)|omega));have S1:=h1.size;have T1:=B1.size;try simp at S1
 obtain⟨k1,f1⟩:=FI h1;try simp at k1
 try simp at f1
 have Hc1:=Lib.hid h1;clear h1;have u1_0:w.heap.size<w1.heap.size:=by omega
 have u1_1:w.heap.size+1<w1.heap.size:=by omega
 have u1_2:w.heap.size+1+1<w1.heap.size:=by omega
 obtain⟨ub1,uc1,rfl⟩:∃ub1 uc1,u1=[.bool px0,.slice ub1 pl1.length uc1]:=by have q:=ho1.rd;obtain⟨v0,q0,rfl,e0,a6⟩:=RdRow.cons2 q;obtain rfl:=Rd.bool2 e0;obtain⟨v1,q1,rfl,e1,a7⟩:=RdRow.cons2 a6;obtain⟨a1,c1,rfl,-⟩:=Rd.sl2 e1;obtain⟨-,rfl⟩:=RdRow.nil_inv a7;exact⟨a1,c1,rfl⟩
 have P1:OnlyIn (λb=>b<w.heap.size+3) w w1:=OnlyIn.trans (by(with_reducible repeat (first|exact OnlyIn.refl _ _|refine OnlyIn.setCell ?_ ?_ _|refine OnlyIn.alloc ?_ _));all_goals (show _<_;first|(simp;done)|(simp;omega)|omega)) (OnlyIn.of_below Hc1.out);have O1:=Lib.hid ho1;have PP1:=Lib.hid P1;clear ho1 P1;go_wp2_with fail;refine(SP pl2 (by have hz:=HZ.out;omega) _ _ (Rd.below (by(with_reducible repeat (first|exact Below.refl _ _|assumption|refine Below.drew ?_|refine Below.setCell ?_ ?_ _|refine Below.alloc ?_ ?_ _));all_goals first|(simp;done)|(simp;omega)|omega) _ _ _ H2.out)).mono ?_;rintro e w2 ⟨u2,rfl,ho2,h2⟩;have B2:Below w.heap.size w w2:=Below.trans (by(with_reducible repeat (first|exact Below.refl _ _|assumption|refine Below.drew ?_|refine Below.setCell ?_ ?_ _|refine Below.alloc ?_ ?_ _));all_goals first|(simp;done)|(simp;omega)|omega) (h2.mono (by first|(simp;done)|(simp;omega)|omega));have S2:=h2.size;have T2:=B2.size;try simp at S2
 obtain⟨k2,f2⟩:=FI h2;try simp at k2
 try simp at f2
 have Hc2:=Lib.hid h2;clear h2;have u2_0:w.heap.size<w2.heap.size:=by omega
 have u2_1:w.heap.size+1<w2.heap.size:=by omega
 have u2_2:w.heap.size+1+1<w2.heap.size:=by omega
 obtain⟨ub2,uc2,rfl⟩:∃a c,u2=.slice a pl2.length c:=by obtain⟨q,q1,-,-⟩:=Own.one ho2;obtain⟨a,c,q2,-⟩:=Rd.sl2 (Fp.rd _ _ _ _ q1);exact⟨a,c,q2⟩
 have P2:OnlyIn (λb=>b<w.heap.size+3) w1 w2:=OnlyIn.trans (by(with_reducible repeat (first|exact OnlyIn.refl _ _|refine OnlyIn.setCell ?_ ?_ _|refine OnlyIn.alloc ?_ _));all_goals (show _<_;first|(simp;done)|(simp;omega)|omega)) (OnlyIn.of_below Hc2.out);have O2:=Lib.hid ho2;have PP2:=Lib.hid P2;clear ho2 P2;have r0_:w2.cell? ⟨w.heap.size+1+1,0,none⟩=some (.bool px0):=by go_simp
 have s0_:w2.cell? ⟨w.heap.size+1,0,none⟩=some (.bool false):=by go_simp
 have f0_:w2.frozen? ⟨w.heap.size+1,0,none⟩=false:=by go_simp
 have r1_:w2.cell? ⟨w.heap.size+1+1,1,none⟩=some (.slice ub1 pl1.length uc1):=by go_simp
 have s1_:w2.cell? ⟨w.heap.size+1,1,none⟩=some (.slice none 0 0):=by go_simp
 have f1_:w2.frozen? ⟨w.heap.size+1,1,none⟩=false:=by go_simp
 have r2_:w2.cell? ⟨w.heap.size+1+1,2,none⟩=some (.slice none 0 0):=by go_simp
 have s2_:w2.cell? ⟨w.heap.size+1,2,none⟩=some (.slice none 0 0):=by go_simp
 have f2_:w2.frozen? ⟨w.heap.size+1,2,none⟩=false:=by go_simp
 have g2_:w2.frozen? ⟨w.heap.size+1+1,2,none⟩=false:=by go_simp
 clear k1 f1 k2 f2;have q0_:((((w2.setCell ⟨w.heap.size+1+1,2,none⟩ (.slice ub2 pl2.length uc2)).setCell ⟨w.heap.size+1,0,none⟩ (.bool px0)).setCell ⟨w.heap.size+1,1,none⟩ (.slice ub1 pl1.length uc1)).setCell ⟨w.heap.size+1,2,none⟩ (.slice ub2 pl2.length uc2)).cell? ⟨w.heap.size+1,0,none⟩=some (.bool px0):=by go_simp
 have q1_:((((w2.setCell ⟨w.heap.size+1+1,2,none⟩ (.slice ub2 pl2.length uc2)).setCell ⟨w.heap.size+1,0,none⟩ (.bool px0)).setCell ⟨w.heap.size+1,1,none⟩ (.slice ub1 pl1.length uc1)).setCell ⟨w.heap.size+1,2,none⟩ (.slice ub2 pl2.length uc2)).cell? ⟨w.heap.size+1,1,none⟩=some (.slice ub1 pl1.length uc1):=by go_simp
 have q2_:((((w2.setCell ⟨w.heap.size+1+1,2,none⟩ (.slice ub2 pl2.length uc2)).setCell ⟨w.heap.size+1,0,none⟩ (.bool px0)).setCell ⟨w.heap.size+1,1,none⟩ (.slice ub1 pl1.length uc1)).setCell ⟨w.heap.size+1,2,none⟩ (.slice ub2 pl2.length uc2)).cell? ⟨w.heap.size+1,2,none⟩=some (.slice ub2 pl2.length uc2):=by go_simp
 have QQ:=Lib.hid (And.intro q0_ (And.intro q1_ (q2_)));clear q0_ q1_ q2_;have PF:OnlyIn (λb=>b<w.heap.size+3) w2 ((((w2.setCell ⟨w.heap.size+1+1,2,none⟩ (.slice ub2 pl2.length uc2)).setCell ⟨w.heap.size+1,0,none⟩ (.bool px0)).setCell ⟨w.heap.size+1,1,none⟩ (.slice ub1 pl1.length uc1)).setCell ⟨w.heap.size+1,2,none⟩ (.slice ub2 pl2.length uc2)):=(by(with_reducible repeat (first|exact OnlyIn.refl _ _|refine OnlyIn.setCell ?_ ?_ _|refine OnlyIn.alloc ?_ _));all_goals (show _<_;first|(simp;done)|(simp;omega)|omega));have BF:Below w.heap.size w ((((w2.setCell ⟨w.heap.size+1+1,2,none⟩ (.slice ub2 pl2.length uc2)).setCell ⟨w.heap.size+1,0,none⟩ (.bool px0)).setCell ⟨w.heap.size+1,1,none⟩ (.slice ub1 pl1.length uc1)).setCell ⟨w.heap.size+1,2,none⟩ (.slice ub2 pl2.length uc2)):=(by(with_reducible repeat (first|exact Below.refl _ _|assumption|refine Below.drew ?_|refine Below.setCell ?_ ?_ _|refine Below.alloc ?_ ?_ _));all_goals first|(simp;done)|(simp;omega)|omega)
 have FIN:Own ((((w2.setCell ⟨w.heap.size+1+1,2,none⟩ (.slice ub2 pl2.length uc2)).setCell ⟨w.heap.size+1,0,none⟩ (.bool px0)).setCell ⟨w.heap.size+1,1,none⟩ (.slice ub1 pl1.length uc1)).setCell ⟨w.heap.size+1,2,none⟩ (.slice ub2 pl2.length uc2)) w.heap.size ((((w2.setCell ⟨w.heap.size+1+1,2,none⟩ (.slice ub2 pl2.length uc2)).setCell ⟨w.heap.size+1,0,none⟩ (.bool px0)).setCell ⟨w.heap.size+1,1,none⟩ (.slice ub1 pl1.length uc1)).setCell ⟨w.heap.size+1,2,none⟩ (.slice ub2 pl2.length uc2)).heap.size [.bool,.sl 3 [.int],.sl 3 [.int]] [.bool px0,.sl pl1,.sl pl2] [.bool px0,.slice ub1 pl1.length uc1,.slice ub2 pl2.length uc2]:=by
  have a2:((((w2.setCell ⟨w.heap.size+1+1,2,none⟩ (.slice ub2 pl2.length uc2)).setCell ⟨w.heap.size+1,0,none⟩ (.bool px0)).setCell ⟨w.heap.size+1,1,none⟩ (.slice ub1 pl1.length uc1)).setCell ⟨w.heap.size+1,2,none⟩ (.slice ub2 pl2.length uc2)).heap.size=w2.heap.size:=by simp[World.setCell]
  rw[a2];have own1:Own ((((w2.setCell ⟨w.heap.size+1+1,2,none⟩ (.slice ub2 pl2.length uc2)).setCell ⟨w.heap.size+1,0,none⟩ (.bool px0)).setCell ⟨w.heap.size+1,1,none⟩ (.slice ub1 pl1.length uc1)).setCell ⟨w.heap.size+1,2,none⟩ (.slice ub2 pl2.length uc2)) (w.heap.size+3) w1.heap.size [.bool,.sl 3 [.int]] [.bool px0,.sl pl1] [.bool px0,.slice ub1 pl1.length uc1]:=by have o:=O1.out;simp only[World.size_alloc]at o;exact(o.only (PP2.out.trans (PF)) (λb hb=>.inl (by omega))).mono (by omega) (Nat.le_refl _)
  have own2:Own ((((w2.setCell ⟨w.heap.size+1+1,2,none⟩ (.slice ub2 pl2.length uc2)).setCell ⟨w.heap.size+1,0,none⟩ (.bool px0)).setCell ⟨w.heap.size+1,1,none⟩ (.slice ub1 pl1.length uc1)).setCell ⟨w.heap.size+1,2,none⟩ (.slice ub2 pl2.length uc2)) (w1.heap.size) w2.heap.size [.sl 3 [.int]] [.sl pl2] [.slice ub2 pl2.length uc2]:=by have o:=O2.out;simp only[World.size_setCell]at o;exact(o.only (PF) (λb hb=>.inl (by omega))).mono (by omega) (Nat.le_refl _)
  exact(((Own.nil _ w.heap.size (w.heap.size+3)).append own1 (by omega) (by omega)).append own2 (by omega) (by omega)).mono (Nat.le_refl _) (by omega)
 have FF:=Lib.hid FIN;clear FIN PF;go_wp2;obtain⟨q0_,q1_,q2_⟩:=QQ.out;exact bodyPost_ret (v:=.agg #[.bool px0,.slice ub1 pl1.length uc1,.slice ub2 pl2.length uc2]) (by simp[results,Tryz.results10,go_sem,q0_,q1_,q2_]) rfl ⟨_,rfl,FF.out,BF⟩
attribute [local go_sem ↓] Go.wp_at_zero Go.wp_at_succ
set_option maxHeartbeats 4000000 in
theorem AAZ(ds:List Dat)(vs us:List Value)(w:World)(h:RdRow w [.int,.int] ds vs)(h' : RdRow w [.int,.int] ds us) :
 Calls Tryz.prog 73 #[.agg vs.toArray,.agg us.toArray] w λe w'=>e=.returned (.bool true)/\Below w.heap.size w w':=by
 obtain⟨pd,pds,pv,pvs,rfl,rfl,ph,a0⟩:=RdRow.cons_inv h;obtain⟨px0,rfl,rfl⟩:=Rd.int_inv ph;obtain⟨pd,pds,pv,pvs,rfl,rfl,ph,a1⟩:=RdRow.cons_inv a0;obtain⟨px1,rfl,rfl⟩:=Rd.int_inv ph;obtain⟨rfl,rfl⟩:=RdRow.nil_inv a1;obtain⟨qv,qvs,rfl,qh,h'_0⟩:=RdRow.cons2 h';obtain rfl:=Rd.int2 qh;obtain⟨qv,qvs,rfl,qh,h'_1⟩:=RdRow.cons2 h'_0;obtain rfl:=Rd.int2 qh;obtain⟨-,rfl⟩:=RdRow.nil_inv h'_1;go_enter Tryz.func73,Tryz.ntmps73;go_wp2;go_ret;exact⟨rfl,(by(with_reducible repeat (first|exact Below.refl _ _|assumption|refine Below.drew ?_|refine Below.setCell ?_ ?_ _|refine Below.alloc ?_ ?_ _));all_goals first|(simp;done)|(simp;omega)|omega)⟩
set_option maxHeartbeats 4000000 in
theorem VT(ds:List Dat)(a0:Ah ds<=1048576)(vs:List Value)(w:World)(h:RdRow w [.int,.int] ds vs) :
 Calls Tryz.prog 30 #[.agg vs.toArray] w λe w'=>∃us:List Value,e=.returned (.agg us.toArray)/\Own w' w.heap.size w'.heap.size [.int,.int] ds us/\Below w.heap.size w w':=by
 obtain⟨pd,pds,pv,pvs,rfl,rfl,ph,a1⟩:=RdRow.cons_inv h;obtain⟨px0,rfl,rfl⟩:=Rd.int_inv ph;obtain⟨pd,pds,pv,pvs,rfl,rfl,ph,a2⟩:=RdRow.cons_inv a1;obtain⟨px1,rfl,rfl⟩:=Rd.int_inv ph;obtain⟨rfl,rfl⟩:=RdRow.nil_inv a2;simp only[Ah,Dat.sz]at a0;have HZ:=Lib.hid a0;clear a0;go_enter Tryz.func30,Tryz.ntmps30;go_wp2;refine bodyPost_ret (v:=.agg #[.int .i64 px0,.int .i64 px1]) (by simp[results,Tryz.results30,go_sem]) rfl ⟨[.int .i64 px0,.int .i64 px1],rfl,?_,(by(with_reducible repeat (first|exact Below.refl _ _|assumption|refine Below.drew ?_|refine Below.setCell ?_ ?_ _|refine Below.alloc ?_ ?_ _));all_goals first|(simp;done)|(simp;omega)|omega)⟩;exact(((Own.nil _ w.heap.size w.heap.size).append (Own.leaf (hi:=w.heap.size) (Fp.mk_int _)) (Nat.le_refl _) (Nat.le_refl _)).append (Own.leaf (hi:=w.heap.size) (Fp.mk_int _)) (Nat.le_refl _) (Nat.le_refl _)).mono (Nat.le_refl _) (by simp;try omega)
set_option maxHeartbeats 4000000 in
theorem ZD(ls:List (List Dat))(v u:Value)(w:World)(h:Rd w (.sl 36 [.int,.int]) (.sl ls) v)(h' : Rd w (.sl 36 [.int,.int]) (.sl ls) u) :
 Calls Tryz.prog 39 #[v,u] w λe w'=>e=.returned (.bool true)/\Below w.heap.size w w':=by
 obtain⟨a,cap,rfl,hl,hc,a1⟩:=h.open;obtain⟨a',cap',rfl,hl',hc',a0⟩:=h'.open;have HC:=Lib.hid a1;have HC':=Lib.hid a0;clear a1 h a0 h';go_enter Tryz.func39,Tryz.ntmps39;go_wp2;go_loopw [5] (λi wr=>∃k:Nat,k<=ls.length/\i=.int .i64 k/\Below w.heap.size w wr) (λi _=>ls.length-(intOf i).toNat);case atStart=>exact⟨0,Nat.zero_le _,rfl,Below.refl _ _⟩
 case round=>
  obtain⟨k,hk,rfl,hb⟩:=hrel;by_cases aA:k<ls.length
  ·obtain⟨b,off,row,rfl,a8,a9,a7⟩:=HC.out k aA
   obtain⟨b',off',row',rfl,a3,a4,a2⟩:=HC'.out k aA;generalize ls.getD k []=ld at a7 a2;obtain⟨pd,pds,pv,pvs,rfl,rfl,ph,a5⟩:=RdRow.cons_inv a7;obtain⟨px0,rfl,rfl⟩:=Rd.int_inv ph;obtain⟨pd,pds,pv,pvs,rfl,rfl,ph,a6⟩:=RdRow.cons_inv a5;obtain⟨px1,rfl,rfl⟩:=Rd.int_inv ph;obtain⟨rfl,rfl⟩:=RdRow.nil_inv a6;obtain⟨qv,qvs,rfl,qh,hrow'_0⟩:=RdRow.cons2 a2;obtain rfl:=Rd.int2 qh;obtain⟨qv,qvs,rfl,qh,hrow'_1⟩:=RdRow.cons2 hrow'_0;obtain rfl:=Rd.int2 qh;obtain⟨-,rfl⟩:=RdRow.nil_inv hrow'_1;have d0:wr.cell? ⟨b,off+k*2,none⟩=some (.int .i64 px0):=(hb.cell (p:=⟨b,_,none⟩) a8).trans (by have q:=a9 0 (by decide);simpa[Nat.add_assoc]using q);have d'0:wr.cell? ⟨b',off' + k*2,none⟩=some (.int .i64 px0):=(hb.cell (p:=⟨b',_,none⟩) a3).trans (by have q:=a4 0 (by decide);simpa[Nat.add_assoc]using q);have d1:wr.cell? ⟨b,off+k*2+1,none⟩=some (.int .i64 px1):=(hb.cell (p:=⟨b,_,none⟩) a8).trans (by have q:=a9 1 (by decide);simpa[Nat.add_assoc]using q);have d'1:wr.cell? ⟨b',off' + k*2+1,none⟩=some (.int .i64 px1):=(hb.cell (p:=⟨b',_,none⟩) a3).trans (by have q:=a4 1 (by decide);simpa[Nat.add_assoc]using q);have HB:=Lib.hid hb;have T9:=hb.size;clear a9 a4 hb;go_wp2
   go_region_held3 (λw'=>w'.cell? ⟨b,off+k*2,none⟩=some (.int .i64 px0)/\w'.cell? ⟨b,off+k*2+1,none⟩=some (.int .i64 px1)/\w'.cell? ⟨b',off' + k*2,none⟩=some (.int .i64 px0)/\w'.cell? ⟨b',off' + k*2+1,none⟩=some (.int .i64 px1)) ((refine⟨?_,?_,?_,?_⟩ <;> go_simp))
    (((go_at_call 73);(refine(AAZ [.int px0,.int px1] [.int .i64 px0,.int .i64 px1] [.int .i64 px0,.int .i64 px1] _ (RdRow.below (by(with_reducible repeat (first|exact Below.refl _ _|assumption|refine Below.drew ?_|refine Below.setCell ?_ ?_ _|refine Below.alloc ?_ ?_ _));all_goals first|(simp;done)|(simp;omega)|omega) _ _ _ (RdRow.mk_cons (Rd.mk_int px0) (RdRow.mk_cons (Rd.mk_int px1) RdRow.mk_nil))) (RdRow.below (by(with_reducible repeat (first|exact Below.refl _ _|assumption|refine Below.drew ?_|refine Below.setCell ?_ ?_ _|refine Below.alloc ?_ ?_ _));all_goals first|(simp;done)|(simp;omega)|omega) _ _ _ (RdRow.mk_cons (Rd.mk_int px0) (RdRow.mk_cons (Rd.mk_int px1) RdRow.mk_nil)))).mono ?_);rintro e w1 ⟨rfl,hb1⟩;have B1:Below w.heap.size w w1:=Below.trans (Below.drew HB.out) (hb1.mono T9);have HB1:=Lib.hid B1;obtain⟨k1,f1⟩:=FI hb1;(try simp at k1);(try simp at f1);have x1:b<wr.heap.size:=Nat.lt_of_lt_of_le a8 T9;have x2:b' < wr.heap.size:=Nat.lt_of_lt_of_le a3 T9;clear B1 hb1))
   all_goals
    go_wp2
    go_roundw
    case rel=>exact⟨k+1,by omega,by go_num,HB1.out⟩
    case measure=>simp[intOf];omega
  ·have HB:=Lib.hid hb
   clear hb;go_wp2;go_ret;exact⟨rfl,HB.out⟩
theorem ZE:∃bytes,bytes<=1024/\ElemT Tryz.prog 66 36 2 bytes:=by
 cases hi:Tryz.prog.info? 36 with
 |none=>exact absurd hi (by
  have:(Tryz.prog.info? 36).isSome=true:=by kernel_rfl
  intro h;rw[h]at this;cases this)
 |some i=>
  have h1:(Tryz.prog.info? 36).map (λi=>i.zero)=some (some (.agg #[(.int .i64 0),(.int .i64 0)])):=by kernel_rfl
  have h2:(Tryz.prog.info? 36).map (λi=>i.size)=some 2:=by kernel_rfl
  have h3:(Tryz.prog.info? 36).map (λi=>decide (i.bytes<=1024))=some true:=by kernel_rfl
  rw[hi]at h1 h2 h3;simp only[Option.map_some,Option.some.injEq,decide_eq_true_eq]at h1 h2 h3;exact⟨i.bytes,h3,Tryz.underlying66,⟨i,_,hi,h1,h2,rfl,rfl⟩,by decide⟩
set_option maxHeartbeats 4000000 in
theorem ZF(ls:List (List Dat))(aD:ls.length+Ac ls<=1048576)(v:Value)(w:World)(h:Rd w (.sl 36 [.int,.int]) (.sl ls) v) :
 Calls Tryz.prog 31 #[v] w λe w'=>∃u:Value,e=.returned u/\Own w' w.heap.size w'.heap.size [.sl 36 [.int,.int]] [.sl ls] [u]/\Below w.heap.size w w':=by
 obtain⟨a,cap,rfl,hl,hc,a0⟩:=h.open;have HC:=Lib.hid a0;clear a0 h;have aG:ls.length<=1048576:=by omega
 have HZ:=Lib.hid aD;clear aD;obtain⟨bytes,a9,hE⟩:=ZE;obtain⟨i,z,hi,hz,hs1,aH,aI⟩:=hE.info;obtain⟨C,hCs,aJ⟩:∃C:Array Value,C.size=ls.length*2/\∀W:World,(Instr.makeSlice 66 (.int .i64 (ls.length:Int)) (.int .i64 (ls.length:Int))).run Tryz.prog W=.ok (.slice (some ⟨W.heap.size,0,none⟩) ls.length ls.length) (W.alloc (.cells C 36)):=by refine⟨madeCells z.cells (ls.length*i.size),by rw[size_madeCells,hs1],λW=>?_⟩;have hbb:ls.length*i.bytes<=1048576*1024:=Nat.mul_le_mul aG (by omega);have hbc:=Nat.mul_comm ls.length i.bytes;have:=run_make (P:=Tryz.prog) W 66 36 i z hE.slice hi hz .i64 .i64 ls.length ls.length (by omega) (Int.le_refl _) (by omega) (by omega);simpa using this
 have a3:(w.alloc (.cells C 36)).ownsRow w.heap.size 36 2 (.slice (some ⟨w.heap.size,0,none⟩) ls.length ls.length) ls.length C.toList:=World.ownsRow_lit w _ ls.length (Nat.le_refl _) (by unfold maxLen;omega) hCs;have HO0:=Lib.hid (Part.zero (ts:=[.int,.int]) (ls:=ls) a3);clear a3 hi hz hs1 aH aI hCs hE a9;go_enter Tryz.func31,Tryz.ntmps31;go_wp2;clear aJ;go_loopw [4] (λi wr=>∃k:Nat,k<=ls.length/\i=.int .i64 k/\Part wr w.heap.size 36 [.int,.int] (.slice (some ⟨w.heap.size,0,none⟩) ls.length ls.length) ls.length k ls/\Below w.heap.size w wr) (λi _=>ls.length-(intOf i).toNat);case atStart=>exact⟨0,Nat.zero_le _,rfl,HO0.out,(Below.refl _ _).alloc (Nat.le_refl _) _⟩
 case round=>
  clear HO0;obtain⟨k,hk,rfl,hp,hb⟩:=hrel;by_cases aA:k<ls.length
  ·obtain⟨b,off,row,rfl,aE,aB,a7⟩:=HC.out k aA
   have a8:=Hi aA;obtain⟨ld,aC⟩:∃ld,ls.getD k []=ld:=⟨_,rfl⟩;rw[aC]at a7 a8;obtain⟨pd,pds,pv,pvs,rfl,rfl,ph,a4⟩:=RdRow.cons_inv a7;obtain⟨px0,rfl,rfl⟩:=Rd.int_inv ph;obtain⟨pd,pds,pv,pvs,rfl,rfl,ph,a5⟩:=RdRow.cons_inv a4;obtain⟨px1,rfl,rfl⟩:=Rd.int_inv ph;obtain⟨rfl,rfl⟩:=RdRow.nil_inv a5;have d0:wr.cell? ⟨b,off+k*2,none⟩=some (.int .i64 px0):=(hb.cell (p:=⟨b,_,none⟩) aE).trans (by have q:=aB 0 (by decide);simpa[Nat.add_assoc]using q);have d1:wr.cell? ⟨b,off+k*2+1,none⟩=some (.int .i64 px1):=(hb.cell (p:=⟨b,_,none⟩) aE).trans (by have q:=aB 1 (by decide);simpa[Nat.add_assoc]using q);simp only[Ah,Dat.sz]at a8;have HSN:=Lib.hid a8;have HLD:=Lib.hid aC;have HP:=Lib.hid hp;have HB:=Lib.hid hb;have T9:=hb.size;have hgs:w.heap.size<wr.heap.size:=(by obtain⟨xs,q⟩:=HP.out.owns;exact(World.ownsRow.lt q _ rfl).2);clear aC a8 aB hb hp;go_wp2_with fail;refine(VT [.int px0,.int px1] (by have a1:=HZ.out;have a2:=HSN.out;simp only[Ah,Dat.sz];omega) [.int .i64 px0,.int .i64 px1] _ (RdRow.below (by(with_reducible repeat (first|exact Below.refl _ _|assumption|refine Below.drew ?_|refine Below.setCell ?_ ?_ _|refine Below.alloc ?_ ?_ _));all_goals first|(simp;done)|(simp;omega)|omega) _ _ _ (RdRow.mk_cons (Rd.mk_int px0) (RdRow.mk_cons (Rd.mk_int px1) RdRow.mk_nil)))).mono ?_;rintro e w1 ⟨us,rfl,ho,h1⟩;have B1:Below wr.heap.size wr w1:=Below.trans (by(with_reducible repeat (first|exact Below.refl _ _|assumption|refine Below.drew ?_|refine Below.setCell ?_ ?_ _|refine Below.alloc ?_ ?_ _));all_goals first|(simp;done)|(simp;omega)|omega) (h1.mono (by first|(simp;done)|(simp;omega)|omega));have S1:=h1.size;have T1:=B1.size;try simp at S1
   obtain⟨k1,f1⟩:=FI h1;try simp at k1
   try simp at f1
   have Hc1:=Lib.hid h1;clear h1;obtain rfl:us=[.int .i64 px0,.int .i64 px1]:=(by have q:=ho.rd;obtain⟨v0,q0,rfl,e0,aK⟩:=RdRow.cons2 q;obtain rfl:=Rd.int2 e0;obtain⟨v1,q1,rfl,e1,aL⟩:=RdRow.cons2 aK;obtain rfl:=Rd.int2 e1;obtain⟨-,rfl⟩:=RdRow.nil_inv aL;exact rfl);have OW:Hid (Own w1 wr.heap.size w1.heap.size [.int,.int] [.int px0,.int px1] [.int .i64 px0,.int .i64 px1]):=ho;clear ho;have HB1:=Lib.hid (HB.out.trans (B1.mono T9));have HP1:=Lib.hid (Part.below HP.out B1);obtain⟨xs,a6⟩:=HP1.out.owns;have HBB:=Lib.hid B1;clear k1 f1 B1;obtain⟨old0,hd0⟩:∃u,w1.cell? ⟨w.heap.size,k*2,none⟩=some u:=(by rw[a6.cellAt (k*2) (by simp only[List.length_cons,List.length_nil];omega)];exact⟨_,List.getElem?_eq_getElem (by have:=a6.1;simp only[List.length_cons,List.length_nil]at this;omega)⟩);have hf0:=a6.frozenAt (k*2);obtain⟨old1,hd1⟩:∃u,w1.cell? ⟨w.heap.size,k*2+1,none⟩=some u:=(by rw[a6.cellAt (k*2+1) (by simp only[List.length_cons,List.length_nil];omega)];exact⟨_,List.getElem?_eq_getElem (by have:=a6.1;simp only[List.length_cons,List.length_nil]at this;omega)⟩);have hf1:=a6.frozenAt (k*2+1);have ST:=Part.step (cs:=[.int .i64 px0,.int .i64 px1]) HP.out (HBB.out) aA (by rw[HLD.out];exact OW.out) (by omega);have SB:=(HB1.out).trans (OnlyIn.below (B:=w.heap.size) (FJ w.heap.size [.int .i64 px0,.int .i64 px1] w1 (k*2)) (λb hb=>by subst hb;exact Nat.le_refl _) (by omega));simp only[stN,List.length_cons,List.length_nil,Nat.reduceAdd]at ST;simp only[stN]at SB;have HST:=Lib.hid ST;have HSB:=Lib.hid SB;clear ST SB a6;go_wp2;go_roundw;case rel=>exact⟨k+1,by omega,by go_num,HST.out,HSB.out⟩
   case measure=>simp[intOf];omega
  ·have aF:k=ls.length:=by omega
   have HF:=Lib.hid (Part.done hp aF);have HB:=Lib.hid hb;clear hp hb aF;go_wp2;go_ret;exact⟨_,rfl,HF.out,HB.out⟩
attribute [local go_sem ↓] Go.wp_at_zero Go.wp_at_succ
set_option maxHeartbeats 4000000 in
theorem Wu(ls:List (List Dat))(v u:Value)(w:World)(h:Rd w (.sl 66 [.sl 36 [.int,.int]]) (.sl ls) v)(h' : Rd w (.sl 66 [.sl 36 [.int,.int]]) (.sl ls) u) :
 Calls Tryz.prog 13 #[v,u] w λe w'=>e=.returned (.bool true)/\Below w.heap.size w w':=by
 obtain⟨a,cap,rfl,hl,hc,a1⟩:=h.open;obtain⟨a',cap',rfl,hl',hc',a0⟩:=h'.open;have HC:=Lib.hid a1;have HC':=Lib.hid a0;clear a1 h a0 h';go_enter Tryz.func13,Tryz.ntmps13;go_wp2;go_loopw [5] (λi wr=>∃k:Nat,k<=ls.length/\i=.int .i64 k/\Below w.heap.size w wr) (λi _=>ls.length-(intOf i).toNat);case atStart=>exact⟨0,Nat.zero_le _,rfl,Below.refl _ _⟩
 case round=>
  obtain⟨k,hk,rfl,hb⟩:=hrel;by_cases a7:k<ls.length
  ·obtain⟨b,off,row,rfl,a8,a9,a4⟩:=HC.out k a7
   obtain⟨b',off',row',rfl,a5,a6,a2⟩:=HC'.out k a7;generalize ls.getD k []=ld at a4 a2;obtain⟨pd,pds,pv,pvs,rfl,rfl,ph,a3⟩:=RdRow.cons_inv a4;obtain⟨pl0,pa0,pc0,rfl,rfl,pe0,pf0,pr0⟩:=Rd.sl_inv ph;obtain⟨rfl,rfl⟩:=RdRow.nil_inv a3;obtain⟨qv,qvs,rfl,qh,hrow'_0⟩:=RdRow.cons2 a2;obtain⟨qa0,qc0,rfl,qe0,qf0,qr0⟩:=Rd.sl2 qh;obtain⟨-,rfl⟩:=RdRow.nil_inv hrow'_0;have d0:wr.cell? ⟨b,off+k,none⟩=some (.slice pa0 pl0.length pc0):=(hb.cell (p:=⟨b,_,none⟩) a8).trans (by have q:=a9 0 (by decide);simpa[Nat.add_assoc]using q);have d'0:wr.cell? ⟨b',off' + k,none⟩=some (.slice qa0 pl0.length qc0):=(hb.cell (p:=⟨b',_,none⟩) a5).trans (by have q:=a6 0 (by decide);simpa[Nat.add_assoc]using q);have H0:=Lib.hid (Rd.below hb _ _ _ pr0);have G0:=Lib.hid (Rd.below hb _ _ _ qr0);clear pr0 qr0;have HB:=Lib.hid hb;have T9:=hb.size;clear a9 a6 hb;go_wp2
   go_region_held3 (λw'=>w'.cell? ⟨b,off+k,none⟩=some (.slice pa0 pl0.length pc0)/\w'.cell? ⟨b',off' + k,none⟩=some (.slice qa0 pl0.length qc0)) ((refine⟨?_,?_⟩ <;> go_simp))
    (((go_at_call 39);(refine(ZD pl0 _ _ _ (Rd.below (by(with_reducible repeat (first|exact Below.refl _ _|assumption|refine Below.drew ?_|refine Below.setCell ?_ ?_ _|refine Below.alloc ?_ ?_ _));all_goals first|(simp;done)|(simp;omega)|omega) _ _ _ H0.out) (Rd.below (by(with_reducible repeat (first|exact Below.refl _ _|assumption|refine Below.drew ?_|refine Below.setCell ?_ ?_ _|refine Below.alloc ?_ ?_ _));all_goals first|(simp;done)|(simp;omega)|omega) _ _ _ G0.out)).mono ?_);rintro e w1 ⟨rfl,hb1⟩;have B1:Below w.heap.size w w1:=Below.trans (Below.drew HB.out) (hb1.mono T9);have HB1:=Lib.hid B1;obtain⟨k1,f1⟩:=FI hb1;(try simp at k1);(try simp at f1);have x1:b<wr.heap.size:=Nat.lt_of_lt_of_le a8 T9;have x2:b' < wr.heap.size:=Nat.lt_of_lt_of_le a5 T9;clear B1 hb1))
   all_goals
    go_wp2
    go_roundw
    case rel=>exact⟨k+1,by omega,by go_num,HB1.out⟩
    case measure=>simp[intOf];omega
  ·have HB:=Lib.hid hb
   clear hb;go_wp2;go_ret;exact⟨rfl,HB.out⟩
theorem Wv:∃bytes,bytes<=1024/\ElemT Tryz.prog 40 66 1 bytes:=by
 cases hi:Tryz.prog.info? 66 with
 |none=>exact absurd hi (by
  have:(Tryz.prog.info? 66).isSome=true:=by kernel_rfl
  intro h;rw[h]at this;cases this)
 |some i=>
  have h1:(Tryz.prog.info? 66).map (λi=>i.zero)=some (some ((.slice none 0 0))):=by kernel_rfl
  have h2:(Tryz.prog.info? 66).map (λi=>i.size)=some 1:=by kernel_rfl
  have h3:(Tryz.prog.info? 66).map (λi=>decide (i.bytes<=1024))=some true:=by kernel_rfl
  rw[hi]at h1 h2 h3;simp only[Option.map_some,Option.some.injEq,decide_eq_true_eq]at h1 h2 h3;exact⟨i.bytes,h3,Tryz.underlying40,⟨i,_,hi,h1,h2,rfl,rfl⟩,by decide⟩
set_option maxHeartbeats 4000000 in
theorem Ww(ls:List (List Dat))(aB:ls.length+Ac ls<=1048576)(v:Value)(w:World)(h:Rd w (.sl 66 [.sl 36 [.int,.int]]) (.sl ls) v) :
 Calls Tryz.prog 9 #[v] w λe w'=>∃u:Value,e=.returned u/\Own w' w.heap.size w'.heap.size [.sl 66 [.sl 36 [.int,.int]]] [.sl ls] [u]/\Below w.heap.size w w':=by
 obtain⟨a,cap,rfl,hl,hc,a0⟩:=h.open;have HC:=Lib.hid a0;clear a0 h;have aE:ls.length<=1048576:=by omega
 have HZ:=Lib.hid aB;clear aB;obtain⟨bytes,a8,hE⟩:=Wv;obtain⟨i,z,hi,hz,hs1,aF,aG⟩:=hE.info;obtain⟨C,hCs,aH⟩:∃C:Array Value,C.size=ls.length*1/\∀W:World,(Instr.makeSlice 40 (.int .i64 (ls.length:Int)) (.int .i64 (ls.length:Int))).run Tryz.prog W=.ok (.slice (some ⟨W.heap.size,0,none⟩) ls.length ls.length) (W.alloc (.cells C 66)):=by refine⟨madeCells z.cells (ls.length*i.size),by rw[size_madeCells,hs1],λW=>?_⟩;have hbb:ls.length*i.bytes<=1048576*1024:=Nat.mul_le_mul aE (by omega);have hbc:=Nat.mul_comm ls.length i.bytes;have:=run_make (P:=Tryz.prog) W 40 66 i z hE.slice hi hz .i64 .i64 ls.length ls.length (by omega) (Int.le_refl _) (by omega) (by omega);simpa using this
 have a3:(w.alloc (.cells C 66)).ownsRow w.heap.size 66 1 (.slice (some ⟨w.heap.size,0,none⟩) ls.length ls.length) ls.length C.toList:=World.ownsRow_lit w _ ls.length (Nat.le_refl _) (by unfold maxLen;omega) hCs;have HO0:=Lib.hid (Part.zero (ts:=[.sl 36 [.int,.int]]) (ls:=ls) a3);clear a3 hi hz hs1 aF aG hCs hE a8;go_enter Tryz.func9,Tryz.ntmps9;go_wp2;clear aH;go_loopw [4] (λi wr=>∃k:Nat,k<=ls.length/\i=.int .i64 k/\Part wr w.heap.size 66 [.sl 36 [.int,.int]] (.slice (some ⟨w.heap.size,0,none⟩) ls.length ls.length) ls.length k ls/\Below w.heap.size w wr) (λi _=>ls.length-(intOf i).toNat);case atStart=>exact⟨0,Nat.zero_le _,rfl,HO0.out,(Below.refl _ _).alloc (Nat.le_refl _) _⟩
 case round=>
  clear HO0;obtain⟨k,hk,rfl,hp,hb⟩:=hrel;by_cases a9:k<ls.length
  ·obtain⟨b,off,row,rfl,aI,aC,a5⟩:=HC.out k a9
   have a6:=Hi a9;obtain⟨ld,aA⟩:∃ld,ls.getD k []=ld:=⟨_,rfl⟩;rw[aA]at a5 a6;obtain⟨pd,pds,pv,pvs,rfl,rfl,ph,a4⟩:=RdRow.cons_inv a5;obtain⟨pl0,pa0,pc0,rfl,rfl,pe0,pf0,pr0⟩:=Rd.sl_inv ph;obtain⟨rfl,rfl⟩:=RdRow.nil_inv a4;have d0:wr.cell? ⟨b,off+k,none⟩=some (.slice pa0 pl0.length pc0):=(hb.cell (p:=⟨b,_,none⟩) aI).trans (by have q:=aC 0 (by decide);simpa[Nat.add_assoc]using q);have H0:=Lib.hid (Rd.below hb _ _ _ pr0);clear pr0;simp only[Ah,Dat.sz]at a6;have HSN:=Lib.hid a6;have HLD:=Lib.hid aA;have HP:=Lib.hid hp;have HB:=Lib.hid hb;have T9:=hb.size;have hgs:w.heap.size<wr.heap.size:=(by obtain⟨xs,q⟩:=HP.out.owns;exact(World.ownsRow.lt q _ rfl).2);clear aA a6 aC hb hp;go_wp2_with fail;refine(ZF pl0 (by have a1:=HZ.out;have a2:=HSN.out;omega) _ _ (Rd.below (by(with_reducible repeat (first|exact Below.refl _ _|assumption|refine Below.drew ?_|refine Below.setCell ?_ ?_ _|refine Below.alloc ?_ ?_ _));all_goals first|(simp;done)|(simp;omega)|omega) _ _ _ H0.out)).mono ?_;rintro e w1 ⟨us,rfl,ho,h1⟩;have B1:Below wr.heap.size wr w1:=Below.trans (by(with_reducible repeat (first|exact Below.refl _ _|assumption|refine Below.drew ?_|refine Below.setCell ?_ ?_ _|refine Below.alloc ?_ ?_ _));all_goals first|(simp;done)|(simp;omega)|omega) (h1.mono (by first|(simp;done)|(simp;omega)|omega));have S1:=h1.size;have T1:=B1.size;try simp at S1
   obtain⟨k1,f1⟩:=FI h1;try simp at k1
   try simp at f1
   have Hc1:=Lib.hid h1;clear h1;obtain⟨ua0,uc0,rfl⟩:∃a c,us=.slice a pl0.length c:=(by obtain⟨q,q1,-,-⟩:=Own.one ho;obtain⟨a,c,q2,-⟩:=Rd.sl2 (Fp.rd _ _ _ _ q1);exact⟨a,c,q2⟩);have OW:Hid (Own w1 wr.heap.size w1.heap.size [.sl 36 [.int,.int]] [.sl pl0] [.slice ua0 pl0.length uc0]):=ho;clear ho;have HB1:=Lib.hid (HB.out.trans (B1.mono T9));have HP1:=Lib.hid (Part.below HP.out B1);obtain⟨xs,a7⟩:=HP1.out.owns;have HBB:=Lib.hid B1;clear k1 f1 B1;obtain⟨old0,hd0⟩:∃u,w1.cell? ⟨w.heap.size,k,none⟩=some u:=(by rw[a7.cellAt (k) (by simp only[List.length_cons,List.length_nil];omega)];exact⟨_,List.getElem?_eq_getElem (by have:=a7.1;simp only[List.length_cons,List.length_nil]at this;omega)⟩);have hf0:=a7.frozenAt (k);have ST:=Part.step (cs:=[.slice ua0 pl0.length uc0]) HP.out (HBB.out) a9 (by rw[HLD.out];exact OW.out) (by omega);have SB:=(HB1.out).trans (OnlyIn.below (B:=w.heap.size) (FJ w.heap.size [.slice ua0 pl0.length uc0] w1 (k*1)) (λb hb=>by subst hb;exact Nat.le_refl _) (by omega));simp only[stN,List.length_cons,List.length_nil,Nat.reduceAdd,Nat.mul_one]at ST;simp only[stN,Nat.mul_one]at SB;have HST:=Lib.hid ST;have HSB:=Lib.hid SB;clear ST SB a7;go_wp2;go_roundw;case rel=>exact⟨k+1,by omega,by go_num,HST.out,HSB.out⟩
   case measure=>simp[intOf];omega
  ·have aD:k=ls.length:=by omega
   have HF:=Lib.hid (Part.done hp aD);have HB:=Lib.hid hb;clear hp hb aD;go_wp2;go_ret;exact⟨_,rfl,HF.out,HB.out⟩
end Go.Proofs.YthoidhehmmcgnaaGreat
