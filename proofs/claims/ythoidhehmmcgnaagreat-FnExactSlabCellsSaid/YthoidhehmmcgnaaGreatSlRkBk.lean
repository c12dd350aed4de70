import Derived.Test.YthoidhehmmcgnaaGreatSlStb
import Derived.Test.YthoidhehmmcgnaaGreatSlCpf
import Derived.Test.YthoidhehmmcgnaaGreatProg
import Derived.Shelf.SlGeneric
import Derived.Shelf.SlLaysF0
import Derived.Test.YthoidhehmmcgnaaGreatSlSy4B
import Derived.Test.YthoidhehmmcgnaaGreatSlRkSl
namespace Go.Proofs.YthoidhehmmcgnaaGreat
set_option linter.unusedVariables false
set_option linter.unusedSimpArgs false
open Go.RowKit Go.Sort Go.Shelf
def R0{β:Type}(key:β->Fr)(d0:β)(l:List β)(i j:Nat):Int:=Fr.cmp (key (l.getD (clI l.length i) d0)) (key (l.getD (clI l.length j) d0))
def IC{β:Type}(key:β->Fr)(d0:β)(l:List β):List β:=(He (R0 key d0 l) l.length).map λi=>l.getD i d0
theorem Kt{β:Type}(key:β->Fr)(d0:β)(l:List β):(IC key d0 l).length=l.length:=by unfold IC;rw[List.length_map,Wf]
theorem Wi{β:Type}{key:β->Fr}{d0:β}{l:List β}{x:β}(h:x ∈ IC key d0 l):x ∈ l:=by obtain⟨i,hi,rfl⟩:=List.mem_map.1 h;exact Bx (Ry hi)
theorem SA{β:Type}{key:β->Fr}{d0:β}{l:List β}(hg:∀x ∈ l,(key x).d≠0)(h0:0<l.length):TPre (R0 key d0 l):=by
 have hd:∀i,(key (l.getD (clI l.length i) d0)).d≠0:=λi=>hg _ (Bx (Nb h0));refine⟨λi j=>?_,λi j k h1 h2=>?_⟩;have:=G8 (hd i) (hd j);unfold R0;omega;unfold R0 at *;have s1:=G8 (hd i) (hd j);have s2:=G8 (hd j) (hd k);have s3:=G8 (hd i) (hd k);obtain⟨p,hp,_⟩:=Fr.some_d (hd i);obtain⟨q,hq,_⟩:=Fr.some_d (hd j);obtain⟨r,hr,_⟩:=Fr.some_d (hd k);have l1:=EK hq hp;have l2:=EK hr hq;have l3:=EK hr hp;have a1:¬q<p:=λh=>by have:=l1.2 h;omega
 have a2:¬r<q:=λh=>by have:=l2.2 h;omega
 have a3:¬r<p:=by grind
 have a4:¬Fr.cmp (key (l.getD (clI l.length k) d0)) (key (l.getD (clI l.length i) d0))<0:=λh=>a3 (l3.1 h);omega
theorem Wj{P:Program}{f:Nat}{w:World}{ts:List Ty}{e g cap:Nat}{L:List (List Dat)}{bs:List Nat}{rows:List (List Value)}{bss:List (List Nat)}{cur:Array Value}(R:RowsF w e ts L g cap bs rows bss cur)(hn:bs.Nodup)(h0:0<L.length)(c:Nat->Nat->Int)
  (hc:∀W i j,i<L.length->j<L.length->RdRow W ts (L.getD i []) (rows.getD i [])->RdRow W ts (L.getD j []) (rows.getD j [])->Calls P f #[.agg (rows.getD i []).toArray,.agg (rows.getD j []).toArray] W λe w'=>e=.returned (.int .i64 (c i j))/\∃q os,w'=grow (W.drewN q) os) :
  CmpLays P f #[] (JL rows) ts.length (λi j=>c (clI L.length i) (clI L.length j)) g 0 L.length w:=by
 intro m os dk _ x y;obtain⟨-,ho⟩:=Yo (JL rows) ts.length w g m dk os R.blk;have a0:=R.all;rw[a0,List.nodup_cons]at hn;have rd:∀i,i<L.length->RdRow (sortWorldK (JL rows) ts.length w g 0 m dk os) ts (L.getD i []) (rows.getD i []):=λi hi=>FpRow.rd _ _ _ _ (FpRow.only ho _ _ _ _ (R.fp i hi) λb hb2 e=>hn.1 (by rw[e]at hb2;exact List.mem_flatten.2 ⟨_,Bx (by rw[R.lenb];exact hi),hb2⟩));have hx:=Nb (i:=x) h0;have hy:=Nb (i:=y) h0;have:=hc _ _ _ hx hy (rd _ hx) (rd _ hy);have e1:∀i,JL rows i=rows.getD (clI L.length i) []:=λi=>by unfold JL;rw[R.len]
 rw[e1,e1];exact this
open Go.Shelf
def Yq:Go.Shelf.Ren:=⟨fun|20=>173|n=>n,fun|24=>114|22=>111|3=>3|25=>136|4=>4|0=>0|n=>n,fun|n=>n⟩
theorem ACV:Go.Proofs.SlLaysF0.n20 Tryz.prog Yq:={
 mixed:=by kernel_rfl,
 f20:=⟨ "slices.insertionSortCmpFunc[loop.example/g00811/impl.block]",by decide,Tryz.func173.trans (congrArg some (by kernel_rfl))⟩,
 t0:=Tryz.underlying0,
 a0:=Tryz.isAgg0,
 z0:=Tryz.sizeOf0,
 v0:=Tryz.zeroValue0,
 t3:=Tryz.underlying3,
 a3:=Tryz.isAgg3,
 z3:=Tryz.sizeOf3,
 v3:=Tryz.zeroValue3,
 t4:=Tryz.underlying4,
 a4:=Tryz.isAgg4,
 z4:=Tryz.sizeOf4,
 v4:=Tryz.zeroValue4,
 t22:=Tryz.underlying111,
 a22:=Tryz.isAgg111,
 z22:=Tryz.sizeOf111,
 v22:=Tryz.zeroValue111,
 t25:=Tryz.underlying136,
 a25:=Tryz.isAgg136,
 z25:=Tryz.sizeOf136,
 v25:=Tryz.zeroValue136}
open Go.RowKit Go.Sort Go.Shelf Go.Lib
theorem Bg:StEB Tryz.prog 12 where
 mixed:=by kernel_rfl
 f_swap:=rfl
 f_rota:=rfl
 f_symM:=rfl
 f_stab:=rfl
 t3:=Tryz.underlying3
 a3:=Tryz.isAgg3
 z3:=Tryz.sizeOf3
 v3:=Tryz.zeroValue3
 t4:=Tryz.underlying4
 a4:=Tryz.isAgg4
 z4:=Tryz.sizeOf4
 v4:=Tryz.zeroValue4
 tS:=Tryz.underlying111
 aS:=Tryz.isAgg111
 zS:=Tryz.sizeOf111
 vS:=Tryz.zeroValue111
 tF:=Tryz.underlying136
 aF:=Tryz.isAgg136
 zF:=Tryz.sizeOf136
 vF:=λ_=>rfl
 tU:=Tryz.underlying164
 aU:=Tryz.isAgg164
 zU:=Tryz.sizeOf164
 vU:=Tryz.zeroValue164
 t0:=Tryz.underlying0
 a0:=Tryz.isAgg0
 z0:=λ_=>rfl
 v0:=λ_=>rfl
 aE:=Tryz.isAgg114
 zE:=Tryz.sizeOf114
set_option maxHeartbeats 2000000 in
theorem ACW(p:Option Addr)(cap:Nat)(fv:Value)(w:World):Calls Tryz.prog 148 #[.slice p 0 cap,.int .i64 0,fv] w λe w'=>e=.returned (.tuple #[])/\w'=w:=by
 have t3:=Bg.t3;have a3:=Bg.a3;have z3:=Bg.z3;have v3:=Bg.v3;have t4:=Bg.t4;have a4:=Bg.a4;have z4:=Bg.z4;have v4:=Bg.v4;have tS:=Bg.tS;have aS:=Bg.aS;have zS:=Bg.zS;have vS:=Bg.vS;have tF:=Bg.tF;have aF:=Bg.aF;have zF:=Bg.zF;have vF:=Bg.vF;have tU:=Bg.tU;have aU:=Bg.aU;have zU:=Bg.zU;have vU:=Bg.vU;have t0:=Bg.t0;have a0:=Bg.a0;have z0:=Bg.z0;have v0:=Bg.v0;have aE:=Bg.aE;have zE:=Bg.zE;have mixed:=Bg.mixed;have FG:=Tryz.func148;have eI:∀args w,(callFunc 173 args).run Tryz.prog w=.ok (.enter 173 args) w:=enters_of Tryz.func173 (by kernel_rfl) rfl;go_enter FG,Tryz.ntmps148;go_wp2;go_loopg [7,8] 0 (λkx s7 s8 wr=>s7=.int .i64 0/\s8=.int .i64 20/\Aside (wr=w));case atStart=>exact⟨rfl,rfl,rfl⟩
 case round=>
  obtain⟨rfl,rfl,S1⟩:=hrel;have a1:Calls Tryz.prog 173 #[.slice p 0 cap,.int .i64 0,.int .i64 0,fv] wr λe w'=>e=.returned (.tuple #[])/\w'=wr:=AnyF.insertionSortCmpFunc_none ACV p cap fv wr;go_wp2_with (go_at_fn 173;refine a1.mono ?_;rintro e w1 ⟨rfl,S2⟩;replace S2:Aside (w1=w):=S2.trans S1.out);clear S1 a1;go_loopg [6] 0 (λkx s6 wr=>s6=.int .i64 20/\Aside (wr=w));case atStart=>exact⟨rfl,S2⟩
  case round=>clear S2;obtain⟨rfl,S3⟩:=hrel;go_wp2;go_end0;exact⟨rfl,S3.out⟩
theorem ACX(p:Option Addr)(cap:Nat)(fv:Value)(w:World):Calls Tryz.prog 114 #[.slice p 0 cap,fv] w λe w'=>e=.returned (.tuple #[])/\w'=w:=by have a1:=ACW p cap fv w;have t3:=Bg.t3;have a3:=Bg.a3;have z3:=Bg.z3;have v3:=Bg.v3;have t4:=Bg.t4;have a4:=Bg.a4;have z4:=Bg.z4;have v4:=Bg.v4;have tS:=Bg.tS;have aS:=Bg.aS;have zS:=Bg.zS;have vS:=Bg.vS;have tF:=Bg.tF;have aF:=Bg.aF;have zF:=Bg.zF;have vF:=Bg.vF;have tU:=Bg.tU;have aU:=Bg.aU;have zU:=Bg.zU;have vU:=Bg.vU;have t0:=Bg.t0;have a0:=Bg.a0;have z0:=Bg.z0;have v0:=Bg.v0;have aE:=Bg.aE;have zE:=Bg.zE;have mixed:=Bg.mixed;have FG:=Tryz.func114;have eB:∀args w,(callFunc 148 args).run Tryz.prog w=.ok (.enter 148 args) w:=enters_of Tryz.func148 (by kernel_rfl) rfl;go_enter FG,Tryz.ntmps114;go_wp2_with (go_at_fn 148;refine a1.mono ?_;rintro e w1 ⟨rfl,S2⟩;replace S2:Aside (w1=w):=S2);go_end0;exact⟨rfl,S2.out⟩
theorem ADY{w:World}{ts:List Ty}{e g cap:Nat}{L:List (List Dat)}{bs:List Nat}{rows:List (List Value)}{bss:List (List Nat)}{cur:Array Value}(R:RowsF w e ts L g cap bs rows bss cur)(hn:bs.Nodup)(hk:ts.length=12)(h0:0<L.length)(hm:L.length<=2000000000000)(f:Nat)(eg:∀args w,(callFunc f args).run Tryz.prog w=.ok (.enter f args) w)(c:Nat->Nat->Int)(hc:TPre λi j=>c (clI L.length i) (clI L.length j))
  (hp:∀W i j,i<L.length->j<L.length->RdRow W ts (L.getD i []) (rows.getD i [])->RdRow W ts (L.getD j []) (rows.getD j [])->Calls Tryz.prog f #[.agg (rows.getD i []).toArray,.agg (rows.getD j []).toArray] W λe w'=>e=.returned (.int .i64 (c i j))/\∃q os,w'=grow (W.drewN q) os) :
  Calls Tryz.prog 114 #[.slice (some ⟨g,0,none⟩) L.length cap,.func (.func f) #[] #[]] w λed w'=>ed=.returned (.tuple #[])/\OnlyIn (λb=>b=g) w w'/\∃bt,Fp w' (.sl e ts) (.sl ((He (λi j=>c (clI L.length i) (clI L.length j)) L.length).map λi=>L.getD i [])) (.slice (some ⟨g,0,none⟩) L.length cap) bt/\bt.Nodup/\∀b ∈ bt,b ∈ bs:=by
 have hC:=Wj R hn h0 c hp;have h0r:0<rows.length:=by rw[R.len];exact h0
 have RK:RowK (JL rows) ts.length w g 0 (Array.range L.length):=⟨Yn h0r R.each,λx v hv=>RdRow.one _ _ _ (FpRow.rd _ _ _ _ (R.fp (clI rows.length x) (by have:=Nb (i:=x) h0r;rw[R.len]at this ⊢;exact this))) v hv,R.holds,(Array.getElem?_eq_some_iff.1 R.blk).1⟩;have E:StEB Tryz.prog ts.length:=by rw[hk];exact Bg
 refine(ADX E ACV rfl rfl rfl rfl (JL rows) _ hc f eg g cap L.length w hC RK (by omega)).mono ?_;rintro ed w' ⟨rfl,D,⟨n,os,rfl⟩,hD⟩;have a0:D.toList.Perm (List.range L.length):=by rw[hD];exact HL _ _
 obtain⟨ho,bt,b1,b2,b3⟩:=R.sorted hn a0 n os;rw[hD]at b1;exact⟨rfl,ho,bt,b1,b2,b3⟩
set_option maxRecDepth 100000
structure Blk where
 lo:Brd
 hi:Brd
abbrev brD(x:Brd):List Dat:=frD x.l++frD x.r
def Wk(x:Blk):List Dat:=brD x.lo++brD x.hi
def Bb(l:List Blk):List (List Dat):=l.map Wk
theorem Ku(l:List Blk):(Bb l).length=l.length:=List.length_map ..
theorem Oy(a b:List Blk):Bb (a++b)=Bb a++Bb b:=List.map_append ..
def noK:Blk:=⟨zB,zB⟩
theorem J8{l:List Blk}{k:Nat}(h:k<l.length):(Bb l).getD k []=Wk (l.getD k noK):=by simp[Bb,List.getD,h]
def bkO(v:List V2)(i:Int)(lo hi:Fr):List Blk:=if(spS (AD v i) lo hi (AD v i).length).2.2=2 then[⟨(spS (AD v i) lo hi (AD v i).length).1,(spS (AD v i) lo hi (AD v i).length).2.1⟩]else[]
def bkT(ls:List (List V2))(lo hi:Fr):Nat->List Blk
 | 0=>[]|k+1=>bkT ls lo hi k++bkO (ls.getD k []) (k:Int) lo hi
theorem MB(ls:List (List V2))(lo hi:Fr):∀k,(bkT ls lo hi k).length<=k
 | 0=>Nat.le_refl _|k+1=>by have ih:=MB ls lo hi k;rw[bkT,List.length_append];unfold bkO;split <;> simp <;> omega
theorem AAO{ls:List (List V2)}{lo hi:Fr}{k:Nat}{p:Brd×Brd×Nat}(e:p=spS (AD (ls.getD k []) (k:Int)) lo hi (AD (ls.getD k []) (k:Int)).length)(h:p.2.2=2):Bb (bkT ls lo hi k)++[Wk ⟨p.1,p.2.1⟩]=Bb (bkT ls lo hi (k+1)):=by rw[bkT,Oy];unfold bkO;rw[← e,if_pos h];rfl
theorem ABk{ls:List (List V2)}{lo hi:Fr}{k:Nat}{p:Brd×Brd×Nat}(e:p=spS (AD (ls.getD k []) (k:Int)) lo hi (AD (ls.getD k []) (k:Int)).length)(h:¬p.2.2=2):Bb (bkT ls lo hi k)=Bb (bkT ls lo hi (k+1)):=by rw[bkT,Oy];unfold bkO;rw[← e,if_neg h];simp[Bb]
def Kv:Con:={ι:=Blk×Blk,pre:=λi=>True,args:=λi=>[DA.agg [cB (decide (i.1.lo.l.z<0)),cS (L i.1.lo.l.z.natAbs),cS (L i.1.lo.l.d),cB (decide (i.1.lo.r.z<0)),cS (L i.1.lo.r.z.natAbs),cS (L i.1.lo.r.d),cB (decide (i.1.hi.l.z<0)),cS (L i.1.hi.l.z.natAbs),cS (L i.1.hi.l.d),cB (decide (i.1.hi.r.z<0)),cS (L i.1.hi.r.z.natAbs),cS (L i.1.hi.r.d)],DA.agg [cB (decide (i.2.lo.l.z<0)),cS (L i.2.lo.l.z.natAbs),cS (L i.2.lo.l.d),cB (decide (i.2.lo.r.z<0)),cS (L i.2.lo.r.z.natAbs),cS (L i.2.lo.r.d),cB (decide (i.2.hi.l.z<0)),cS (L i.2.hi.l.z.natAbs),cS (L i.2.hi.l.d),cB (decide (i.2.hi.r.z<0)),cS (L i.2.hi.r.z.natAbs),cS (L i.2.hi.r.d)]],mono:=true,res:=λi=>⟨false,[none],[rcI (Fr.cmp i.1.lo.lev i.2.lo.lev)]⟩}
theorem Yr:Kv.Ok Tryz.prog 115:=by
 refine fok (X:=⟨tt,[(109,B6),(81,AN)],[],12,[]⟩) mixed AF (CTok.cons Ox (CTok.cons GP (CTok.nil _))) Tryz.func115 (λ_=>[]) ?_;rintro⟨x,y⟩ a0;have a0:True:=a0;refine AG (q:=∃i1:Brd,[DA.agg [cB (decide (x.lo.l.z<0)),cS (L x.lo.l.z.natAbs),cS (L x.lo.l.d),cB (decide (x.lo.r.z<0)),cS (L x.lo.r.z.natAbs),cS (L x.lo.r.d)]]=B6.args i1/\B6.pre i1/\(∃i2:Brd,[DA.agg [cB (decide (y.lo.l.z<0)),cS (L y.lo.l.z.natAbs),cS (L y.lo.l.d),cB (decide (y.lo.r.z<0)),cS (L y.lo.r.z.natAbs),cS (L y.lo.r.d)]]=B6.args i2/\B6.pre i2/\(∃i3:Fr×Fr,[dF i1.lev,dF i2.lev]=AN.args i3/\AN.pre i3/\((vI (Fr.cmp i3.1 i3.2)=vI (Fr.cmp x.lo.lev y.lo.lev)))))) (by kernel_rfl) ?_;delta vI
 refine⟨x.lo,by
  rfl,by
  trivial,?_⟩
 refine⟨y.lo,by
  rfl,by
  trivial,?_⟩
 refine⟨((x.lo.lev),(y.lo.lev)),by
  rfl,by
  trivial,?_⟩
 exact rfl
def EL:Con:={ι:=(List Blk),pre:=λi=>(∀x ∈ i,x.lo.lev.d≠0)/\i.length<=1048576,args:=λi=>[.one (DC.sl 114 Xt (Bb i)),.one (.ro (.fn 115 []))],mu:=[0],new:=λi=>[Bb (IC (λx=>x.lo.lev) noK i)],tag:=116,res:=λi=>⟨true,[],[]⟩}
abbrev ACY:List Ty:=rTy++(rTy++(rTy++rTy))
theorem AAP{x y:Blk}{xs ys:List Value}{w:World}(h1:RdRow w ACY (Wk x) xs)(h2:RdRow w ACY (Wk y) ys):Calls Tryz.prog 115 #[.agg xs.toArray,.agg ys.toArray] w λe w'=>e=.returned (.int .i64 (Fr.cmp x.lo.lev y.lo.lev))/\∃q os,w'=grow (w.drewN q) os:=by
 have h:=NZ Yr rfl rfl (x,y) trivial (v:=.int .i64 (Fr.cmp x.lo.lev y.lo.lev)) rfl (RdRow.app _ _ _ h1 h2) rfl rfl rfl;have l1:=(RdRow.lens _ _ _ h1).2;have l2:=(RdRow.lens _ _ _ h2).2;have hv:By (Kv.args (x,y)) (xs++ys)=[.agg xs.toArray,.agg ys.toArray]:=by simp only[Kv];rw[Hz (by exact l1),Ek (by exact l2)]
 rw[hv]at h;exact h
theorem Tx(l:List Blk):(He (R0 (λx:Blk=>x.lo.lev) noK l) l.length).map (λi=>(Bb l).getD i [])=Bb (IC (λx=>x.lo.lev) noK l):=by unfold IC;rw[show ∀t:List Nat,Bb (t.map λi=>l.getD i noK)=t.map λi=>Wk (l.getD i noK)from λt=>by unfold Bb;rw[List.map_map];rfl];exact List.map_congr_left λi hi=>J8 (Ry hi)
theorem ADZ{us:List Value}(h:us.length=2):∃u v,us=[u,v]:=
 match us,h with| [_,_],_=>⟨_,_,rfl⟩
theorem Ys:EL.Ok Tryz.prog 114 where
 enter:=⟨_,Tryz.func114,by decide,rfl⟩
 small:=λ_=>Nat.le_of_ble_eq_true rfl
 calls:=by
  intro (l:List Blk) (hp:(∀x ∈ l,x.lo.lev.d≠0)/\l.length<=1048576) F w us mb h;obtain⟨u0,u1,rfl⟩:=ADZ h.len;obtain⟨_,_,_,_,e1,e2,f1,m1⟩:=h.own 0 0 rfl;cases e1;cases e2;obtain⟨ps,hu1,a4,-⟩:ROAt F w (.fn 115 []) u1:=h.rd 1 _ _ rfl rfl (by decide);obtain rfl:ps=[]:=List.eq_nil_of_length_eq_zero a4;subst hu1;have hv:By (EL.args l) [u0,.func (.func 115) #[] #[]]=[u0,.func (.func 115) #[] #[]]:=rfl;rw[hv];have a0:=Ku l;obtain⟨p,cap,rfl,a5⟩:=Yp f1;by_cases h0:l=[];subst h0;refine Calls.mono (P:=Tryz.prog) (ACX p cap (.func (.func 115) #[] #[]) w) ?_;rintro e w' ⟨rfl,rfl⟩;refine⟨[],[],rfl,⟨rfl,List.nodup_nil,λb hb=>by simp at hb,λj q e ts rows u hj hq hd hu=>?_,rfl,rfl,rfl,Nat.le_refl _,λb _ _=>rfl⟩⟩;obtain rfl:j=0:=by have:=(List.getElem?_eq_some_iff.1 hq).1;have hl:EL.mu.length=1:=rfl;omega
  cases hq;cases hd;cases hu;refine⟨mb 0,?_,m1,λ_ hb=>hb,λ_=>rfl⟩;have es:IC (λx:Blk=>x.lo.lev) noK []=[]:=List.eq_nil_of_length_eq_zero (Kt _ _ _);show Fp w' _ (.sl (Bb (IC (λx:Blk=>x.lo.lev) noK []))) _ _;rw[es];exact f1;have a1:0<l.length:=List.length_pos_iff.2 h0;obtain⟨g,rfl⟩:=a5 (by rw[a0];exact a1);obtain⟨rows,bss,cur,R⟩:=RowsF.of f1;have eg:∀args w,(callFunc 115 args).run Tryz.prog w=.ok (.enter 115 args) w:=enters_of Tryz.func115 (by kernel_rfl) rfl;have a2:=SA (key:=λx:Blk=>x.lo.lev) (d0:=noK) hp.1 a1;have a3:=ADY R m1 rfl (by rw[a0];exact a1) (by rw[a0];omega) 115 eg (λi j=>Fr.cmp (l.getD i noK).lo.lev (l.getD j noK).lo.lev) (by rw[a0];exact a2) (λW i j hi hj r1 r2=>by rw[a0]at hi hj;rw[J8 hi]at r1;rw[J8 hj]at r2;exact AAP r1 r2);refine Calls.mono (P:=Tryz.prog) a3 ?_;rintro e w' ⟨rfl,ho,bt,b1,b2,b3⟩;refine⟨[],[],rfl,⟨rfl,List.nodup_nil,λb hb=>by simp at hb,λj q e ts rows u hj hq hd hu=>?_,ho.os,ho.tape,ho.output,ho.size,λb hb hm=>ho.block b hb λe=>hm 0 (by decide) (by rw[e,R.all];exact List.mem_cons_self ..)⟩⟩;obtain rfl:j=0:=by have:=(List.getElem?_eq_some_iff.1 hq).1;have hl:EL.mu.length=1:=rfl;omega
  cases hq;cases hd;cases hu;refine⟨bt,?_,b2,b3,λ⟨v,hv⟩=>by cases hv⟩;rw[a0]at b1;have b1:Fp w' _ (.sl ((He (R0 (λx:Blk=>x.lo.lev) noK l) l.length).map λi=>(Bb l).getD i [])) (.slice (some ⟨g,0,none⟩) l.length cap) bt:=b1;rw[Tx]at b1;rw[a0];exact b1
def bkS(ls:List (List V2))(lo hi:Fr):List Blk:=IC (λx=>x.lo.lev) noK (bkT ls lo hi ls.length)
theorem VH(ls:List (List V2))(lo hi:Fr):(bkS ls lo hi).length<=ls.length:=by unfold bkS;rw[Kt];exact MB ls lo hi ls.length
def Fw:Con:={ι:=(List (List V2))×Fr×Fr,pre:=λi=>A3 i.1=true/\i.1.length<=1048576/\∀x ∈ bkT i.1 i.2.1 i.2.2 i.1.length,x.lo.lev.d≠0,args:=λi=>[.one (DC.sl 66 [.sl 36 [.int,.int]] (AP i.1)),dF i.2.1,dF i.2.2],res:=λi=>⟨false,[none],[.own 114 [.bool,.sl 3 [.int],.sl 3 [.int],.bool,.sl 3 [.int],.sl 3 [.int],.bool,.sl 3 [.int],.sl 3 [.int],.bool,.sl 3 [.int],.sl 3 [.int]] (Bb (bkS i.1 i.2.1 i.2.2))]⟩}
theorem Tz:Fw.Ok Tryz.prog 72:=by
 refine fok (X:=⟨tt,[(111,DP),(112,CC),(113,BZ),(114,EL)],[23],63,[]⟩) mixed AF (CTok.cons Oq (CTok.cons NS (CTok.cons Li (CTok.cons Ys (CTok.nil _))))) Tryz.func72 (λ(i:(List (List V2))×Fr×Fr)=>let Z3:=AP i.1;[(3,.mk 9 (Nat) (λx1=>{tm:=[(0,tX 1),(4,tP 2 0),(5,tP 5 0),(16,tX 1),(17,tI (nI (Z3.length))),(18,tI (nI x1)),(7,tX 8)],en:=[(2,.box [kB (decide (i.2.1.z<0)),.ext 3,.ext 4]),(5,.box [kB (decide (i.2.2.z<0)),.ext 6,.ext 7]),(1,.view 66 [.sl 36 [.int,.int]] Z3 []),(3,eV (L i.2.1.z.natAbs)),(4,eV (L i.2.1.d)),(6,eV (L i.2.2.z.natAbs)),(7,eV (L i.2.2.d)),(8,.own 114 Xt (Bb (bkT i.1 i.2.1 i.2.2 x1)))]}) (λx1=>x1<=i.1.length) (λx1=>i.1.length-x1) (λx1=>let Z2:=AD (i.1.getD x1 []) (nI x1);[(8,.mk 20 (Nat) (λx2=>let Z1:=spS Z2 i.2.1 i.2.2 x2;{tm:=[(0,tX 1),(4,tP 2 0),(5,tP 5 0),(7,tX 8),(8,tI (nI x1)),(9,tX 9),(10,tP 10 0),(16,tX 1),(17,tI (nI (Z3.length))),(18,tI (nI x1)),(28,tI (nI x2)),(26,tX 19),(27,tI (nI ((Aj Z2).length))),(11,tI (nI (Z1.2.2)))],en:=[(2,.box [kB (decide (i.2.1.z<0)),.ext 3,.ext 4]),(5,.box [kB (decide (i.2.2.z<0)),.ext 6,.ext 7]),(10,.box [kB (decide ((Z1.1.l).z<0)),.ext 11,.ext 12,kB (decide ((Z1.1.r).z<0)),.ext 13,.ext 14,kB (decide ((Z1.2.1.l).z<0)),.ext 15,.ext 16,kB (decide ((Z1.2.1.r).z<0)),.ext 17,.ext 18]),(1,.view 66 [.sl 36 [.int,.int]] Z3 []),(3,eV (L i.2.1.z.natAbs)),(4,eV (L i.2.1.d)),(6,eV (L i.2.2.z.natAbs)),(7,eV (L i.2.2.d)),(8,.own 114 Xt (Bb (bkT i.1 i.2.1 i.2.2 x1))),(9,.view 36 [.int,.int] ((((Z3.getD x1 []).getD 0 (.int 0))).r) []),(11,.own 3 [.int] (L (Z1.1.l).z.natAbs)),(12,.own 3 [.int] (L (Z1.1.l).d)),(13,.own 3 [.int] (L (Z1.1.r).z.natAbs)),(14,.own 3 [.int] (L (Z1.1.r).d)),(15,.own 3 [.int] (L (Z1.2.1.l).z.natAbs)),(16,.own 3 [.int] (L (Z1.2.1.l).d)),(17,.own 3 [.int] (L (Z1.2.1.r).z.natAbs)),(18,.own 3 [.int] (L (Z1.2.1.r).d)),(19,.own 87 z86 (Aj Z2))]}) (λx2=>x2<=Z2.length) (λx2=>Z2.length-x2) (λ_=>[]))]))]) ?_;rintro⟨ls,lo,hi⟩ a3;have a3:A3 ls=true/\ls.length<=1048576/\∀x ∈ bkT ls lo hi ls.length,x.lo.lev.d≠0:=a3
 refine AG (q:=let a2:=List Dat;let a7:=L hi.z.natAbs;let a8:=L lo.z.natAbs;let a1:=AP ls;let a9:=vB (decide (hi.z<0));let aA:=vB (decide (lo.z<0));let Z6:=vI (nI (a1.length));(∃x1:Nat,(x1<=ls.length)/\((rf Z6)/\(vI (0:Int)=vI (nI x1))/\(rf aA)/\(rf a9)/\(rf a1)/\(rf a8)/\(rf (L lo.d))/\(rf a7)/\(rf (L hi.d))/\(([]:List a2)=(Bb (bkT ls lo hi x1)))))/\∀x1:Nat,let b3:=wR ((nI x1)+(1:Int));let a4:=vI (nI x1);let Z5:=Bb (bkT ls lo hi x1);let Z4:=(((a1.getD x1 []).getD 0 (.int 0))).r;let Z1:=AD (ls.getD x1 []) (nI x1);let a5:=Aj Z1;let aE:=nI (a5.length);(x1<=ls.length)->(ifB ((decide ((nI x1)<(nI (a1.length))))) ((0<=(nI x1)/\(nI x1)<(a1.length:Int))/\((x1<a1.length)/\(∃i1:(List V2)×Int,[DA.one (DC.sl 36 [.int,.int] Z4),DA.one (cI (nI x1))]=DP.args i1/\DP.pre i1/\((∃x2:Nat,let Z7:=spS Z1 lo hi x2;(x2<=Z1.length)/\((rf a4)/\(rf Z6)/\(rf a4)/\(vI (0:Int)=vI (nI x2))/\(vI (nI ((Aj (AD i1.1 i1.2)).length))=vI aE)/\(vI (0:Int)=vI (nI (Z7.2.2)))/\(rf aA)/\(rf a9)/\(vB false=vB (decide ((Z7.1.l).z<0)))/\(vB false=vB (decide ((Z7.1.r).z<0)))/\(vB false=vB (decide ((Z7.2.1.l).z<0)))/\(vB false=vB (decide ((Z7.2.1.r).z<0)))/\(rf a1)/\(rf a8)/\(rf (L lo.d))/\(rf a7)/\(rf (L hi.d))/\(rf Z5)/\(rf Z4)/\(([]:List a2)=(L (Z7.1.l).z.natAbs))/\(([]:List a2)=(L (Z7.1.l).d))/\(([]:List a2)=(L (Z7.1.r).z.natAbs))/\(([]:List a2)=(L (Z7.1.r).d))/\(([]:List a2)=(L (Z7.2.1.l).z.natAbs))/\(([]:List a2)=(L (Z7.2.1.l).d))/\(([]:List a2)=(L (Z7.2.1.r).z.natAbs))/\(([]:List a2)=(L (Z7.2.1.r).d))/\(Aj (AD i1.1 i1.2)=a5)))/\∀x2:Nat,let aX:=wR ((nI x2)+(1:Int));let Z3:=a5.getD x2 [];let aY:=((Z3.getD 4 (.int 0))).n;let aZ:=((Z3.getD 3 (.int 0))).n;let b0:=((Z3.getD 2 (.int 0))).n;let b1:=((Z3.getD 1 (.int 0))).n;let b2:=((Z3.getD 0 (.int 0))).n;let aK:=((Z3.getD 5 (.int 0))).b;let Z2:=spS Z1 lo hi x2;let b4:=wR ((nI (Z2.2.2))+(1:Int));let aL:=L (Z2.1.r).d;let aM:=L (Z2.1.l).d;let aN:=L (Z2.2.1.r).d;let aO:=L (Z2.2.1.l).d;let aP:=L (Z2.1.r).z.natAbs;let aQ:=L (Z2.1.l).z.natAbs;let aR:=L (Z2.2.1.r).z.natAbs;let aS:=L (Z2.2.1.l).z.natAbs;let aT:=decide ((Z2.1.r).z<0);let aU:=decide ((Z2.1.l).z<0);let aV:=decide ((Z2.2.1.r).z<0);let aW:=decide ((Z2.2.1.l).z<0);(x2<=Z1.length)->(ifB ((decide ((nI x2)<aE))) ((0<=(nI x2)/\(nI x2)<(a5.length:Int))/\((x2<a5.length)/\(∃i2:Edg×Fr×Fr,[DA.agg [cI b2,cI b1,cI b0,cI aZ,cI aY,cB aK],dF lo,dF hi]=CC.args i2/\CC.pre i2/\(ifB ((!(spn i2.1 i2.2.1 i2.2.2))) (∃y3:Nat,let Z8:=spS Z1 lo hi y3;(y3<=Z1.length)/\(Z1.length-y3<Z1.length-x2)/\((rf a4)/\(rf Z6)/\(rf a4)/\(vI aX=vI (nI y3))/\(rf (vI aE))/\(vI (nI (Z2.2.2))=vI (nI (Z8.2.2)))/\(rf aA)/\(rf a9)/\(vB aU=vB (decide ((Z8.1.l).z<0)))/\(vB aT=vB (decide ((Z8.1.r).z<0)))/\(vB aW=vB (decide ((Z8.2.1.l).z<0)))/\(vB aV=vB (decide ((Z8.2.1.r).z<0)))/\(rf a1)/\(rf a8)/\(rf (L lo.d))/\(rf a7)/\(rf (L hi.d))/\(rf Z5)/\(rf Z4)/\(aQ=(L (Z8.1.l).z.natAbs))/\(aM=(L (Z8.1.l).d))/\(aP=(L (Z8.1.r).z.natAbs))/\(aL=(L (Z8.1.r).d))/\(aS=(L (Z8.2.1.l).z.natAbs))/\(aO=(L (Z8.2.1.l).d))/\(aR=(L (Z8.2.1.r).z.natAbs))/\(aN=(L (Z8.2.1.r).d))/\(rf a5))) (∃i3:Edg×Fr,let aC:=hgt i3.1 i3.2;[DA.agg [cI b2,cI b1,cI b0,cI aZ,cI aY,cB aK],dF lo]=BZ.args i3/\BZ.pre i3/\(∃i4:Edg×Fr,let aD:=hgt i4.1 i4.2;[DA.agg [cI b2,cI b1,cI b0,cI aZ,cI aY,cB aK],dF hi]=BZ.args i4/\BZ.pre i4/\(ifB aK (∃y4:Nat,let Z9:=spS Z1 lo hi y4;(y4<=Z1.length)/\(Z1.length-y4<Z1.length-x2)/\((rf a4)/\(rf Z6)/\(rf a4)/\(vI aX=vI (nI y4))/\(rf (vI aE))/\(vI b4=vI (nI (Z9.2.2)))/\(rf aA)/\(rf a9)/\(vB (decide (aC.z<0))=vB (decide ((Z9.1.l).z<0)))/\(vB (decide (aD.z<0))=vB (decide ((Z9.1.r).z<0)))/\(vB aW=vB (decide ((Z9.2.1.l).z<0)))/\(vB aV=vB (decide ((Z9.2.1.r).z<0)))/\(rf a1)/\(rf a8)/\(rf (L lo.d))/\(rf a7)/\(rf (L hi.d))/\(rf Z5)/\(rf Z4)/\(L aC.z.natAbs=(L (Z9.1.l).z.natAbs))/\(L aC.d=(L (Z9.1.l).d))/\(L aD.z.natAbs=(L (Z9.1.r).z.natAbs))/\(L aD.d=(L (Z9.1.r).d))/\(aS=(L (Z9.2.1.l).z.natAbs))/\(aO=(L (Z9.2.1.l).d))/\(aR=(L (Z9.2.1.r).z.natAbs))/\(aN=(L (Z9.2.1.r).d))/\(rf a5))) (∃y5:Nat,let a0:=spS Z1 lo hi y5;(y5<=Z1.length)/\(Z1.length-y5<Z1.length-x2)/\((rf a4)/\(rf Z6)/\(rf a4)/\(vI aX=vI (nI y5))/\(rf (vI aE))/\(vI b4=vI (nI (a0.2.2)))/\(rf aA)/\(rf a9)/\(vB aU=vB (decide ((a0.1.l).z<0)))/\(vB aT=vB (decide ((a0.1.r).z<0)))/\(vB (decide (aC.z<0))=vB (decide ((a0.2.1.l).z<0)))/\(vB (decide (aD.z<0))=vB (decide ((a0.2.1.r).z<0)))/\(rf a1)/\(rf a8)/\(rf (L lo.d))/\(rf a7)/\(rf (L hi.d))/\(rf Z5)/\(rf Z4)/\(aQ=(L (a0.1.l).z.natAbs))/\(aM=(L (a0.1.l).d))/\(aP=(L (a0.1.r).z.natAbs))/\(aL=(L (a0.1.r).d))/\(L aC.z.natAbs=(L (a0.2.1.l).z.natAbs))/\(L aC.d=(L (a0.2.1.l).d))/\(L aD.z.natAbs=(L (a0.2.1.r).z.natAbs))/\(L aD.d=(L (a0.2.1.r).d))/\(rf a5)))))))))) (ifB (((nI (Z2.2.2)) == (2:Int))) ((Z5.length+([[Dat.bool aU,Dat.sl aQ,Dat.sl aM,Dat.bool aT,Dat.sl aP,Dat.sl aL,Dat.bool aW,Dat.sl aS,Dat.sl aO,Dat.bool aV,Dat.sl aR,Dat.sl aN]]:List a2).length<=1073741824)/\(∃y6:Nat,(y6<=ls.length)/\(ls.length-y6<ls.length-x1)/\((rf Z6)/\(vI b3=vI (nI y6))/\(rf aA)/\(rf a9)/\(rf a1)/\(rf a8)/\(rf (L lo.d))/\(rf a7)/\(rf (L hi.d))/\((Z5++([[Dat.bool aU,Dat.sl aQ,Dat.sl aM,Dat.bool aT,Dat.sl aP,Dat.sl aL,Dat.bool aW,Dat.sl aS,Dat.sl aO,Dat.bool aV,Dat.sl aR,Dat.sl aN]]:List a2))=(Bb (bkT ls lo hi y6)))))) (∃y7:Nat,(y7<=ls.length)/\(ls.length-y7<ls.length-x1)/\((rf Z6)/\(vI b3=vI (nI y7))/\(rf aA)/\(rf a9)/\(rf a1)/\(rf a8)/\(rf (L lo.d))/\(rf a7)/\(rf (L hi.d))/\(Z5=(Bb (bkT ls lo hi y7))))))))))) (∃i5:(List Blk),[DA.one (DC.sl 114 Xt Z5),DA.one (DC.ro (.fn 115 []))]=EL.args i5/\EL.pre i5/\((Bb (IC (λx=>x.lo.lev) noK i5)=Bb (bkS ls lo hi)))))) (by kernel_rfl) ?_
 conv=>zeta
 delta ifB vB vI wR nI;have b5:=BE ls;refine⟨⟨0,by omega,?_⟩,?_⟩;refine⟨rfl,?_,rfl,rfl,rfl,rfl,rfl,rfl,rfl,?_⟩;rfl;rfl;intro (k:Nat) aF;have aF:k<=ls.length:=aF;refine And.symm ⟨λaG=>?_,λaG=>?_⟩;simp only[nrm]at aG;rw[b5]at aG;have b6:k=ls.length:=by omega
 have hbl:(∀x ∈ bkT ls lo hi k,x.lo.lev.d≠0)/\(bkT ls lo hi k).length<=1048576:=⟨by rw[b6];exact a3.2.2,by have:=MB ls lo hi k;omega⟩
 refine⟨(bkT ls lo hi k),by
  rfl,by
  trivial,?_⟩
 rw[b6];rfl;simp only[nrm]at aG;rw[b5]at aG;have hk:k<ls.length:=by omega
 have b7:=C9 a3.1 hk;have b9:=DY (ls.getD k []) ((k:Nat):Int) (ls.getD k []).length;rw[show Ba (ls.getD k []) ((k:Nat):Int) (ls.getD k []).length=(AD (ls.getD k []) ((k:Nat):Int))from rfl]at b9;have b8:=BG (AD (ls.getD k []) ((k:Nat):Int));have h16:=(BH b7).2.2;have hbt:=MB ls lo hi k;have hbz:=Ku (bkT ls lo hi k);refine ao (by omega) λo14=>?_;refine ao (by omega) λo15=>?_
 refine⟨((ls.getD k []),((k:Nat):Int)),by
  rw[Be hk];rfl,by
  trivial,?_⟩
 refine⟨⟨0,by omega,?_⟩,?_⟩;refine⟨rfl,rfl,rfl,?_,rfl,?_,rfl,rfl,?_,?_,?_,?_,rfl,rfl,rfl,rfl,rfl,rfl,rfl,?_,?_,?_,?_,?_,?_,?_,?_,rfl⟩;rfl;rfl;rfl;rfl;rfl;rfl;rw[Db];first|rfl|exact Ab.1.symm|exact Ab.2.1.symm|exact Ab.2.2.1.symm|exact Ab.2.2.2.1.symm|exact Ab.2.2.2.2.1.symm|exact Ab.2.2.2.2.2.symm
 rw[Db];first|rfl|exact Ab.1.symm|exact Ab.2.1.symm|exact Ab.2.2.1.symm|exact Ab.2.2.2.1.symm|exact Ab.2.2.2.2.1.symm|exact Ab.2.2.2.2.2.symm
 rw[Db];first|rfl|exact Ab.1.symm|exact Ab.2.1.symm|exact Ab.2.2.1.symm|exact Ab.2.2.2.1.symm|exact Ab.2.2.2.2.1.symm|exact Ab.2.2.2.2.2.symm
 rw[Db];first|rfl|exact Ab.1.symm|exact Ab.2.1.symm|exact Ab.2.2.1.symm|exact Ab.2.2.2.1.symm|exact Ab.2.2.2.2.1.symm|exact Ab.2.2.2.2.2.symm
 rw[Db];first|rfl|exact Ab.1.symm|exact Ab.2.1.symm|exact Ab.2.2.1.symm|exact Ab.2.2.2.1.symm|exact Ab.2.2.2.2.1.symm|exact Ab.2.2.2.2.2.symm
 rw[Db];first|rfl|exact Ab.1.symm|exact Ab.2.1.symm|exact Ab.2.2.1.symm|exact Ab.2.2.2.1.symm|exact Ab.2.2.2.2.1.symm|exact Ab.2.2.2.2.2.symm
 rw[Db];first|rfl|exact Ab.1.symm|exact Ab.2.1.symm|exact Ab.2.2.1.symm|exact Ab.2.2.2.1.symm|exact Ab.2.2.2.2.1.symm|exact Ab.2.2.2.2.2.symm
 rw[Db];first|rfl|exact Ab.1.symm|exact Ab.2.1.symm|exact Ab.2.2.1.symm|exact Ab.2.2.2.1.symm|exact Ab.2.2.2.2.1.symm|exact Ab.2.2.2.2.2.symm
 intro (n:Nat) a6;have a6:n<=(AD (ls.getD k []) ((k:Nat):Int)).length:=a6;refine And.symm ⟨λaH=>?_,λaH=>?_⟩;simp only[nrm]at aH;rw[b8]at aH;obtain rfl:n=(AD (ls.getD k []) ((k:Nat):Int)).length:=by omega
 refine And.symm ⟨λaB=>?_,λaB=>?_⟩;simp only[nrm]at aB;have hE:=ABk (ls:=ls) (lo:=lo) (hi:=hi) (k:=k) rfl (by omega)
 refine⟨k+1,by
  trivial,by
  omega,?_⟩
 refine⟨rfl,?_,rfl,rfl,rfl,rfl,rfl,rfl,rfl,?_⟩;exact AS (AC (by omega) (by omega));rw[hE];simp only[nrm]at aB;have hE:=AAO (ls:=ls) (lo:=lo) (hi:=hi) (k:=k) rfl (by omega);refine ao (by simp;omega) λo157=>?_
 refine⟨k+1,by
  trivial,by
  omega,?_⟩
 refine⟨rfl,?_,rfl,rfl,rfl,rfl,rfl,rfl,rfl,?_⟩;exact AS (AC (by omega) (by omega));exact hE;simp only[nrm]at aH;rw[b8]at aH;have hn:n<(AD (ls.getD k []) ((k:Nat):Int)).length:=by omega
 have hek:((AD (ls.getD k []) ((k:Nat):Int)).getD n noE).ok=true:=Io b7 hn;have hfew:=QA (AD (ls.getD k []) ((k:Nat):Int)) lo hi n;refine ao (by omega) λo50=>?_;refine ao (by omega) λo51=>?_
 refine⟨(((AD (ls.getD k []) ((k:Nat):Int)).getD n noE),lo,hi),by
  rw[BU hn];rfl,by
  trivial,?_⟩
 refine⟨λaI=>?_,λaI=>?_⟩;simp only[nrm]at aI;have hE:=Ks (es:=(AD (ls.getD k []) ((k:Nat):Int))) (lo:=lo) (hi:=hi) (k:=n) (by simpa using aI)
 refine⟨n+1,by
  trivial,by
  omega,?_⟩
 refine⟨rfl,rfl,rfl,?_,rfl,?_,rfl,rfl,?_,?_,?_,?_,rfl,rfl,rfl,rfl,rfl,rfl,rfl,?_,?_,?_,?_,?_,?_,?_,?_,rfl⟩;exact AS (AC (by omega) (by omega));rw[hE];rw[hE];rw[hE];rw[hE];rw[hE];rw[hE];rw[hE];rw[hE];rw[hE];rw[hE];rw[hE];rw[hE];rw[hE];simp only[nrm]at aI;have hs:spn ((AD (ls.getD k []) ((k:Nat):Int)).getD n noE) lo hi=true:=by simpa using aI
 refine⟨(((AD (ls.getD k []) ((k:Nat):Int)).getD n noE),lo),by
  rw[BU hn];rfl,by
  trivial,?_⟩
 refine⟨(((AD (ls.getD k []) ((k:Nat):Int)).getD n noE),hi),by
  rw[BU hn];rfl,by
  trivial,?_⟩
 refine⟨λaJ=>?_,λaJ=>?_⟩;rw[BU hn]at aJ;have hE:=P8 hs aJ
 refine⟨n+1,by
  trivial,by
  omega,?_⟩
 refine⟨rfl,rfl,rfl,?_,rfl,?_,rfl,rfl,?_,?_,?_,?_,rfl,rfl,rfl,rfl,rfl,rfl,rfl,?_,?_,?_,?_,?_,?_,?_,?_,rfl⟩;exact AS (AC (by omega) (by omega));rw[hE];exact AS (AC (by omega) (by omega));rw[hE];rfl;rw[hE];rfl;rw[hE];rw[hE];rw[hE];rfl;rw[hE];rfl;rw[hE];rfl;rw[hE];rfl;rw[hE];rw[hE];rw[hE];rw[hE];rw[BU hn]at aJ;have hE:=P9 hs aJ
 refine⟨n+1,by
  trivial,by
  omega,?_⟩
 refine⟨rfl,rfl,rfl,?_,rfl,?_,rfl,rfl,?_,?_,?_,?_,rfl,rfl,rfl,rfl,rfl,rfl,rfl,?_,?_,?_,?_,?_,?_,?_,?_,rfl⟩;exact AS (AC (by omega) (by omega));rw[hE];exact AS (AC (by omega) (by omega));rw[hE];rw[hE];rw[hE];rfl;rw[hE];rfl;rw[hE];rw[hE];rw[hE];rw[hE];rw[hE];rfl;rw[hE];rfl;rw[hE];rfl;rw[hE];rfl
end Go.Proofs.YthoidhehmmcgnaaGreat
