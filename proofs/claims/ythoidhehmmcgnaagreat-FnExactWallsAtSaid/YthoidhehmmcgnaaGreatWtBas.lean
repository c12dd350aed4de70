import Derived.WalkKit
import Derived.Lib.Hide
import Derived.OwnWalk
import Derived.Deep.LoopGhost
import Derived.Maps.AppendAt
import Derived.WalkSpells
namespace Go.Proofs.YthoidhehmmcgnaaGreat
set_option linter.unusedVariables false
set_option linter.unusedSimpArgs false
abbrev V2:=Int×Int
def inR(n lo hi:Int):Bool:=decide (lo<=n) && decide (n<=hi)
theorem Ov{n lo hi:Int} : inR n lo hi=true<->lo<=n/\n<=hi:=by simp[inR]
theorem QB{n lo hi:Int}(h1:lo<=n)(h2:n<=hi):inR n lo hi=true:=by simp[inR,h1,h2]
theorem T4{n lo hi:Int}(h:n<lo):inR n lo hi=false:=by simp[inR];omega
theorem QC{n lo hi:Int}(h:hi<n):inR n lo hi=false:=by simp[inR];omega
def Yt(m:Int)(p:V2):Bool:=inR p.1 (-m) m && inR p.2 (-m) m
def A1(p:V2):Bool:=Yt 1000 p
theorem Ow{m:Int}{p:V2}(h:Yt m p=true):-m<=p.1/\p.1<=m/\-m<=p.2/\p.2<=m:=by simp only[Yt,Bool.and_eq_true,Ov]at h;omega
theorem CW{p:V2}(h:A1 p=true):-1000<=p.1/\p.1<=1000/\-1000<=p.2/\p.2<=1000:=Ow h
def Ie(a b c:V2):Int:=(b.1-a.1)*(c.2-a.2)-(b.2-a.2)*(c.1-a.1)
def Fq(l:List V2)(i j:Nat):Bool:=
 decide (j=i) || decide (j=(i+1)%l.length) || decide (0<Ie (l.getD i (0,0)) (l.getD ((i+1)%l.length) (0,0)) (l.getD j (0,0)))
def Kk(l:List V2)(i:Nat):Bool:=(List.range l.length).all (Fq l i)
def AV(l:List V2):Bool:=inR l.length 3 16 && l.all A1 && (List.range l.length).all (Kk l)
def Fs{α:Type}(p:α->Bool):List α->Int
 | []=>-1|x::r=>if p x then 0 else if Fs p r<0 then -1 else Fs p r+1
theorem SA{α:Type}(p:α->Bool)(l:List α)(h:l.any p=false):Fs p l=-1:=by
 induction l with|nil=>rfl|cons x r ih=>simp only[List.any_cons,Bool.or_eq_false_iff]at h;simp[Fs,h.1,ih h.2]
theorem Wi{α:Type}(p:α->Bool)(l:List α)(d:α)(k:Nat)(hk:k<l.length)(h1:(l.take k).any p=false)(h2:p (l.getD k d)=true):Fs p l=k:=by
 induction l generalizing k with
 |nil=>simp at hk|cons x r ih=>
  cases k with|zero=>simp[List.getD]at h2;simp[Fs,h2]|succ k=>simp only[List.take_succ_cons,List.any_cons,Bool.or_eq_false_iff]at h1;have:=ih k (by simpa using hk) h1.2 (by simpa[List.getD]using h2);simp only[Fs,h1.1,this];simp;omega
theorem Ox{α:Type}(p:α->Bool)(l:List α):0<=Fs p l<->l.any p=true:=by
 induction l with|nil=>simp[Fs]|cons x r ih=>simp only[Fs,List.any_cons,Bool.or_eq_true,← ih];by_cases hx:p x=true;simp[hx];by_cases h0:Fs p r<0;simp[hx,h0];simp[hx,h0];omega
theorem VL{α:Type}(p:α->Bool)(l:List α):decide (0<=Fs p l)=l.any p:=by rw[Bool.eq_iff_iff,decide_eq_true_iff,Ox]
theorem NZ{α:Type}(p:α->Bool)(l:List α)(d:α)(k:Nat)(hk:k<l.length):(l.take (k+1)).any p=((l.take k).any p || p (l.getD k d)):=by rw[List.take_succ_eq_append_getElem hk,List.any_append];simp[List.getD,List.getElem?_eq_getElem hk]
theorem Na{α:Type}(p:α->Bool)(l:List α)(d:α)(k:Nat)(hk:k<l.length):(l.take (k+1)).all p=((l.take k).all p && p (l.getD k d)):=by rw[List.take_succ_eq_append_getElem hk,List.all_append];simp[List.getD,List.getElem?_eq_getElem hk]
theorem Lu{α:Type}(p:α->Bool)(l:List α)(d:α)(k:Nat)(hk:k<l.length)(h:p (l.getD k d)=false):l.all p=false:=by rw[List.all_eq_false];refine⟨l[k],List.getElem_mem hk,?_⟩;simpa[List.getD,List.getElem?_eq_getElem hk]using h
theorem BY(p:Nat->Bool)(k:Nat):(List.range (k+1)).all p=((List.range k).all p && p k):=by rw[List.range_succ,List.all_append];simp
theorem C9(p:Nat->Bool)(n k:Nat)(hk:k<n)(h:p k=false):(List.range n).all p=false:=by rw[List.all_eq_false];exact⟨k,List.mem_range.2 hk,by simp[h]⟩
theorem Er{α:Type}{p:α->Bool}{l:List α}(h:l.all p=true)(d:α)(k:Nat)(hk:k<l.length):p (l.getD k d)=true:=by rw[List.all_eq_true]at h;have:=h l[k] (List.getElem_mem hk);simpa[List.getD,List.getElem?_eq_getElem hk]using this
theorem Oy{a b m n:Int}(ha:-m<=a/\a<=m)(hb:-n<=b/\b<=n)(hm:0<=m)(hn:0<=n):-(m*n)<=a*b/\a*b<=m*n:=by
 obtain⟨a1,a2⟩:=ha;obtain⟨b1,b2⟩:=hb;have h:(a*b).natAbs<=(m*n).natAbs:=by rw[Int.natAbs_mul,Int.natAbs_mul];exact Nat.mul_le_mul (by omega) (by omega)
 have h0:0<=m*n:=Int.mul_nonneg hm hn;omega
def shape(m:Int)(l:List V2):Bool:=AV l && decide (l.length<=5) && l.all (Yt m)
structure Scn where
 low:V2
 high:V2
 robot:List V2
 obst:List (List V2)
 tables:List V2
open Go.RowKit
def SlAt(sz:Nat)(w:World)(v:Value)(xs:List (List Value)):Prop:=
 ∃(a:Option Addr)(cap:Nat),v=.slice a xs.length cap/\xs.length<=cap/\cap<=maxLen/\(∀x ∈ xs,x.length=sz) /\
  ((xs=[]/\(a=none->cap=0))\/∃b off,a=some ⟨b,off,none⟩/\b<w.heap.size/\∀j,j<xs.length->∀i,i<sz->w.cell? ⟨b,off+(j*sz+i),none⟩=some ((xs.getD j []).getD i undef))
def Fe(p:Int×Int):List Value:=[.int .i64 p.1,.int .i64 p.2]
def VecsAt(w:World)(v:Value)(l:List (Int×Int)):Prop:=SlAt 2 w v (l.map Fe)
def IntsAt(w:World)(v:Value)(l:List Int):Prop:=SlAt 1 w v (l.map λn=>[.int .i64 n])
theorem SlAt.below{sz:Nat}{w w' : World}{v:Value}{xs:List (List Value)}(h:SlAt sz w v xs)(hb:Below w.heap.size w w'):SlAt sz w' v xs:=by obtain⟨a,cap,h1,h2,h3,h4,h5⟩:=h;refine⟨a,cap,h1,h2,h3,h4,?_⟩;rcases h5 with h5|⟨b,off,h5,h6,h7⟩;exact .inl h5;refine .inr ⟨b,off,h5,Nat.lt_of_lt_of_le h6 hb.size,λj hj i hi=>?_⟩;rw[hb.cell (p:=⟨b,_,none⟩) h6];exact h7 j hj i hi
theorem VecsAt.below{w w' : World}{v:Value}{l:List (Int×Int)}(h:VecsAt w v l)(hb:Below w.heap.size w w'):VecsAt w' v l:=SlAt.below h hb
theorem IntsAt.below{w w' : World}{v:Value}{l:List Int}(h:IntsAt w v l)(hb:Below w.heap.size w w'):IntsAt w' v l:=SlAt.below h hb
theorem VecsAt.open{w:World}{v:Value}{l:List (Int×Int)}(h:VecsAt w v l):∃(a:Option Addr)(cap:Nat),v=.slice a l.length cap/\l.length<=cap/\cap<=9223372036854775807 /\
  ∀k,k<l.length->∃b off,a=some ⟨b,off,none⟩/\b<w.heap.size/\w.cell? ⟨b,off+k*2,none⟩=some (.int .i64 (l.getD k (0,0)).1)/\w.cell? ⟨b,off+k*2+1,none⟩=some (.int .i64 (l.getD k (0,0)).2):=by
 obtain⟨a,cap,h1,h2,h3,h4,h5⟩:=h;simp only[List.length_map]at h1 h2;refine⟨a,cap,h1,h2,by unfold maxLen at h3;omega,λk hk=>?_⟩;rcases h5 with⟨h5,_⟩|⟨b,off,h5,h6,h7⟩;simp at h5;subst h5;simp at hk;have e0:=h7 k (by simpa using hk) 0 (by omega);have e1:=h7 k (by simpa using hk) 1 (by omega);refine⟨b,off,h5,h6,?_,?_⟩;simpa[List.getD,List.getElem?_map,List.getElem?_eq_getElem hk,Fe]using e0;simpa[List.getD,List.getElem?_map,List.getElem?_eq_getElem hk,Fe,Nat.add_assoc]using e1
theorem IntsAt.open{w:World}{v:Value}{l:List Int}(h:IntsAt w v l):∃(a:Option Addr)(cap:Nat),v=.slice a l.length cap/\l.length<=cap/\cap<=9223372036854775807 /\
  ∀k,k<l.length->∃b off,a=some ⟨b,off,none⟩/\b<w.heap.size/\w.cell? ⟨b,off+k,none⟩=some (.int .i64 (l.getD k 0)):=by
 obtain⟨a,cap,h1,h2,h3,h4,h5⟩:=h;simp only[List.length_map]at h1 h2;refine⟨a,cap,h1,h2,by unfold maxLen at h3;omega,λk hk=>?_⟩;rcases h5 with⟨h5,_⟩|⟨b,off,h5,h6,h7⟩;simp at h5;subst h5;simp at hk;have e0:=h7 k (by simpa using hk) 0 (by omega);refine⟨b,off,h5,h6,?_⟩;simpa[List.getD,List.getElem?_map,List.getElem?_eq_getElem hk]using e0
def VecSSAt(w:World)(v:Value)(ll:List (List (Int×Int))):Prop:=
 ∃vs:List Value,SlAt 1 w v (vs.map λx=>[x])/\vs.length=ll.length/\∀k,k<ll.length->VecsAt w (vs.getD k undef) (ll.getD k [])
theorem VecSSAt.below{w w' : World}{v:Value}{ll:List (List (Int×Int))}(h:VecSSAt w v ll)(hb:Below w.heap.size w w'):VecSSAt w' v ll:=by obtain⟨vs,h1,h2,h3⟩:=h;exact⟨vs,h1.below hb,h2,λk hk=>(h3 k hk).below hb⟩
theorem VecSSAt.open{w:World}{v:Value}{ll:List (List (Int×Int))}(h:VecSSAt w v ll):∃(a:Option Addr)(cap:Nat),v=.slice a ll.length cap/\ll.length<=cap/\cap<=9223372036854775807 /\
  ∀k,k<ll.length->∃b off u,a=some ⟨b,off,none⟩/\b<w.heap.size/\w.cell? ⟨b,off+k,none⟩=some u/\VecsAt w u (ll.getD k []):=by
 obtain⟨vs,⟨a,cap,h1,h2,h3,h4,h5⟩,hl,hv⟩:=h;simp only[List.length_map,hl]at h1 h2;refine⟨a,cap,h1,h2,by unfold maxLen at h3;omega,λk hk=>?_⟩;rcases h5 with⟨h5,_⟩|⟨b,off,h5,h6,h7⟩;simp at h5;subst h5;simp at hl;rw[← hl]at hk;omega;have hk' : k<vs.length:=by omega
 have e0:=h7 k (by simpa using hk') 0 (by omega);refine⟨b,off,vs.getD k undef,h5,h6,?_,hv k hk⟩;simpa[List.getD,List.getElem?_map,List.getElem?_eq_getElem hk']using e0
def SceneAt(w:World)(v:Value)(s:Scn):Prop:=
 ∃r o t,v=.agg #[.int .i64 s.low.1,.int .i64 s.low.2,.int .i64 s.high.1,.int .i64 s.high.2,r,o,t]/\VecsAt w r s.robot/\VecSSAt w o s.obst/\VecsAt w t s.tables
theorem SceneAt.below{w w' : World}{v:Value}{s:Scn}(h:SceneAt w v s)(hb:Below w.heap.size w w'):SceneAt w' v s:=by obtain⟨r,o,t,h1,h2,h3,h4⟩:=h;exact⟨r,o,t,h1,h2.below hb,h3.below hb,h4.below hb⟩
theorem Es{W w1:World}(hb:Below W.heap.size W w1):(∀b o,b<W.heap.size->w1.cell? ⟨b,o,none⟩=W.cell? ⟨b,o,none⟩)/\(∀b o,b<W.heap.size->w1.frozen? ⟨b,o,none⟩=W.frozen? ⟨b,o,none⟩):=
 ⟨λb o h=>hb.cell (p:=⟨b,o,none⟩) h,λb o h=>hb.frozen (p:=⟨b,o,none⟩) h⟩
theorem G7{a b:Bool}(h:a=b):Ending.returned (.bool a)=.returned (.bool b):=by rw[h]
theorem T5{a b:Int}(h:a=b):Ending.returned (.int .i64 a)=.returned (.int .i64 b):=by rw[h]
structure ElemT(P:Program)(t e size bytes:Nat):Prop where
 slice:P.underlying t=some (.slice e)
 info:∃i z,P.info? e=some i/\i.zero=some z/\i.size=size/\i.bytes=bytes/\z.cells.size=size
 pos:0<size
theorem ElemT.mk'{P:Program}{t e size bytes:Nat}(z:Value)(h1:P.underlying t=some (.slice e))(h2:(P.info? e).map (λi=>(i.zero,i.size,i.bytes))=some (some z,size,bytes))(h3:z.cells.size=size)(h4:0<size):ElemT P t e size bytes:=by
 refine⟨h1,?_,h4⟩;cases h:P.info? e with|none=>rw[h]at h2;simp at h2|some i=>rw[h]at h2;simp at h2;exact⟨i,z,rfl,h2.1,h2.2.1,h2.2.2,h3⟩
theorem Ff{w w' : World}{base:Nat}{e:TypeId}{size:Nat}{v:Value}{n:Nat}{xs:List Value}(h:w.ownsRow base e size v n xs)(hb:Below w.heap.size w w'):w'.ownsRow base e size v n xs:=by obtain⟨h1,h2⟩:=h;refine⟨h1,?_⟩;rcases h2 with h2|⟨g,cap,cur,hv,hg,hh,r⟩;exact .inl h2;refine .inr ⟨g,cap,cur,hv,hg,?_,r⟩;rw[hb.block g (Array.getElem?_eq_some_iff.1 hh).1];exact hh
theorem SC(w:World)(base:Nat)(e:TypeId)(size:Nat)(hb:base<=w.heap.size):(w.alloc (.cells #[] e)).ownsRow base e size (.slice (some ⟨w.heap.size,0,none⟩) 0 0) 0 []:=
 ⟨by simp,.inr ⟨w.heap.size,0,#[],rfl,hb,heap_alloc_new w _,Nat.le_refl _,by decide,by simp,by simp⟩⟩
theorem CJ(rows:List (List Value))(size:Nat)(hr:∀x ∈ rows,x.length=size)(j:Nat)(hj:j/size<rows.length)(hi:j%size<size):rows.flatten[j]?=some ((rows.getD (j/size) []).getD (j%size) undef):=by
 have key:∀(rows:List (List Value)),(∀x ∈ rows,x.length=size)->∀q i,q<rows.length->i<size->rows.flatten[q*size+i]?=some ((rows.getD q []).getD i undef):=by
  intro rows;induction rows with
  |nil=>intro _ q i hq;simp at hq|cons x r ih=>
   intro hr q i hq hi;have hx:=hr x (by simp);cases q with|zero=>simp only[List.flatten_cons,Nat.zero_mul,Nat.zero_add];rw[List.getElem?_append_left (by omega)];simp[List.getD,List.getElem?_eq_getElem (show i<x.length by omega)]|succ q=>have:=ih (λy hy=>hr y (by simp[hy])) q i (by simpa using hq) hi;simp only[List.flatten_cons];rw[List.getElem?_append_right (by rw[hx,Nat.add_mul];omega),hx];rw[show(q+1)*size+i-size=q*size+i by rw[Nat.add_mul];omega,this];simp[List.getD]
 have:=key rows hr (j/size) (j%size) hj hi;rwa [show j/size*size+j%size=j by rw[Nat.mul_comm];exact Nat.div_add_mod j size]at this
theorem Ee{w:World}{base:Nat}{e:TypeId}{size:Nat}{v:Value}{rows:List (List Value)}(h:w.ownsRow base e size v rows.length rows.flatten)(hr:∀x ∈ rows,x.length=size):SlAt size w v rows:=by
 obtain⟨h1,h2⟩:=h;rcases h2 with⟨rfl,h2⟩|⟨g,cap,cur,rfl,hg,hh,hc,hm,hs,ht⟩;have:rows=[]:=List.eq_nil_of_length_eq_zero h2;subst this;exact⟨none,0,rfl,Nat.le_refl _,by decide,by simp,.inl ⟨rfl,λ_=>rfl⟩⟩;refine⟨_,cap,rfl,hc,hm,hr,?_⟩;refine .inr ⟨g,0,rfl,(Array.getElem?_eq_some_iff.1 hh).1,λj hj i hi=>?_⟩
 have key:(rows.flatten)[j*size+i]?=some ((rows.getD j []).getD i undef):=by
  clear h1 hh hc hm hs ht hg;induction rows generalizing j with
  |nil=>simp at hj|cons x r ih=>
   have hx:=hr x (by simp);cases j with|zero=>simp only[List.flatten_cons,Nat.zero_mul,Nat.zero_add];rw[List.getElem?_append_left (by omega)];simp[List.getD,List.getElem?_eq_getElem (show i<x.length by omega)]|succ j=>have:=ih (λy hy=>hr y (by simp[hy])) j (by simpa using hj);simp only[List.flatten_cons];rw[List.getElem?_append_right (by rw[hx,Nat.add_mul];omega),hx];rw[show(j+1)*size+i-size=j*size+i by rw[Nat.add_mul];omega,this];simp[List.getD]
 have a0:j*size+i<rows.length*size:=by have:(j+1)*size<=rows.length*size:=Nat.mul_le_mul_right _ hj;rw[Nat.add_mul]at this;omega
 rw[← ht,List.getElem?_take,if_pos a0]at key;rw[← key];simp[World.cell?,hh]
def ownsVecs(w:World)(base e:Nat)(v:Value)(l:List V2):Prop:=w.ownsRow base e 2 v l.length (l.map Fe).flatten
theorem ownsVecs.at{w:World}{base e:Nat}{v:Value}{l:List V2}(h:ownsVecs w base e v l):VecsAt w v l:=by refine Ee (base:=base) (e:=e) ?_ (by intro x hx;simp at hx;obtain⟨a,b,_,rfl⟩:=hx;rfl);rw[List.length_map];exact h
theorem ownsVecs.below{w w' : World}{base e:Nat}{v:Value}{l:List V2}(h:ownsVecs w base e v l)(hb:Below w.heap.size w w'):ownsVecs w' base e v l:=Ff h hb
theorem ownsVecs.alloc{w:World}{base e:Nat}{v:Value}{l:List V2}(h:ownsVecs w base e v l)(o:Obj):ownsVecs (w.alloc o) base e v l:=World.ownsRow.alloc h o
structure OnlyIn(S:Nat->Prop)(w w' : World):Prop where
 os:w'.os=w.os
 tape:w'.tape=w.tape
 output:w'.output=w.output
 size:w.heap.size<=w'.heap.size
 block:∀k,k<w.heap.size->¬S k->w'.heap[k]?=w.heap[k]?
theorem OnlyIn.refl(S:Nat->Prop)(w:World):OnlyIn S w w:=⟨rfl,rfl,rfl,Nat.le_refl _,λ_ _ _=>rfl⟩
theorem OnlyIn.trans{S:Nat->Prop}{a b c:World}(h:OnlyIn S a b)(k:OnlyIn S b c):OnlyIn S a c:=
 ⟨k.os.trans h.os,k.tape.trans h.tape,k.output.trans h.output,Nat.le_trans h.size k.size,λi hi hS=>(k.block i (Nat.lt_of_lt_of_le hi h.size) hS).trans (h.block i hi hS)⟩
theorem OnlyIn.mono{S T:Nat->Prop}{w w' : World}(h:OnlyIn S w w')(hST:∀k,S k->T k):OnlyIn T w w':=
 ⟨h.os,h.tape,h.output,h.size,λk hk hT=>h.block k hk (λhS=>hT (hST k hS))⟩
theorem OnlyIn.below{S:Nat->Prop}{w w' : World}{B:Nat}(h:OnlyIn S w w')(hS:∀k,S k->B<=k)(hB:B<=w.heap.size):Below B w w':=
 ⟨h.os,h.tape,h.output,h.size,λk hk=>h.block k (by omega) (λhs=>by have:=hS k hs;omega)⟩
theorem OnlyIn.of_below{S:Nat->Prop}{w w' : World}(h:Below w.heap.size w w'):OnlyIn S w w':=
 ⟨h.os,h.tape,h.output,h.size,λk hk _=>h.block k hk⟩
theorem OnlyIn.of_grown{S:Nat->Prop}{w w' : World}{row:Option Nat}(h:w.grownBy w' row)(hr:∀k,row=some k->S k):OnlyIn S w w':=
 ⟨h.os,h.tape,h.output,h.size,λk hk hS=>h.block k hk (λe=>hS (hr k e.symm))⟩
theorem OnlyIn.setCell{S:Nat->Prop}{a w:World}(h:OnlyIn S a w){p:Addr}(hp:S p.block)(u:Value):OnlyIn S a (w.setCell p u):=
 h.trans ⟨rfl,rfl,rfl,by simp[World.setCell],λk _ hk=>Below.heap_setCell _ _ _ _ (λe=>hk (e ▸ hp))⟩
theorem OnlyIn.alloc{S:Nat->Prop}{a w:World}(h:OnlyIn S a w)(o:Obj):OnlyIn S a (w.alloc o):=
 h.trans ⟨rfl,rfl,rfl,by simp,λk hk _=>Below.heap_alloc _ _ _ hk⟩
theorem Nm{S:Nat->Prop}{w w' : World}{base:Nat}{e:TypeId}{size:Nat}{v:Value}{n:Nat}{xs:List Value}(h:w.ownsRow base e size v n xs)(ho:OnlyIn S w w')(hS:∀k,v.ownBlock=some k->¬S k):w'.ownsRow base e size v n xs:=by obtain⟨h1,h2⟩:=h;refine⟨h1,?_⟩;rcases h2 with h2|⟨g,cap,cur,hv,hg,hh,r⟩;exact .inl h2;refine .inr ⟨g,cap,cur,hv,hg,?_,r⟩;rw[ho.block g (Array.getElem?_eq_some_iff.1 hh).1 (hS g (by rw[hv];rfl))];exact hh
inductive Ty where
 |int|bool|str
 |sl (e:Nat) (fs:List Ty)
inductive Dat where
 |int (n:Int)
 |bool (b:Bool)
 |str (s:ByteArray)
 |sl (rows:List (List Dat))
mutual
def Rd(w:World):Ty->Dat->Value->Prop
 | .int,.int n,v=>v=.int .i64 n| .bool,.bool b,v=>v=.bool b| .str,.str s,v=>v=.string s| .sl _ ts,.sl ls,v=>∃rows:List (List Value),SlAt ts.length w v rows/\rows.length=ls.length/\∀k,k<ls.length->RdRow w ts (ls.getD k []) (rows.getD k [])|_,_,_=>False
def RdRow(w:World):List Ty->List Dat->List Value->Prop
 | [],[],[]=>True|t::ts,d::ds,v::vs=>Rd w t d v/\RdRow w ts ds vs|_,_,_=>False
end
mutual
def Fp(w:World):Ty->Dat->Value->List Nat->Prop
 | .int,.int n,v,bs=>v=.int .i64 n/\bs=[]| .bool,.bool b,v,bs=>v=.bool b/\bs=[]| .str,.str s,v,bs=>v=.string s/\bs=[]| .sl e ts,.sl ls,v,bs=>∃(rows:List (List Value))(bss:List (List Nat)),w.ownsRow 0 e ts.length v rows.length rows.flatten/\rows.length=ls.length/\bss.length=ls.length/\(∀r ∈ rows,r.length=ts.length) /\
  (∀k,k<ls.length->FpRow w ts (ls.getD k []) (rows.getD k []) (bss.getD k []))/\bs=v.ownBlock.toList++bss.flatten
 |_,_,_,_=>False
def FpRow(w:World):List Ty->List Dat->List Value->List Nat->Prop
 | [],[],[],bs=>bs=[]|t::ts,d::ds,v::vs,bs=>∃b1 b2,bs=b1++b2/\Fp w t d v b1/\FpRow w ts ds vs b2|_,_,_,_=>False
end
mutual
theorem Rd.below{w w' : World}(hb:Below w.heap.size w w'):∀(t:Ty)(d:Dat)(v:Value),Rd w t d v->Rd w' t d v
 | .int,d,v=>λh=>by cases d <;> simp only[Rd]at h ⊢ <;> exact h| .bool,d,v=>λh=>by cases d <;> simp only[Rd]at h ⊢ <;> exact h| .str,d,v=>λh=>by cases d <;> simp only[Rd]at h ⊢ <;> exact h| .sl e ts,d,v=>λh=>by
  cases d with|sl ls=>simp only[Rd]at h ⊢;obtain⟨rows,h1,h2,h3⟩:=h;exact⟨rows,h1.below hb,h2,λk hk=>RdRow.below hb ts _ _ (h3 k hk)⟩|_=>simp[Rd]at h
theorem RdRow.below{w w' : World}(hb:Below w.heap.size w w'):∀(ts:List Ty)(ds:List Dat)(vs:List Value),RdRow w ts ds vs->RdRow w' ts ds vs
 | [],ds,vs=>λh=>by cases ds <;> cases vs <;> simp[RdRow]at h ⊢|t::ts,[],vs=>λh=>by simp[RdRow]at h|t::ts,d::ds,[]=>λh=>by simp[RdRow]at h|t::ts,d::ds,v::vs=>λh=>by simp only[RdRow]at h ⊢;exact⟨Rd.below hb t d v h.1,RdRow.below hb ts ds vs h.2⟩
end
theorem RdRow.lens{w:World} : ∀(ts:List Ty)(ds:List Dat)(vs:List Value),RdRow w ts ds vs->ds.length=ts.length/\vs.length=ts.length
 | [],ds,vs=>λh=>by cases ds <;> cases vs <;> simp[RdRow]at h ⊢|t::ts,[],vs=>λh=>by simp[RdRow]at h|t::ts,d::ds,[]=>λh=>by simp[RdRow]at h|t::ts,d::ds,v::vs=>λh=>by simp only[RdRow]at h;have:=RdRow.lens ts ds vs h.2;simp[this]
theorem Rd.one{w:World}{t:Ty}{d:Dat}{v:Value}(h:Rd w t d v):v.oneCell'=true:=by cases t <;> cases d <;> simp only[Rd]at h;subst h;rfl;subst h;rfl;subst h;rfl;obtain⟨rows,⟨a,cap,rfl,_⟩,_⟩:=h;rfl
theorem RdRow.one{w:World} : ∀(ts:List Ty)(ds:List Dat)(vs:List Value),RdRow w ts ds vs->∀v ∈ vs,v.oneCell'=true
 | [],ds,vs=>λh=>by cases ds <;> cases vs <;> simp[RdRow]at h ⊢|t::ts,[],vs=>λh=>by simp[RdRow]at h|t::ts,d::ds,[]=>λh=>by simp[RdRow]at h|t::ts,d::ds,v::vs=>λh=>by simp only[RdRow]at h;intro x hx;rcases List.mem_cons.1 hx with rfl|hx;exact h.1.one;exact RdRow.one ts ds vs h.2 x hx
mutual
theorem Fp.rd{w:World} : ∀(t:Ty)(d:Dat)(v:Value)(bs:List Nat),Fp w t d v bs->Rd w t d v
 | .int,d,v,bs=>λh=>by cases d <;> simp only[Fp,Rd]at h ⊢ <;> exact h.1| .bool,d,v,bs=>λh=>by cases d <;> simp only[Fp,Rd]at h ⊢ <;> exact h.1| .str,d,v,bs=>λh=>by cases d <;> simp only[Fp,Rd]at h ⊢ <;> exact h.1| .sl e ts,d,v,bs=>λh=>by
  cases d with|sl ls=>simp only[Fp,Rd]at h ⊢;obtain⟨rows,bss,h1,h2,h3,h4,h5,_⟩:=h;exact⟨rows,Ee h1 h4,h2,λk hk=>FpRow.rd ts _ _ _ (h5 k hk)⟩|_=>simp[Fp]at h
theorem FpRow.rd{w:World} : ∀(ts:List Ty)(ds:List Dat)(vs:List Value)(bs:List Nat),FpRow w ts ds vs bs->RdRow w ts ds vs
 | [],ds,vs,bs=>λh=>by cases ds <;> cases vs <;> simp[FpRow,RdRow]at h ⊢|t::ts,[],vs,bs=>λh=>by simp[FpRow]at h|t::ts,d::ds,[],bs=>λh=>by simp[FpRow]at h|t::ts,d::ds,v::vs,bs=>λh=>by simp only[FpRow,RdRow]at h ⊢;obtain⟨b1,b2,_,h1,h2⟩:=h;exact⟨Fp.rd t d v b1 h1,FpRow.rd ts ds vs b2 h2⟩
end
theorem Cw{bss:List (List Nat)}{b:Nat}(h:b ∈ bss.flatten):∃k,k<bss.length/\b ∈ bss.getD k []:=by obtain⟨l,hl,hb⟩:=List.mem_flatten.1 h;obtain⟨k,hk,rfl⟩:=List.mem_iff_getElem.1 hl;exact⟨k,hk,by simpa[List.getD,hk]using hb⟩
theorem AM{bss:List (List Nat)}{b k:Nat}(h:b ∈ bss.getD k []):b ∈ bss.flatten:=by by_cases hk:k<bss.length;exact List.mem_flatten.2 ⟨bss[k],List.getElem_mem hk,by simpa[List.getD,hk]using h⟩;simp[List.getD,show bss[k]?=none from List.getElem?_eq_none (by omega)]at h
mutual
theorem Fp.lt{w:World} : ∀(t:Ty)(d:Dat)(v:Value)(bs:List Nat),Fp w t d v bs->∀b ∈ bs,b<w.heap.size
 | .int,d,v,bs=>λh=>by cases d <;> simp only[Fp]at h <;> simp[h.2]| .bool,d,v,bs=>λh=>by cases d <;> simp only[Fp]at h <;> simp[h.2]| .str,d,v,bs=>λh=>by cases d <;> simp only[Fp]at h <;> simp[h.2]| .sl e ts,d,v,bs=>λh=>by
  cases d with
  |sl ls=>simp only[Fp]at h;obtain⟨rows,bss,h1,h2,h3,h4,h5,rfl⟩:=h;intro b hb;rcases List.mem_append.1 hb with hb|hb;exact(World.ownsRow.lt h1 b (by simpa using hb)).2;obtain⟨k,hk,hb⟩:=Cw hb;exact FpRow.lt ts _ _ _ (h5 k (by omega)) b hb
  |_=>simp[Fp]at h
theorem FpRow.lt{w:World} : ∀(ts:List Ty)(ds:List Dat)(vs:List Value)(bs:List Nat),FpRow w ts ds vs bs->∀b ∈ bs,b<w.heap.size
 | [],ds,vs,bs=>λh=>by cases ds <;> cases vs <;> simp[FpRow]at h ⊢;simp[h]|t::ts,[],vs,bs=>λh=>by simp[FpRow]at h|t::ts,d::ds,[],bs=>λh=>by simp[FpRow]at h|t::ts,d::ds,v::vs,bs=>λh=>by simp only[FpRow]at h;obtain⟨b1,b2,rfl,h1,h2⟩:=h;intro b hb;rcases List.mem_append.1 hb with hb|hb;exact Fp.lt t d v b1 h1 b hb;exact FpRow.lt ts ds vs b2 h2 b hb
end
mutual
theorem Fp.only{S:Nat->Prop}{w w' : World}(ho:OnlyIn S w w'):∀(t:Ty)(d:Dat)(v:Value)(bs:List Nat),Fp w t d v bs->(∀b ∈ bs,¬S b)->Fp w' t d v bs
 | .int,d,v,bs=>λh _=>by cases d <;> simp only[Fp]at h ⊢ <;> exact h| .bool,d,v,bs=>λh _=>by cases d <;> simp only[Fp]at h ⊢ <;> exact h| .str,d,v,bs=>λh _=>by cases d <;> simp only[Fp]at h ⊢ <;> exact h| .sl e ts,d,v,bs=>λh hS=>by
  cases d with|sl ls=>simp only[Fp]at h ⊢;obtain⟨rows,bss,h1,h2,h3,h4,h5,rfl⟩:=h;exact⟨rows,bss,Nm h1 ho (λk hk=>hS k (by simp[hk])),h2,h3,h4,λk hk=>FpRow.only ho ts _ _ _ (h5 k hk) (λb hb=>hS b (List.mem_append.2 (.inr (AM hb)))),rfl⟩|_=>simp[Fp]at h
theorem FpRow.only{S:Nat->Prop}{w w' : World}(ho:OnlyIn S w w'):∀(ts:List Ty)(ds:List Dat)(vs:List Value)(bs:List Nat),FpRow w ts ds vs bs->(∀b ∈ bs,¬S b)->FpRow w' ts ds vs bs
 | [],ds,vs,bs=>λh _=>by cases ds <;> cases vs <;> simp[FpRow]at h ⊢;exact h|t::ts,[],vs,bs=>λh _=>by simp[FpRow]at h|t::ts,d::ds,[],bs=>λh _=>by simp[FpRow]at h|t::ts,d::ds,v::vs,bs=>λh hS=>by simp only[FpRow]at h ⊢;obtain⟨b1,b2,rfl,h1,h2⟩:=h;exact⟨b1,b2,rfl,Fp.only ho t d v b1 h1 (λb hb=>hS b (List.mem_append.2 (.inl hb))),FpRow.only ho ts ds vs b2 h2 (λb hb=>hS b (List.mem_append.2 (.inr hb)))⟩
end
theorem Fp.below{w w' : World}(hb:Below w.heap.size w w'){t:Ty}{d:Dat}{v:Value}{bs:List Nat}(h:Fp w t d v bs):Fp w' t d v bs:=
 Fp.only (S:=λ_=>False) (OnlyIn.of_below hb) t d v bs h (λ_ _ h=>h)
theorem FpRow.below{w w' : World}(hb:Below w.heap.size w w'){ts:List Ty}{ds:List Dat}{vs:List Value}{bs:List Nat}(h:FpRow w ts ds vs bs):FpRow w' ts ds vs bs:=
 FpRow.only (S:=λ_=>False) (OnlyIn.of_below hb) ts ds vs bs h (λ_ _ h=>h)
def Own(w:World)(lo hi:Nat)(ts:List Ty)(ds:List Dat)(vs:List Value):Prop:=∃bs,FpRow w ts ds vs bs/\bs.Nodup/\∀b ∈ bs,lo<=b/\b<hi
theorem Own.rd{w:World}{lo hi:Nat}{ts:List Ty}{ds:List Dat}{vs:List Value}(h:Own w lo hi ts ds vs):RdRow w ts ds vs:=by obtain⟨bs,h1,_⟩:=h;exact FpRow.rd _ _ _ _ h1
theorem Own.only{S:Nat->Prop}{w w' : World}{lo hi:Nat}{ts:List Ty}{ds:List Dat}{vs:List Value}(h:Own w lo hi ts ds vs)(ho:OnlyIn S w w')(hS:∀k,S k->k<lo\/hi<=k):Own w' lo hi ts ds vs:=by obtain⟨bs,h1,h2,h3⟩:=h;exact⟨bs,FpRow.only ho _ _ _ _ h1 (λb hb hs=>by have:=h3 b hb;have:=hS b hs;omega),h2,h3⟩
theorem Own.below{w w' : World}{lo hi:Nat}{ts:List Ty}{ds:List Dat}{vs:List Value}(h:Own w lo hi ts ds vs)(hb:Below w.heap.size w w'):Own w' lo hi ts ds vs:=
 h.only (S:=λ_=>False) (OnlyIn.of_below hb) (λ_ h=>h.elim)
theorem Own.mono{w:World}{lo hi lo' hi' : Nat}{ts:List Ty}{ds:List Dat}{vs:List Value}(h:Own w lo hi ts ds vs)(h1:lo'<=lo)(h2:hi<=hi'):Own w lo' hi' ts ds vs:=by obtain⟨bs,p1,p2,p3⟩:=h;exact⟨bs,p1,p2,λb hb=>by have:=p3 b hb;omega⟩
theorem Own.nil(w:World)(lo hi:Nat):Own w lo hi [] [] []:=⟨[],rfl,List.nodup_nil,by simp⟩
theorem FpRow.append{w:World} : ∀(ts:List Ty){ts' : List Ty}(ds:List Dat){ds' : List Dat}(vs:List Value){vs' : List Value}(bs:List Nat){bs' : List Nat},FpRow w ts ds vs bs->FpRow w ts' ds' vs' bs'->FpRow w (ts++ts') (ds++ds') (vs++vs') (bs++bs')
 | [],ts',ds,ds',vs,vs',bs,bs'=>λh h'=>by cases ds <;> cases vs <;> simp[FpRow]at h ⊢;subst h;simpa using h'|t::ts,ts',[],ds',vs,vs',bs,bs'=>λh=>by simp[FpRow]at h|t::ts,ts',d::ds,ds',[],vs',bs,bs'=>λh=>by simp[FpRow]at h|t::ts,ts',d::ds,ds',v::vs,vs',bs,bs'=>λh h'=>by simp only[FpRow,List.cons_append]at h ⊢;obtain⟨b1,b2,rfl,h1,h2⟩:=h;exact⟨b1,b2++bs',by simp,h1,FpRow.append ts ds vs b2 h2 h'⟩
theorem Own.append{w:World}{lo mid hi:Nat}{ts ts' : List Ty}{ds ds' : List Dat}{vs vs' : List Value}(h:Own w lo mid ts ds vs)(h' : Own w mid hi ts' ds' vs')(h1:lo<=mid)(h2:mid<=hi):Own w lo hi (ts++ts') (ds++ds') (vs++vs'):=by obtain⟨bs,p1,p2,p3⟩:=h;obtain⟨bs',q1,q2,q3⟩:=h';refine⟨bs++bs',FpRow.append ts ds vs bs p1 q1,List.nodup_append.2 ⟨p2,q2,λa ha b hb e=>by have:=p3 a ha;have:=q3 b hb;omega⟩,λb hb=>?_⟩;rcases List.mem_append.1 hb with hb|hb;have:=p3 b hb;omega;have:=q3 b hb;omega
mutual
def Dat.cnt:Dat->Nat
 | .int _=>1| .bool _=>1| .str _=>1| .sl ls=>AA ls
def Aj:List Dat->Nat
 | []=>0|d::ds=>d.cnt+Aj ds
def AA:List (List Dat)->Nat
 | []=>0|r::rs=>Aj r+AA rs
end
mutual
def Dat.mk' : Int->Dat->Dat
 |k,.int _=>.int k|k,.bool _=>.bool (k%3 == 0)|_,.str s=>.str s|k,.sl ls=>.sl (Ac k ls)
def Db:Int->List Dat->List Dat
 |_,[]=>[]|k,d::ds=>d.mk' k::Db (k+d.cnt) ds
def Ac:Int->List (List Dat)->List (List Dat)
 |_,[]=>[]|k,r::rs=>Db k r::Ac (k+Aj r) rs
end
def Dat.cntV:Dat->Nat
 | .sl ls=>AA ls|_=>0
def cntV:List Dat->Nat
 | []=>0|d::ds=>d.cntV+cntV ds
mutual
def Dat.sz:Dat->Nat
 | .sl ls=>ls.length+Aa ls| .str s=>s.size|_=>0
def Ae:List Dat->Nat
 | []=>0|d::ds=>d.sz+Ae ds
def Aa:List (List Dat)->Nat
 | []=>0|r::rs=>Ae r+Aa rs
end
theorem Fg(a b:List (List Dat)):Aa (a++b)=Aa a+Aa b:=by
 induction a with|nil=>simp[Aa]|cons x r ih=>simp[Aa,ih];omega
theorem G8(a b:List (List Dat)):AA (a++b)=AA a+AA b:=by
 induction a with|nil=>simp[AA]|cons x r ih=>simp[AA,ih];omega
theorem Nb(k:Int)(a b:List (List Dat)):Ac k (a++b)=Ac k a++Ac (k+AA a) b:=by
 induction a generalizing k with|nil=>simp[Ac,AA]|cons x r ih=>simp[Ac,AA,ih,Int.add_assoc]
theorem CZ(k:Int)(a:List (List Dat)):(Ac k a).length=a.length:=by
 induction a generalizing k with|nil=>simp[Ac]|cons x r ih=>simp[Ac,ih]
theorem G9{a:List (List Dat)}{k:Nat}(hk:k<a.length):Ae (a.getD k [])<=Aa a:=by
 induction a generalizing k with
 |nil=>simp at hk|cons x r ih=>
  cases k with|zero=>simp[Aa]|succ k=>have:=ih (k:=k) (by simpa using hk);simp[Aa]at this ⊢;omega
theorem Ik{α:Type}(l:List α)(d:α)(k:Nat)(hk:k<l.length):l.take (k+1)=l.take k++[l.getD k d]:=by rw[List.take_succ_eq_append_getElem hk];simp[List.getD,hk]
theorem Kl(a:List (List Dat))(k:Nat)(hk:k<a.length):Aa (a.take (k+1))=Aa (a.take k)+Ae (a.getD k []):=by rw[Ik a [] k hk,Fg];simp[Aa]
theorem I3(a:List (List Dat))(k:Nat)(hk:k<a.length):AA (a.take (k+1))=AA (a.take k)+Aj (a.getD k []):=by rw[Ik a [] k hk,G8];simp[AA]
theorem HD(a:List (List Dat))(k:Nat):Aa (a.take k)<=Aa a:=by have:=Fg (a.take k) (a.drop k);rw[List.take_append_drop]at this;omega
theorem LV(a:List (List Dat))(k:Nat):AA (a.take k)<=AA a:=by have:=G8 (a.take k) (a.drop k);rw[List.take_append_drop]at this;omega
def BE(k:Int)(j:Nat)(a:List (List Dat)):List (List Dat):=Ac k (a.take j)++a.drop j
theorem SD(k:Int)(a:List (List Dat)):BE k a.length a=Ac k a:=by simp[BE]
theorem Bj(k:Int)(j:Nat)(a:List (List Dat)):(BE k j a).length=a.length:=by simp[BE,CZ];omega
theorem QD(k:Int)(j:Nat)(a:List (List Dat))(hj:j<a.length):(BE k j a).getD j []=a.getD j []:=by simp[BE,List.getD,List.getElem?_append_right,CZ,Nat.min_eq_left (Nat.le_of_lt hj)]
theorem QE(k:Int)(j:Nat)(a:List (List Dat))(hj:j<a.length):BE k (j+1) a=(BE k j a).set j (Db (k+AA (a.take j)) (a.getD j [])):=by
 unfold BE;rw[Ik a [] j hj,Nb,List.set_append_right _ _ (by simp[CZ];omega)];simp only[CZ,List.length_take,Nat.min_eq_left (Nat.le_of_lt hj),Nat.sub_self,List.append_assoc];congr 1;have:a.drop j=a.getD j []::a.drop (j+1):=by rw[List.drop_eq_getElem_cons hj];simp[List.getD,hj]
 rw[this];simp[Ac]
set_option linter.unusedVariables false
set_option linter.unusedSimpArgs false
open Go.RowKit
theorem Rd.open{w:World}{e:Nat}{ts:List Ty}{ls:List (List Dat)}{v:Value}(h:Rd w (.sl e ts) (.sl ls) v):∃(a:Option Addr)(cap:Nat),v=.slice a ls.length cap/\ls.length<=cap/\cap<=9223372036854775807 /\
  ∀k,k<ls.length->∃b off row,a=some ⟨b,off,none⟩/\b<w.heap.size/\(∀i,i<ts.length->w.cell? ⟨b,off+(k*ts.length+i),none⟩=some (row.getD i undef))/\RdRow w ts (ls.getD k []) row:=by
 simp only[Rd]at h;obtain⟨rows,⟨a,cap,h1,h2,h3,h4,h5⟩,hl,hr⟩:=h;rw[hl]at h1 h2;refine⟨a,cap,h1,h2,by unfold maxLen at h3;omega,λk hk=>?_⟩;rcases h5 with⟨h5,_⟩|⟨b,off,h5,h6,h7⟩;simp[h5]at hl;omega;exact⟨b,off,rows.getD k [],h5,h6,λi hi=>h7 k (by omega) i hi,hr k hk⟩
def stN(w:World)(g:Nat):Nat->List Value->World
 |_,[]=>w|o,c::cs=>stN (w.setCell ⟨g,o,none⟩ c) g (o+1) cs
theorem Et(g:Nat):∀(cs:List Value)(w:World)(o:Nat),OnlyIn (λb=>b=g) w (stN w g o cs)
 | [],_,_=>OnlyIn.refl _ _|c::cs,w,o=>(OnlyIn.setCell (S:=λb=>b=g) (OnlyIn.refl _ w) (p:=⟨g,o,none⟩) rfl c).trans (Et g cs _ _)
theorem QF(g:Nat):∀(cs:List Value)(w:World)(o:Nat),(stN w g o cs).heap.size=w.heap.size
 | [],w,o=>rfl|c::cs,w,o=>by rw[stN,QF g cs];simp[World.setCell]
theorem HL{base e size g n cap:Nat} : ∀(cs:List Value)(w:World)(o:Nat)(xs:List Value),w.ownsRow base e size (.slice (some ⟨g,0,none⟩) n cap) n xs->o+cs.length<=xs.length ->
  (stN w g o cs).ownsRow base e size (.slice (some ⟨g,0,none⟩) n cap) n (xs.take o++cs++xs.drop (o+cs.length))
 | [],w,o,xs,h,hl=>by simpa[stN]using h|c::cs,w,o,xs,h,hl=>by
  have h1:=HL cs _ (o+1) _ (h.stored o c).1 (by simp at hl ⊢;omega);simp only[stN];have e:(xs.set o c).take (o+1)++cs++(xs.set o c).drop (o+1+cs.length)=xs.take o++(c::cs)++xs.drop (o+(c::cs).length):=by simp only[List.length_cons]at hl ⊢;rw[List.take_succ_eq_append_getElem (by simp;omega),List.take_set_of_le (Nat.le_refl _),List.drop_set_of_lt (by omega)];simp[Nat.add_comm,Nat.add_left_comm]
  rw[e]at h1;exact h1
def Part(w:World)(base e:Nat)(ts:List Ty)(v:Value)(len k:Nat)(ls:List (List Dat)):Prop:=
 ∃(rows:List (List Value))(bss:List (List Nat))(xs:List Value),w.ownsRow base e ts.length v len xs/\rows.length=k/\bss.length=k/\xs.take (k*ts.length)=rows.flatten/\(∀r ∈ rows,r.length=ts.length) /\
  (∀j,j<k->FpRow w ts (ls.getD j []) (rows.getD j []) (bss.getD j []))/\(v.ownBlock.toList++bss.flatten).Nodup/\∀b ∈ bss.flatten,base<=b/\b<w.heap.size
theorem Part.zero{w:World}{base e:Nat}{ts:List Ty}{v:Value}{len:Nat}{ls:List (List Dat)}{xs:List Value}(h:w.ownsRow base e ts.length v len xs):Part w base e ts v len 0 ls:=
 ⟨[],[],xs,h,rfl,rfl,by simp,by simp,λj hj=>by omega,by cases v.ownBlock <;> simp,by simp⟩
theorem Part.below{w w' : World}{base e:Nat}{ts:List Ty}{v:Value}{len k:Nat}{ls:List (List Dat)}(h:Part w base e ts v len k ls)(hb:Below w.heap.size w w'):Part w' base e ts v len k ls:=by obtain⟨rows,bss,xs,h1,h2,h3,h4,h5,h6,h7,h8⟩:=h;exact⟨rows,bss,xs,Ff h1 hb,h2,h3,h4,h5,λj hj=>(h6 j hj).below hb,h7,λb hb'=>⟨(h8 b hb').1,Nat.lt_of_lt_of_le (h8 b hb').2 hb.size⟩⟩
theorem Part.owns{w:World}{base e:Nat}{ts:List Ty}{v:Value}{len k:Nat}{ls:List (List Dat)}(h:Part w base e ts v len k ls):∃xs,w.ownsRow base e ts.length v len xs:=by obtain⟨rows,bss,xs,h1,_⟩:=h;exact⟨xs,h1⟩
theorem I4{α:Type}{l:List α}{x d:α}{j:Nat}(h:j<l.length):(l++[x]).getD j d=l.getD j d:=by simp[List.getD,List.getElem?_append_left h]
theorem I5{α:Type}{l:List α}{x d:α}{j:Nat}(h:j=l.length):(l++[x]).getD j d=x:=by simp[List.getD,h]
theorem Part.step{w0 w:World}{base e:Nat}{ts:List Ty}{g cap len k:Nat}{ls:List (List Dat)}{cs:List Value}(h:Part w0 base e ts (.slice (some ⟨g,0,none⟩) len cap) len k ls)(hb:Below w0.heap.size w0 w)(hk:k<len)
  (hc:Own w w0.heap.size w.heap.size ts (ls.getD k []) cs) (hbase:base<=w0.heap.size):Part (stN w g (k*ts.length) cs) base e ts (.slice (some ⟨g,0,none⟩) len cap) len (k+1) ls:=by
 obtain⟨rows,bss,xs,h1,h2,h3,h4,h5,h6,h7,h8⟩:=h;obtain⟨bs,p1,p2,p3⟩:=hc;have hg:g<w0.heap.size:=(World.ownsRow.lt h1 g rfl).2;have a1:=(RdRow.lens _ _ _ (FpRow.rd _ _ _ _ p1)).2;have a2:xs.length=len*ts.length:=h1.1;have hkl:k*ts.length+ts.length<=xs.length:=by rw[a2];have:=Nat.mul_le_mul_right ts.length (show k+1<=len from hk);rw[Nat.add_mul]at this;omega
 have o1:=HL cs w (k*ts.length) xs (Ff h1 hb) (by omega);have ho:=Et g cs w (k*ts.length);have a0:=h7;simp only[Value.ownBlock,Option.toList_some,List.singleton_append,List.nodup_cons]at a0;refine⟨rows++[cs],bss++[bs],_,o1,by simp[h2],by simp[h3],?_,?_,?_,?_,?_⟩;rw[Nat.add_mul,Nat.one_mul,List.take_append,List.take_of_length_le (by simp;omega)];simp only[List.length_append,List.length_take,List.flatten_append,List.flatten_cons,List.flatten_nil,List.append_nil];rw[Nat.min_eq_left (by omega),h4,a1,Nat.sub_self,List.take_zero,List.append_nil];intro r hr;rcases List.mem_append.1 hr with hr|hr;exact h5 r hr;simp at hr;subst hr;exact a1;intro j hj;by_cases a3:j<k;rw[I4 (by omega),I4 (by omega)];refine FpRow.only ho _ _ _ _ ((h6 j a3).below hb) (λb hb' e=>?_);subst e;exact a0.1 (AM hb');obtain rfl:j=k:=by omega
 rw[I5 h2.symm,I5 h3.symm];refine FpRow.only ho _ _ _ _ p1 (λb hb' e=>?_);have:=p3 b hb';omega;simp only[Value.ownBlock,Option.toList_some,List.singleton_append,List.flatten_append,List.flatten_cons,List.flatten_nil,List.append_nil,List.nodup_cons];refine⟨λhm=>?_,List.nodup_append.2 ⟨a0.2,p2,λa ha b hb' e=>?_⟩⟩;rcases List.mem_append.1 hm with hm|hm;exact a0.1 hm;have:=p3 g hm;omega;have:=(h8 a ha).2;have:=p3 b hb';omega;intro b hb';simp only[List.flatten_append,List.flatten_cons,List.flatten_nil,List.append_nil]at hb';rw[QF];rcases List.mem_append.1 hb' with hb' | hb';have:=h8 b hb';have:=hb.size;omega;have:=p3 b hb';omega
theorem Part.done{w:World}{base e:Nat}{ts:List Ty}{v:Value}{k:Nat}{ls:List (List Dat)}(h:Part w base e ts v ls.length k ls)(hk:k=ls.length):Own w base w.heap.size [.sl e ts] [.sl ls] [v]:=by
 obtain⟨rows,bss,xs,h1,h2,h3,h4,h5,h6,h7,h8⟩:=h;subst hk;have hx:xs=rows.flatten:=by rw[← h4,List.take_of_length_le (by have:=h1.1;omega)]
 subst hx;refine⟨v.ownBlock.toList++bss.flatten,?_,h7,λb hb=>?_⟩;simp only[FpRow,Fp];refine⟨_,[],(List.append_nil _).symm,⟨rows,bss,?_,h2,h3,h5,h6,rfl⟩,rfl⟩;rw[h2];exact⟨h1.1,h1.2.imp id (λ⟨g,cap,cur,a,_,r⟩=>⟨g,cap,cur,a,Nat.zero_le _,r⟩)⟩;rcases List.mem_append.1 hb with hb|hb;exact World.ownsRow.lt h1 b (by simpa using hb);exact h8 b hb
theorem Nn{bss:List (List Nat)}(h:bss.flatten.Nodup):∀k,(bss.getD k []).Nodup:=λk=>by
 by_cases hk:k<bss.length;have:bss.getD k []=bss[k]:=by simp[List.getD,hk]
 rw[this];exact(List.pairwise_flatten.1 h).1 _ (List.getElem_mem hk);simp[List.getD,show bss[k]?=none from List.getElem?_eq_none (by omega)]
theorem Il{bss:List (List Nat)}(h:bss.flatten.Nodup){i j b:Nat}(a1:i≠j)(hi:b ∈ bss.getD i [])(hj:b ∈ bss.getD j []):False:=by
 have hi' : i<bss.length:=by rcases Nat.lt_or_ge i bss.length with h|h;exact h;simp[List.getD,List.getElem?_eq_none h]at hi
 have hj' : j<bss.length:=by rcases Nat.lt_or_ge j bss.length with h|h;exact h;simp[List.getD,List.getElem?_eq_none h]at hj
 have hp:=(List.pairwise_flatten.1 h).2;rw[List.pairwise_iff_getElem]at hp;have ei:bss.getD i []=bss[i]:=by simp[List.getD,hi']
 have ej:bss.getD j []=bss[j]:=by simp[List.getD,hj']
 rw[ei]at hi;rw[ej]at hj;rcases Nat.lt_or_gt_of_ne a1 with a0|a0;exact hp i j hi' hj' a0 b hi b hj rfl;exact hp j i hj' hi' a0 b hj b hi rfl
theorem FpRow.range{w:World}{t1 t2 t3:List Ty}{d1 d2 d3:List Dat}{v1 v2 v3:List Value}{bs:List Nat}(h:FpRow w (t1++t2++t3) (d1++d2++d3) (v1++v2++v3) bs)(hn:bs.Nodup)(l1:d1.length=t1.length)(l1' : v1.length=t1.length)(l2:d2.length=t2.length)(l2' : v2.length=t2.length) :
  ∃b2,FpRow w t2 d2 v2 b2/\b2.Nodup/\(∀b ∈ b2,b ∈ bs)/\∀w' d2',OnlyIn (λb=>b ∈ b2) w w'->FpRow w' t2 d2' v2 b2->FpRow w' (t1++t2++t3) (d1++d2'++d3) (v1++v2++v3) bs:=by
 have split:∀(t1:List Ty){t2:List Ty}(d1:List Dat){d2:List Dat}(v1:List Value){v2:List Value}(bs:List Nat),d1.length=t1.length->v1.length=t1.length->FpRow w (t1++t2) (d1++d2) (v1++v2) bs->∃b1 b2,bs=b1++b2/\FpRow w t1 d1 v1 b1/\FpRow w t2 d2 v2 b2:=by
  intro t1;induction t1 with
  |nil=>intro t2 d1 d2 v1 v2 bs hd hv h;obtain rfl:=List.eq_nil_of_length_eq_zero hd;obtain rfl:=List.eq_nil_of_length_eq_zero hv;exact⟨[],bs,rfl,rfl,h⟩
  |cons t ts ih=>
   intro t2 d1 d2 v1 v2 bs hd hv h;match d1,v1,hd,hv with|d::ds,v::vs,hd,hv=>simp only[List.cons_append,FpRow]at h ⊢;obtain⟨c1,c2,rfl,p1,p2⟩:=h;obtain⟨e1,e2,rfl,q1,q2⟩:=ih ds vs c2 (by simpa using hd) (by simpa using hv) p2;exact⟨c1++e1,e2,by simp,⟨c1,e1,rfl,p1,q1⟩,q2⟩
 obtain⟨c,b3,rfl,a0,h3⟩:=split _ _ _ _ (by simp[l1,l2]) (by simp[l1',l2']) h;obtain⟨b1,b2,rfl,h1,h2⟩:=split _ _ _ _ l1 l1' a0;have hn':=List.nodup_append.1 hn;have hn2:=List.nodup_append.1 hn'.1;refine⟨b2,h2,hn2.2.1,λb hb=>by simp[hb],λw' d2' ho h2'=>?_⟩;exact FpRow.append _ _ _ _ (FpRow.append _ _ _ _ (FpRow.only ho _ _ _ _ h1 (λb hb hb2=>hn2.2.2 b hb b hb2 rfl)) h2') (FpRow.only ho _ _ _ _ h3 (λb hb hb2=>hn'.2.2 b (by simp[hb2]) b hb rfl))
theorem Fp.row{w:World}{e:Nat}{ts:List Ty}{L:List (List Dat)}{g len cap:Nat}{bs:List Nat}{j:Nat}(h:Fp w (.sl e ts) (.sl L) (.slice (some ⟨g,0,none⟩) len cap) bs)(hn:bs.Nodup)(hj:j<L.length) :
  ∃row bj,(∀i,i<ts.length->w.cell? ⟨g,j*ts.length+i,none⟩=some (row.getD i undef))/\(∀i,w.frozen? ⟨g,i,none⟩=false)/\FpRow w ts (L.getD j []) row bj/\bj.Nodup/\(∀b ∈ bj,b ∈ bs)/\g ∈ bs/\g ∉ bj /\
   (∀w' row' ld',OnlyIn (λb=>b ∈ bj) (stN w g (j*ts.length) row') w'->FpRow w' ts ld' row' bj->Fp w' (.sl e ts) (.sl (L.set j ld')) (.slice (some ⟨g,0,none⟩) len cap) bs):=by
 simp only[Fp]at h;obtain⟨rows,bss,h1,h2,h3,h4,h5,rfl⟩:=h;have hn':=hn;simp only[Value.ownBlock,Option.toList_some,List.singleton_append,List.nodup_cons]at hn';have a2:len=rows.length:=by rcases h1.2 with⟨h,_⟩|⟨g',cap',cur,h,_⟩;simp at h;simp at h;exact h.2.1
 subst a2;have hrl:(rows.getD j []).length=ts.length:=h4 _ (by simp[List.getD,show j<rows.length by omega]);have hxl:rows.flatten.length=rows.length*ts.length:=h1.1;have hjl:j*ts.length+ts.length<=rows.length*ts.length:=by have:=Nat.mul_le_mul_right ts.length (show j+1<=rows.length by omega);rw[Nat.add_mul]at this;omega
 refine⟨rows.getD j [],bss.getD j [],λi hi=>?_,λi=>h1.frozenAt i,h5 j hj,Nn hn'.2 j,λb hb=>?_,by simp[Value.ownBlock],λhb=>hn'.1 (AM hb),?_⟩;rw[h1.cellAt _ (by omega)];have:=CJ rows ts.length h4 (j*ts.length+i) (by rw[Nat.mul_comm,Nat.mul_add_div (by omega),Nat.div_eq_of_lt hi];omega) (Nat.mod_lt _ (by omega));rw[this,Nat.mul_comm,Nat.mul_add_div (by omega),Nat.div_eq_of_lt hi,Nat.mul_add_mod,Nat.mod_eq_of_lt hi,Nat.add_zero];exact List.mem_append.2 (.inr (AM hb));intro w' row' ld' ho hf;have a0:=(RdRow.lens _ _ _ (FpRow.rd _ _ _ _ hf)).2;have ho2:OnlyIn (λb=>b=g\/b ∈ bss.getD j []) w w':=((Et g row' w (j*ts.length)).mono (λb hb=>.inl hb)).trans (ho.mono (λb hb=>.inr hb));simp only[Fp];refine⟨rows.set j row',bss,?_,by simp[h2],by simp[h3],?_,?_,rfl⟩;have o1:=HL row' w (j*ts.length) rows.flatten h1 (by omega);have o2:=Nm o1 ho (λk hk hb=>by simp[Value.ownBlock]at hk;subst hk;exact hn'.1 (AM hb))
 have e:rows.flatten.take (j*ts.length)++row'++rows.flatten.drop (j*ts.length+row'.length)=(rows.set j row').flatten:=by
  have key:∀(rows:List (List Value))(j:Nat),(∀r ∈ rows,r.length=ts.length)->j<rows.length->rows.flatten.take (j*ts.length)++row'++rows.flatten.drop (j*ts.length+row'.length)=(rows.set j row').flatten:=by
   intro rows;induction rows with
   |nil=>intro j _ hj;simp at hj|cons x r ih=>
    intro j hr hj;have hx:=hr x (by simp);cases j with|zero=>simp[a0,hx]|succ j=>have:=ih j (λq hq=>hr q (by simp[hq])) (by simpa using hj);simp only[List.flatten_cons,List.set_cons_succ,← this];rw[List.take_append,List.drop_append,List.take_of_length_le (by rw[hx,Nat.add_mul];omega),List.drop_of_length_le (by rw[hx,Nat.add_mul];omega)];have e1:(j+1)*ts.length-x.length=j*ts.length:=(by rw[hx,Nat.add_mul];omega);have e2:(j+1)*ts.length+row'.length-x.length=j*ts.length+row'.length:=(by rw[hx,Nat.add_mul];omega);rw[e1,e2];simp
  exact key rows j h4 (by omega)
 rw[e]at o2;simpa using o2;intro r hr;rcases List.mem_or_eq_of_mem_set hr with hr|hr;exact h4 r hr;rw[hr];exact a0;intro k hk;have hk' : k<L.length:=by simpa using hk
 by_cases a1:j=k;subst a1;have e1:(L.set j ld').getD j []=ld':=by simp[List.getD,hj]
 have e2:(rows.set j row').getD j []=row':=by simp[List.getD,show j<rows.length by omega]
 rw[e1,e2];exact hf;have e1:(L.set j ld').getD k []=L.getD k []:=by simp[List.getD,a1]
 have e2:(rows.set j row').getD k []=rows.getD k []:=by simp[List.getD,a1]
 rw[e1,e2];refine FpRow.only ho2 _ _ _ _ (h5 k hk') (λb hb hb'=>?_);rcases hb' with rfl|hb';exact hn'.1 (AM hb);exact Il hn'.2 a1 hb' hb
theorem Rd.int_inv{w:World}{d:Dat}{v:Value}(h:Rd w .int d v):∃n,d=.int n/\v=.int .i64 n:=by cases d <;> simp[Rd]at h;exact⟨_,rfl,h⟩
theorem Rd.bool_inv{w:World}{d:Dat}{v:Value}(h:Rd w .bool d v):∃b,d=.bool b/\v=.bool b:=by cases d <;> simp[Rd]at h;exact⟨_,rfl,h⟩
theorem Rd.sl_inv{w:World}{e:Nat}{ts:List Ty}{d:Dat}{v:Value}(h:Rd w (.sl e ts) d v):∃l a c,d=.sl l/\v=.slice a l.length c/\l.length<=c/\c<=9223372036854775807/\Rd w (.sl e ts) (.sl l) (.slice a l.length c):=by
 cases d with|sl l=>obtain⟨a,c,rfl,h1,h2,_⟩:=h.open;exact⟨l,a,c,rfl,rfl,h1,h2,h⟩|_=>simp[Rd]at h
theorem RdRow.cons_inv{w:World}{t:Ty}{ts:List Ty}{ds:List Dat}{vs:List Value}(h:RdRow w (t::ts) ds vs):∃d ds' v vs',ds=d::ds'/\vs=v::vs'/\Rd w t d v/\RdRow w ts ds' vs':=by
 match ds,vs,h with|d::ds',v::vs',h=>simp only[RdRow]at h;exact⟨d,ds',v,vs',rfl,rfl,h.1,h.2⟩| [],_,h=>simp[RdRow]at h|_::_,[],h=>simp[RdRow]at h
theorem RdRow.nil_inv{w:World}{ds:List Dat}{vs:List Value}(h:RdRow w [] ds vs):ds=[]/\vs=[]:=by cases ds <;> cases vs <;> simp[RdRow]at h ⊢
theorem RdRow.app{w:World} : ∀(ts:List Ty){ts' : List Ty}(ds:List Dat){ds' : List Dat}(vs:List Value){vs' : List Value},RdRow w ts ds vs->RdRow w ts' ds' vs'->RdRow w (ts++ts') (ds++ds') (vs++vs')
 | [],ts',ds,ds',vs,vs',h,h'=>by obtain⟨rfl,rfl⟩:=RdRow.nil_inv h;exact h'|t::ts,ts',ds,ds',vs,vs',h,h'=>by obtain⟨d,ds,v,vs,rfl,rfl,h1,h2⟩:=RdRow.cons_inv h;simp only[List.cons_append,RdRow];exact⟨h1,RdRow.app ts ds vs h2 h'⟩
theorem I6{w:World}{b o:Nat}{v:Value}(h:w.cell? ⟨b,o,none⟩=some v):w.setCell ⟨b,o,none⟩ v=w:=by
 have hh:(w.setCell ⟨b,o,none⟩ v).heap=w.heap:=by
  apply Array.ext_getElem?;intro i;simp only[World.setCell,Array.getElem?_modify];split;rename_i e;subst e;simp only[World.cell?]at h;cases hb:w.heap[b]? with
  |none=>rfl|some x=>
   rw[hb]at h;cases x <;> simp at h ⊢;rename_i c e' f;have ho:o<c.size:=by rcases Nat.lt_or_ge o c.size with h' | h';exact h';simp[Array.getElem?_eq_none h']at h
   apply Array.ext_getElem?;intro k;rw[Array.getElem?_setIfInBounds];split;rename_i e2;subst e2;simp[ho,← h];rfl
  rfl
 have:w.setCell ⟨b,o,none⟩ v={w with heap:=(w.setCell ⟨b,o,none⟩ v).heap}:=rfl;rw[this,hh]
theorem Lv(g:Nat):∀(cs:List Value)(w:World)(o:Nat),(∀i,i<cs.length->w.cell? ⟨g,o+i,none⟩=cs[i]?)->stN w g o cs=w
 | [],_,_,_=>rfl|c::cs,w,o,h=>by
  have h0:w.cell? ⟨g,o,none⟩=some c:=by simpa using h 0 (by simp)
  rw[stN,I6 h0];refine Lv g cs w (o+1) λi hi=>?_;have:=h (i+1) (by simpa using hi);simpa[Nat.add_assoc,Nat.add_comm 1]using this
theorem Oz(g:Nat):∀(cs:List Value)(w:World)(o i:Nat)(c:Value),(∀i,i<cs.length->w.cell? ⟨g,o+i,none⟩=cs[i]?)->i<cs.length->stN w g o (cs.set i c)=w.setCell ⟨g,o+i,none⟩ c
 | [],_,_,_,_,_,hi=>by simp at hi|c0::cs,w,o,0,c,h,_=>by simp only[List.set_cons_zero,stN,Nat.add_zero];refine Lv g cs _ _ λi hi=>?_;have:=h (i+1) (by simpa using hi);rw[World.cell?_setCell_other _ _ _ _ (by simp)];simpa[Nat.add_assoc,Nat.add_comm 1]using this|c0::cs,w,o,i+1,c,h,hi=>by
  have h0:w.cell? ⟨g,o,none⟩=some c0:=by simpa using h 0 (by simp)
  simp only[List.set_cons_succ,stN];rw[I6 h0,Oz g cs w (o+1) i c (λi hi=>?_) (by simpa using hi)];rw[Nat.add_assoc,Nat.add_comm 1];have:=h (i+1) (by simpa using hi);simpa[Nat.add_assoc,Nat.add_comm 1]using this
def Ty.leaf:Ty->Bool
 | .sl _ _=>false|_=>true
theorem Fp.leaf_nil{w:World}{t:Ty}{d:Dat}{v:Value}{bs:List Nat}(h:Fp w t d v bs)(hl:t.leaf=true):bs=[]:=by cases t <;> cases d <;> simp[Fp,Ty.leaf]at h hl <;> exact h.2
theorem FpRow.setLeaf{w:World}{d' : Dat}{c:Value} : ∀(ts:List Ty)(ds:List Dat)(vs:List Value)(bs:List Nat)(i:Nat),FpRow w ts ds vs bs->i<ts.length->(ts.getD i .int).leaf=true->Fp w (ts.getD i .int) d' c []->FpRow w ts (ds.set i d') (vs.set i c) bs
 | [],_,_,_,_,_,hi,_,_=>by simp at hi|t::ts,[],_,_,_,h,_,_,_=>by simp[FpRow]at h|t::ts,_::_,[],_,_,h,_,_,_=>by simp[FpRow]at h|t::ts,d::ds,v::vs,bs,0,h,_,hl,hf=>by simp only[List.getD_cons_zero,List.set_cons_zero,FpRow]at *;obtain⟨b1,b2,rfl,h1,h2⟩:=h;obtain rfl:=h1.leaf_nil hl;exact⟨[],b2,rfl,hf,h2⟩
 |t::ts,d::ds,v::vs,bs,i+1,h,hi,hl,hf=>by simp only[List.getD_cons_succ,List.set_cons_succ,FpRow]at *;obtain⟨b1,b2,rfl,h1,h2⟩:=h;exact⟨b1,b2,rfl,h1,FpRow.setLeaf ts ds vs b2 i h2 (by simpa using hi) hl hf⟩
theorem If{L:List (List Dat)}{j:Nat}{x:List Dat}(hj:j<L.length):(L.set j x).getD j []=x:=by simp[List.getD,hj]
theorem Fp.leafAt{w:World}{e:Nat}{ts:List Ty}{L:List (List Dat)}{ld:List Dat}{g len cap j:Nat}{bs:List Nat}(h:Fp w (.sl e ts) (.sl (L.set j ld)) (.slice (some ⟨g,0,none⟩) len cap) bs)(hn:bs.Nodup)(hj:j<L.length)(i:Nat)(hi:i<ts.length)
  (hl:(ts.getD i .int).leaf=true) (d' : Dat) (c:Value) (hf:∀w',Fp w' (ts.getD i .int) d' c []):Fp (w.setCell ⟨g,j*ts.length+i,none⟩ c) (.sl e ts) (.sl (L.set j (ld.set i d'))) (.slice (some ⟨g,0,none⟩) len cap) bs:=by
 obtain⟨row,bj,h1,h2,h3,h4,h5,h6,h7,h8⟩:=Fp.row h hn (j:=j) (by simpa using hj);rw[If hj]at h3;have hrl:=(RdRow.lens _ _ _ (FpRow.rd _ _ _ _ h3)).2;have hst:=Oz g row w (j*ts.length) i c (λi hi=>by rw[h1 i (by omega)];simp[List.getD,hi]) (by omega);have h9:=h8 (w.setCell ⟨g,j*ts.length+i,none⟩ c) (row.set i c) (ld.set i d') (by rw[hst];exact OnlyIn.refl _ _) ?_;rwa [List.set_set]at h9;refine FpRow.setLeaf ts ld row bj i (FpRow.only (S:=λb=>b=g) ((OnlyIn.refl _ w).setCell (S:=λb=>b=g) rfl c) _ _ _ _ h3 (λb hb a0=>h7 (a0 ▸ hb))) hi hl (hf _)
theorem Fp.nestedAt{w:World}{e:Nat}{ts:List Ty}{L:List (List Dat)}{g len cap j:Nat}{bs:List Nat}(t1:List Ty)(t:Ty)(t3:List Ty)(d1:List Dat)(d:Dat)(d3:List Dat)(h:Fp w (.sl e ts) (.sl (L.set j (d1++[d]++d3))) (.slice (some ⟨g,0,none⟩) len cap) bs)(hn:bs.Nodup)(hj:j<L.length)
  (ht:ts=t1++[t]++t3) (hd:d1.length=t1.length):∃c b2,w.cell? ⟨g,j*ts.length+t1.length,none⟩=some c/\Fp w t d c b2/\b2.Nodup/\(∀b ∈ b2,b ∈ bs) /\
   ∀w' d',OnlyIn (λb=>b ∈ b2) w w'->Fp w' t d' c b2->Fp w' (.sl e ts) (.sl (L.set j (d1++[d']++d3))) (.slice (some ⟨g,0,none⟩) len cap) bs:=by
 obtain⟨row,bj,h1,h2,h3,h4,h5,h6,h7,h8⟩:=Fp.row h hn (j:=j) (by simpa using hj);rw[If hj]at h3;have a0:=RdRow.lens _ _ _ (FpRow.rd _ _ _ _ h3);have hrl:=a0.2;have htl:ts.length=t1.length+1+t3.length:=by rw[ht];simp;omega
 obtain⟨v1,v,v3,rfl,hv1⟩:∃v1 v v3,row=v1++[v]++v3/\v1.length=t1.length:=by
  refine⟨row.take t1.length,row.getD t1.length undef,row.drop (t1.length+1),?_,by simp;omega⟩;have:t1.length<row.length:=by omega
  have e1:row.drop t1.length=row.getD t1.length undef::row.drop (t1.length+1):=by rw[List.drop_eq_getElem_cons this];simp[List.getD,this]
  rw[List.append_assoc,List.singleton_append,← e1,List.take_append_drop]
 rw[ht]at h3;obtain⟨b2,p1,p2,p3,p4⟩:=FpRow.range h3 h4 hd hv1 rfl rfl;simp only[FpRow]at p1;obtain⟨c1,c2,rfl,p1,rfl⟩:=p1;rw[List.append_nil]at p2 p3 p4;refine⟨v,c1,?_,p1,p2,λb hb=>h5 b (p3 b hb),λw' d' ho hf=>?_⟩;rw[h1 _ (by omega)];simp[List.getD,hv1];have hst:=Lv g (v1++[v]++v3) w (j*ts.length) (λi hi=>by rw[h1 i (by omega)];simp only[List.getD,List.getElem?_eq_getElem hi,Option.getD_some]);have h9:=h8 w' (v1++[v]++v3) (d1++[d']++d3) (by rw[hst];exact ho.mono (λb hb=>p3 b hb)) ?_;rwa [List.set_set]at h9;rw[ht];exact p4 w' [d'] ho ⟨c1,[],by simp,hf,rfl⟩
theorem Own.leaf{w:World}{lo hi:Nat}{t:Ty}{d:Dat}{v:Value}(h:Fp w t d v []):Own w lo hi [t] [d] [v]:=⟨[],⟨[],[],rfl,h,rfl⟩,List.nodup_nil,by simp⟩
theorem QG{ls:List (List Dat)}(h:∀k,k<ls.length->Ae (ls.getD k [])=0):Aa ls=0:=by
 induction ls with
 |nil=>rfl|cons x r ih=>
  have h0:=h 0 (by simp);have h1:=ih λk hk=>by simpa using h (k+1) (by simpa using hk)
  simp at h0;simp[Aa,h0,h1]
theorem QH(k:Int)(ls:List (List Dat))(j:Nat)(hj:j<ls.length):(Ac k ls).getD j []=Db (k+AA (ls.take j)) (ls.getD j []):=by
 induction ls generalizing k j with
 |nil=>simp at hj|cons x r ih=>
  cases j with|zero=>simp[Ac,AA]|succ j=>simpa[Ac,AA,Int.add_assoc]using ih (k+Aj x) j (by simpa using hj)
theorem RdRow.mk_cons{w:World}{t:Ty}{ts:List Ty}{d:Dat}{ds:List Dat}{v:Value}{vs:List Value}(h:Rd w t d v)(hs:RdRow w ts ds vs):RdRow w (t::ts) (d::ds) (v::vs):=by simp only[RdRow];exact⟨h,hs⟩
theorem RdRow.mk_nil{w:World} : RdRow w [] [] []:=by simp only[RdRow]
theorem Rd.mk_int{w:World}(n:Int):Rd w .int (.int n) (.int .i64 n):=by simp only[Rd]
theorem Rd.mk_bool{w:World}(b:Bool):Rd w .bool (.bool b) (.bool b):=by simp only[Rd]
theorem Rd.mk_str{w:World}(s:ByteArray):Rd w .str (.str s) (.string s):=by simp only[Rd]
theorem Fp.mk_int{w:World}(n:Int):Fp w .int (.int n) (.int .i64 n) []:=by simp[Fp]
theorem Fp.mk_bool{w:World}(b:Bool):Fp w .bool (.bool b) (.bool b) []:=by simp[Fp]
theorem Fp.mk_str{w:World}(s:ByteArray):Fp w .str (.str s) (.string s) []:=by simp[Fp]
theorem RdRow.cons2{w:World}{t:Ty}{ts:List Ty}{d:Dat}{ds:List Dat}{vs:List Value}(h:RdRow w (t::ts) (d::ds) vs):∃v vs',vs=v::vs'/\Rd w t d v/\RdRow w ts ds vs':=by
 match vs,h with|v::vs',h=>simp only[RdRow]at h;exact⟨v,vs',rfl,h.1,h.2⟩| [],h=>simp[RdRow]at h
theorem Rd.int2{w:World}{n:Int}{v:Value}(h:Rd w .int (.int n) v):v=.int .i64 n:=by simpa[Rd]using h
theorem Rd.bool2{w:World}{b:Bool}{v:Value}(h:Rd w .bool (.bool b) v):v=.bool b:=by simpa[Rd]using h
theorem Rd.sl2{w:World}{e:Nat}{ts:List Ty}{l:List (List Dat)}{v:Value}(h:Rd w (.sl e ts) (.sl l) v):∃a c,v=.slice a l.length c/\l.length<=c/\c<=9223372036854775807/\Rd w (.sl e ts) (.sl l) (.slice a l.length c):=by obtain⟨a,c,rfl,h1,h2,_⟩:=h.open;exact⟨a,c,rfl,h1,h2,h⟩
theorem Own.one{w:World}{lo hi:Nat}{t:Ty}{d:Dat}{v:Value}(h:Own w lo hi [t] [d] [v]):∃bs,Fp w t d v bs/\bs.Nodup/\∀b ∈ bs,lo<=b/\b<hi:=by obtain⟨bs,h1,h2,h3⟩:=h;simp only[FpRow]at h1;obtain⟨b1,b2,rfl,h1,rfl⟩:=h1;rw[List.append_nil]at h2 h3;exact⟨b1,h1,h2,h3⟩
theorem Own.app{w w' : World}{base m hi e:Nat}{ts:List Ty}{ls ls2:List (List Dat)}{v v' : Value}{rows2:List (List Value)}{bss2:List (List Nat)}(h:Own w base m [.sl e ts] [.sl ls] [v])
  (hl2:rows2.length=ls2.length) (hb2:bss2.length=ls2.length) (hr2:∀r ∈ rows2,r.length=ts.length) (hf2:∀k,k<ls2.length->FpRow w ts (ls2.getD k []) (rows2.getD k []) (bss2.getD k [])) (hn2:bss2.flatten.Nodup) (hi2:∀b ∈ bss2.flatten,m<=b/\b<hi)
  (hm:base<=m) (hmh:m<=hi) (hhi:hi<=w.heap.size)
  (rows:List (List Value)) (a1:∀xs,w.ownsRow base e ts.length v ls.length xs->xs=rows.flatten) (hrl:rows.length=ls.length) (a4:∀r ∈ rows,r.length=ts.length)
  (a0:w'.ownsRow base e ts.length v' (ls.length+rows2.length) (rows.flatten++rows2.flatten)) (hg:w.grownBy w' v.ownBlock) (a2:v'.ownBlock=v.ownBlock\/v'.ownBlock=some w.heap.size) :
  Own w' base w'.heap.size [.sl e ts] [.sl (ls++ls2)] [v']:=by
 obtain⟨bs,p1,p2,p3⟩:=h.one;simp only[Fp]at p1;obtain⟨rows',bss,q1,q2,q3,q4,q5,rfl⟩:=p1;have hb1:w.ownsRow base e ts.length v ls.length rows'.flatten:=by rw[← q2];refine⟨q1.1,q1.2.imp id ?_⟩;rintro⟨g,cap,cur,a,_,r⟩;exact⟨g,cap,cur,a,(p3 g (by simp[a,Value.ownBlock])).1,r⟩
 have a5:rows'=rows:=by
  have e1:=a1 _ hb1
  have key:∀(A B:List (List Value)),A.length=B.length->(∀r ∈ A,r.length=ts.length)->(∀r ∈ B,r.length=ts.length)->A.flatten=B.flatten->A=B:=by
   intro A;induction A with
   |nil=>intro B hl _ _ _;exact(List.eq_nil_of_length_eq_zero hl.symm).symm|cons x r ih=>
    intro B hl h1 h2 hf;match B,hl with|y::s,hl=>simp only[List.flatten_cons]at hf;have hx:=h1 x (by simp);have hy:=h2 y (by simp);obtain⟨e1,e2⟩:=List.append_inj hf (by omega);rw[e1,ih s (by simpa using hl) (λr hr=>h1 r (by simp[hr])) (λr hr=>h2 r (by simp[hr])) e2]
  exact key _ _ (by omega) q4 a4 e1
 subst a5;have ho:OnlyIn (λb=>v.ownBlock=some b) w w':=OnlyIn.of_grown hg (λ_ hb=>hb);have hp2:=List.nodup_append.1 p2;have nb1:∀b ∈ bss.flatten,v.ownBlock≠some b:=λb hb hv=>hp2.2.2 b (by simp[hv]) b hb rfl;have nb2:∀b ∈ bss2.flatten,v.ownBlock≠some b:=λb hb hv=>by have:=(p3 b (by simp[hv])).2;have:=(hi2 b hb).1;omega
 have hsz:=hg.size;refine⟨v'.ownBlock.toList++(bss++bss2).flatten,?_,?_,?_⟩;simp only[FpRow,Fp];refine⟨_,[],(List.append_nil _).symm,⟨rows'++rows2,bss++bss2,?_,by simp[q2,hl2],by simp[q3,hb2],?_,?_,rfl⟩,rfl⟩;have:(rows'++rows2).length=ls.length+rows2.length:=by simp[q2]
 rw[this,List.flatten_append];exact⟨a0.1,a0.2.imp id (λ⟨g,cap,cur,a,_,r⟩=>⟨g,cap,cur,a,Nat.zero_le _,r⟩)⟩;intro r hr;rcases List.mem_append.1 hr with hr|hr;exact q4 r hr;exact hr2 r hr;intro k hk;have g1:∀{α:Type}(A B:List α)(d:α),k<A.length->(A++B).getD k d=A.getD k d:=λA B d h=>by simp[List.getD,List.getElem?_append_left h]
 have g2:∀{α:Type}(A B:List α)(d:α),A.length<=k->(A++B).getD k d=B.getD (k-A.length) d:=λA B d h=>by simp[List.getD,List.getElem?_append_right h]
 by_cases a3:k<ls.length;rw[g1 _ _ _ a3,g1 _ _ _ (by omega),g1 _ _ _ (by omega)];exact FpRow.only ho _ _ _ _ (q5 k a3) (λb hb=>nb1 b (AM hb));simp only[List.length_append]at hk;rw[g2 _ _ _ (by omega),g2 _ _ _ (by omega),g2 _ _ _ (by omega),q2,q3];exact FpRow.only ho _ _ _ _ (hf2 (k-ls.length) (by omega)) (λb hb=>nb2 b (AM hb));rw[List.flatten_append];refine List.nodup_append.2 ⟨by cases v'.ownBlock <;> simp,List.nodup_append.2 ⟨hp2.2.1,hn2,λa ha b hb e=>?_⟩,λa ha b hb e=>?_⟩;have:=(p3 a (List.mem_append.2 (.inr ha))).2;have:=(hi2 b hb).1;omega;subst e;have hv:v'.ownBlock=some a:=by simpa using ha
 rcases a2 with a2|a2;rw[a2]at hv;rcases List.mem_append.1 hb with hb|hb;exact nb1 a hb hv;exact nb2 a hb hv;rw[a2]at hv;simp at hv;rcases List.mem_append.1 hb with hb|hb;have:=(p3 a (List.mem_append.2 (.inr hb))).2;omega;have:=(hi2 a hb).2;omega;intro b hb;rcases List.mem_append.1 hb with hb|hb;exact World.ownsRow.lt a0 b (by simpa using hb);rw[List.flatten_append]at hb;rcases List.mem_append.1 hb with hb|hb;have:=p3 b (List.mem_append.2 (.inr hb));omega;have:=hi2 b hb;omega
theorem Own.rows{w:World}{base m e:Nat}{ts:List Ty}{ls:List (List Dat)}{v:Value}(h:Own w base m [.sl e ts] [.sl ls] [v]):∃rows:List (List Value),w.ownsRow base e ts.length v ls.length rows.flatten/\rows.length=ls.length/\∀r ∈ rows,r.length=ts.length:=by obtain⟨bs,p1,p2,p3⟩:=h.one;simp only[Fp]at p1;obtain⟨rows,bss,q1,q2,q3,q4,q5,rfl⟩:=p1;refine⟨rows,?_,q2,q4⟩;rw[← q2];refine⟨q1.1,q1.2.imp id ?_⟩;rintro⟨g,cap,cur,a,_,r⟩;exact⟨g,cap,cur,a,(p3 g (by simp[a,Value.ownBlock])).1,r⟩
theorem Own.blk{w:World}{lo hi e b:Nat}{ts:List Ty}{ls:List (List Dat)}{v:Value}(h:Own w lo hi [.sl e ts] [.sl ls] [v])(hb:v.ownBlock=some b):lo<=b/\b<hi:=by obtain⟨bs,h1,_,h3⟩:=h.one;simp only[Fp]at h1;obtain⟨_,_,_,_,_,_,_,rfl⟩:=h1;exact h3 b (List.mem_append.2 (.inl (by simp[hb])))
theorem Own.shape{w:World}{lo hi e:Nat}{ts:List Ty}{ls:List (List Dat)}{v:Value}(h:Own w lo hi [.sl e ts] [.sl ls] [v]):∃a c,v=.slice a ls.length c:=by obtain⟨q,q1,-,-⟩:=Own.one h;obtain⟨a,c,q2,-⟩:=Rd.sl2 (Fp.rd _ _ _ _ q1);exact⟨a,c,q2⟩
theorem VM{w:World}{e:Nat}{ts:List Ty}{ls:List (List Dat)}{u:Value}(a0:∀t ∈ ts,t.leaf=true)(h:Rd w (.sl e ts) (.sl ls) u):∃(rows:List (List Value))(bss:List (List Nat)),SlAt ts.length w u rows/\rows.length=ls.length/\bss.length=ls.length/\(∀k,k<ls.length->FpRow w ts (ls.getD k []) (rows.getD k []) (bss.getD k []))/\bss.flatten=[]:=by
 simp only[Rd]at h;obtain⟨rows,h1,h2,h3⟩:=h;refine⟨rows,List.replicate ls.length [],h1,h2,by simp,λk hk=>?_,by simp⟩;have e0:(List.replicate ls.length ([]:List Nat)).getD k []=[]:=by simp[List.getD,hk]
 rw[e0]
 have key:∀(ts:List Ty)(ds:List Dat)(vs:List Value),(∀t ∈ ts,t.leaf=true)->RdRow w ts ds vs->FpRow w ts ds vs []:=by
  intro ts;induction ts with|nil=>intro ds vs _ h;obtain⟨rfl,rfl⟩:=RdRow.nil_inv h;simp[FpRow]|cons t ts ih=>intro ds vs hl h;obtain⟨d,ds,v,vs,rfl,rfl,h1,h2⟩:=RdRow.cons_inv h;have a1:=hl t (by simp);simp only[FpRow];refine⟨[],[],rfl,?_,ih ds vs (λt ht=>hl t (by simp[ht])) h2⟩;cases t <;> cases d <;> simp[Rd,Fp,Ty.leaf]at h1 a1 ⊢ <;> exact h1
 exact key ts _ _ a0 (h3 k hk)
theorem Own.empty(w:World)(base e:Nat)(ts:List Ty)(hb:base<=w.heap.size):Own (w.alloc (.cells #[] e)) base (w.heap.size+1) [.sl e ts] [.sl []] [.slice (some ⟨w.heap.size,0,none⟩) 0 0]:=by refine⟨[w.heap.size],?_,by simp,by simp;omega⟩;simp only[FpRow,Fp];exact⟨[w.heap.size],[],rfl,⟨[],[],SC w 0 e ts.length (Nat.zero_le _),rfl,rfl,by simp,by simp,by simp[Value.ownBlock]⟩,rfl⟩
def HasObj(w:World)(b:Nat)(x:Obj):Prop:=w.heap[b]?=some x
theorem HasObj.new{w:World}{x:Obj}{n:Nat}(h:n=w.heap.size):HasObj (w.alloc x) n x:=by subst h;exact heap_alloc_new w x
theorem HasObj.lt{w:World}{x:Obj}{n:Nat}(h:HasObj w n x):n<w.heap.size:=(Array.getElem?_eq_some_iff.1 h).1
theorem HasObj.old{w:World}{x o:Obj}{n:Nat}(h:HasObj w n x):HasObj (w.alloc o) n x:=(Below.heap_alloc w o n h.lt).trans h
theorem HasObj.drew{w:World}{x:Obj}{n:Nat}(h:HasObj w n x):HasObj w.drew n x:=h
theorem HasObj.below{w w' : World}{x:Obj}{n:Nat}(h:HasObj w n x)(hb:Below w.heap.size w w'):HasObj w' n x:=(hb.block n h.lt).trans h
theorem OnlyIn.cells{g n c:Nat}{w w' : World}(h:OnlyIn (λb=>(Value.slice (some ⟨g,0,none⟩) n c).ownBlock=some b) w w'):(∀b o,b<w.heap.size->b≠g->w'.cell? ⟨b,o,none⟩=w.cell? ⟨b,o,none⟩)/\(∀b o,b<w.heap.size->b≠g->w'.frozen? ⟨b,o,none⟩=w.frozen? ⟨b,o,none⟩)/\(∀b,b<w.heap.size->b≠g->w'.heap[b]?=w.heap[b]?):=by have hs:∀b,b≠g->¬(Value.slice (some ⟨g,0,none⟩) n c).ownBlock=some b:=λb hb e=>hb (Option.some.inj e).symm;exact⟨λb o hb a0=>World.cell?_of_block (a:=⟨b,o,none⟩) (h.block b hb (hs b a0)),λb o hb a0=>World.frozen?_of_block (a:=⟨b,o,none⟩) (h.block b hb (hs b a0)),λb hb a0=>h.block b hb (hs b a0)⟩
def SE(p:V2):List Dat:=[.int p.1,.int p.2]
def AZ(l:List V2):List (List Dat):=l.map SE
def AN(ll:List (List V2)):List (List Dat):=ll.map λl=>[.sl (AZ l)]
def ACA(s:Scn):List Dat:=[.int s.low.1,.int s.low.2,.int s.high.1,.int s.high.2,.sl (AZ s.robot),.sl (AN s.obst),.sl (AZ s.tables)]
theorem A9(l:List V2):(AZ l).length=l.length:=by simp[AZ]
theorem A8(l:List (List V2)):(AN l).length=l.length:=by simp[AN]
theorem Lw(l:List V2)(k:Nat)(hk:k<l.length):(AZ l).getD k []=SE (l.getD k (0,0)):=by simp[AZ,List.getD,hk]
theorem Km(l:List (List V2))(k:Nat)(hk:k<l.length):(AN l).getD k []=[.sl (AZ (l.getD k []))]:=by simp[AN,List.getD,hk]
theorem Nc(l m:List (List V2)):AN (l++m)=AN l++AN m:=by simp[AN]
theorem VecsAt.rd{w:World}{v:Value}{l:List V2}(e:Nat)(h:VecsAt w v l):Rd w (.sl e [.int,.int]) (.sl (AZ l)) v:=by
 simp only[Rd];refine⟨l.map Fe,h,by simp[AZ],λk hk=>?_⟩;rw[A9]at hk;rw[Lw l k hk];have:(l.map Fe).getD k []=Fe (l.getD k (0,0)):=by simp[List.getD,hk]
 rw[this];simp[SE,Fe,RdRow,Rd]
theorem Rd.vecs{w:World}{e:Nat}{v:Value}{l:List V2}(h:Rd w (.sl e [.int,.int]) (.sl (AZ l)) v):VecsAt w v l:=by
 simp only[Rd]at h;obtain⟨rows,h1,h2,h3⟩:=h;rw[A9]at h2
 have:rows=l.map Fe:=by
  apply List.ext_getElem (by simp[h2]);intro k hk1 hk2;have hk:k<l.length:=by omega
  have:=h3 k (by rw[A9];exact hk);rw[Lw l k hk]at this;simp only[SE]at this;obtain⟨x,vs,e1,hx,this⟩:=RdRow.cons2 this;obtain⟨y,vs',e2,hy,this⟩:=RdRow.cons2 this;obtain⟨-,rfl⟩:=RdRow.nil_inv this;obtain rfl:=Rd.int2 hx;obtain rfl:=Rd.int2 hy;subst e2;have e0:rows.getD k []=rows[k]:=by simp[List.getD,hk1]
  rw[← e0,e1];simp[Fe,List.getD,hk]
 subst this;exact h1
theorem VecSSAt.rd{w:World}{v:Value}{l:List (List V2)}(e e' : Nat)(h:VecSSAt w v l):Rd w (.sl e [.sl e' [.int,.int]]) (.sl (AN l)) v:=by
 obtain⟨vs,h1,h2,h3⟩:=h;simp only[Rd];refine⟨vs.map λx=>[x],h1,by simp[AN,h2],λk hk=>?_⟩;rw[A8]at hk;rw[Km l k hk];have:(vs.map λx=>[x]).getD k []=[vs.getD k undef]:=by simp[List.getD,show k<vs.length by omega]
 rw[this];exact RdRow.mk_cons ((h3 k hk).rd e') RdRow.mk_nil
theorem Rd.vecss{w:World}{e e' : Nat}{v:Value}{l:List (List V2)}(h:Rd w (.sl e [.sl e' [.int,.int]]) (.sl (AN l)) v):VecSSAt w v l:=by
 simp only[Rd]at h;obtain⟨rows,h1,h2,h3⟩:=h;rw[A8]at h2;have h3' : ∀k,k<l.length->∃u,rows.getD k []=[u]/\VecsAt w u (l.getD k []):=λk hk=>by have:=h3 k (by rw[A8];exact hk);rw[Km l k hk]at this;obtain⟨x,vs,e1,hx,this⟩:=RdRow.cons2 this;obtain⟨-,rfl⟩:=RdRow.nil_inv this;exact⟨x,e1,hx.vecs⟩
 refine⟨rows.map λr=>r.getD 0 undef,?_,by simp[h2],λk hk=>?_⟩
 have:(rows.map λr=>r.getD 0 undef).map (λx=>[x])=rows:=by
  apply List.ext_getElem (by simp);intro k hk1 hk2;obtain⟨u,hu,_⟩:=h3' k (by omega);have e0:rows.getD k []=rows[k]:=by simp[List.getD,hk2]
  rw[e0]at hu;simp[hu]
 rw[this];exact h1;obtain⟨u,hu,hv⟩:=h3' k hk;have:(rows.map λr=>r.getD 0 undef).getD k undef=(rows.getD k []).getD 0 undef:=by simp[List.getD,show k<rows.length by omega]
 rw[this,hu];exact hv
theorem SceneAt.rd{w:World}{v:Value}{s:Scn}(e e' : Nat)(h:SceneAt w v s):∃cs,v=.agg cs.toArray/\RdRow w [.int,.int,.int,.int,.sl e [.int,.int],.sl e' [.sl e [.int,.int]],.sl e [.int,.int]] (ACA s) cs:=by obtain⟨r,o,t,rfl,h1,h2,h3⟩:=h;exact⟨[.int .i64 s.low.1,.int .i64 s.low.2,.int .i64 s.high.1,.int .i64 s.high.2,r,o,t],rfl,RdRow.mk_cons (Rd.mk_int _) (RdRow.mk_cons (Rd.mk_int _) (RdRow.mk_cons (Rd.mk_int _) (RdRow.mk_cons (Rd.mk_int _) (RdRow.mk_cons (h1.rd e) (RdRow.mk_cons (h2.rd e' e) (RdRow.mk_cons (h3.rd e) RdRow.mk_nil))))))⟩
theorem QI(l:List V2):Aa (AZ l)=0:=by
 induction l with|nil=>rfl|cons x r ih=>have:AZ (x::r)=SE x::AZ r:=rfl;rw[this];simp[Aa,SE,Ae,Dat.sz,ih]
theorem Own.vecs{w:World}{lo hi e:Nat}{v:Value}{l:List V2}(h:Own w lo hi [.sl e [.int,.int]] [.sl (AZ l)] [v]):VecsAt w v l:=by obtain⟨bs,h1,-,-⟩:=h.one;exact(Fp.rd _ _ _ _ h1).vecs
theorem Own.vecss{w:World}{lo hi e e' : Nat}{v:Value}{l:List (List V2)}(h:Own w lo hi [.sl e [.sl e' [.int,.int]]] [.sl (AN l)] [v]):VecSSAt w v l:=by obtain⟨bs,h1,-,-⟩:=h.one;exact(Fp.rd _ _ _ _ h1).vecss
theorem VecsAt.only{S:Nat->Prop}{w w' : World}{v:Value}{l:List V2}(h:VecsAt w v l)(ho:OnlyIn S w w')(hS:∀b,v.ownBlock=some b->¬S b):VecsAt w' v l:=by obtain⟨a,cap,rfl,h2,h3,h4,h5⟩:=h;refine⟨a,cap,rfl,h2,h3,h4,?_⟩;rcases h5 with h5|⟨b,off,rfl,h6,h7⟩;exact .inl h5;refine .inr ⟨b,off,rfl,Nat.lt_of_lt_of_le h6 ho.size,λj hj i hi=>?_⟩;rw[World.cell?_of_block (a:=⟨b,_,none⟩) (ho.block b h6 (hS b rfl))];exact h7 j hj i hi
theorem VecSSAt.only{S:Nat->Prop}{w w' : World}{lo hi e e' : Nat}{v:Value}{l:List (List V2)}(h:Own w lo hi [.sl e [.sl e' [.int,.int]]] [.sl (AN l)] [v])(ho:OnlyIn S w w')(hS:∀b,S b->b<lo\/hi<=b):VecSSAt w' v l:=by obtain⟨bs,h1,-,-⟩:=(h.only ho hS).one;exact(Fp.rd _ _ _ _ h1).vecss
end Go.Proofs.YthoidhehmmcgnaaGreat
