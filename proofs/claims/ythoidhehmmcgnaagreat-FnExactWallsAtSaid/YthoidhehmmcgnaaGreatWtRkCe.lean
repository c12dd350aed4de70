import Derived.Test.YthoidhehmmcgnaaGreatWtStb
import Derived.Test.YthoidhehmmcgnaaGreatWtCpf
import Derived.Test.YthoidhehmmcgnaaGreatProg
import Derived.Shelf.SlGeneric
import Derived.Shelf.SlLaysF0
import Derived.Test.YthoidhehmmcgnaaGreatWtSy4B
import Derived.Test.YthoidhehmmcgnaaGreatWtRkSl
namespace Go.Proofs.YthoidhehmmcgnaaGreat
set_option linter.unusedVariables false
set_option linter.unusedSimpArgs false
open Go.RowKit Go.Sort Go.Shelf
def Ra{β:Type}(key:β->Fr)(d0:β)(l:List β)(i j:Nat):Int:=Fr.cmp (key (l.getD (clI l.length i) d0)) (key (l.getD (clI l.length j) d0))
def LR{β:Type}(key:β->Fr)(d0:β)(l:List β):List β:=(G5 (Ra key d0 l) l.length).map λi=>l.getD i d0
theorem Oi{β:Type}(key:β->Fr)(d0:β)(l:List β):(LR key d0 l).length=l.length:=by unfold LR;rw[List.length_map,Kb]
theorem Rb{β:Type}{key:β->Fr}{d0:β}{l:List β}(hg:∀x ∈ l,(key x).d≠0)(h0:0<l.length):TPre (Ra key d0 l):=by
 have hd:∀i,(key (l.getD (clI l.length i) d0)).d≠0:=λi=>hg _ (Ay (NQ h0));refine⟨λi j=>?_,λi j k h1 h2=>?_⟩;have:=ES (hd i) (hd j);unfold Ra;omega;unfold Ra at *;have s1:=ES (hd i) (hd j);have s2:=ES (hd j) (hd k);have s3:=ES (hd i) (hd k);obtain⟨p,hp,_⟩:=Fr.some_d (hd i);obtain⟨q,hq,_⟩:=Fr.some_d (hd j);obtain⟨r,hr,_⟩:=Fr.some_d (hd k);have l1:=Fm hq hp;have l2:=Fm hr hq;have l3:=Fm hr hp;have a1:¬q<p:=λh=>by have:=l1.2 h;omega
 have a2:¬r<q:=λh=>by have:=l2.2 h;omega
 have a3:¬r<p:=by grind
 have a4:¬Fr.cmp (key (l.getD (clI l.length k) d0)) (key (l.getD (clI l.length i) d0))<0:=λh=>a3 (l3.1 h);omega
open Go.Shelf
def YU:Go.Shelf.Ren:=⟨fun|20=>149|n=>n,fun|24=>106|22=>119|3=>3|25=>121|4=>4|0=>0|n=>n,fun|n=>n⟩
theorem ABz:Go.Proofs.SlLaysF0.n20 Tryz.prog YU:={
 mixed:=by kernel_rfl,
 f20:=⟨ "slices.insertionSortCmpFunc[loop.example/g00811/impl.border]",by decide,Tryz.func149.trans (congrArg some (by kernel_rfl))⟩,
 t0:=Tryz.underlying0,
 a0:=Tryz.isAgg0,
 z0:=Tryz.sizeOf0,
 v0:=Tryz.zeroValue0,
 t3:=Tryz.underlying3,
 a3:=Tryz.isAgg3,
 z3:=Tryz.sizeOf3,
 v3:=Tryz.zeroValue3,
 t4:=Tryz.underlying4,
 a4:=Tryz.isAgg4,
 z4:=Tryz.sizeOf4,
 v4:=Tryz.zeroValue4,
 t22:=Tryz.underlying119,
 a22:=Tryz.isAgg119,
 z22:=Tryz.sizeOf119,
 v22:=Tryz.zeroValue119,
 t25:=Tryz.underlying121,
 a25:=Tryz.isAgg121,
 z25:=Tryz.sizeOf121,
 v25:=Tryz.zeroValue121}
open Go.RowKit Go.Sort Go.Shelf Go.Lib
structure Blk where
 lo:Brd
 hi:Brd
abbrev brD(x:Brd):List Dat:=frD x.l++frD x.r
open Go.RowKit
def less(x y:Brd):Bool:=decide (Fr.cmp x.lev y.lev<0)
def cap(rf t:Brd):Brd:=if less rf t=true then rf else t
section
variable {lo hi : Fr} {rf f t fl : Brd} {bl : List Blk} {k i j : Nat} {ls : List (List V2)}
theorem NR{P:Nat->Prop}(h:∀i,i<j->P i)(hj:P j):∀i,i<j+1->P i:=λi hi=>by by_cases e:i=j;rw[e];exact hj;exact h i (by omega)
end
end Go.Proofs.YthoidhehmmcgnaaGreat
