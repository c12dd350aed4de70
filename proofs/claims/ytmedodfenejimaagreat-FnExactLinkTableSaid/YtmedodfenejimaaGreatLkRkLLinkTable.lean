import Derived.Test.YtmedodfenejimaaGreatLkRkRg
import Derived.Test.YtmedodfenejimaaGreatLkRkSt
import Derived.Test.YtmedodfenejimaaGreatLkMrk
namespace Go.Proofs.YtmedodfenejimaaGreat
set_option linter.unusedVariables false
set_option linter.unusedSimpArgs false
open Go.RowKit
theorem UL {n:Int} (h:(Lit.int .i64 n).wf=true):n<=9223372036854775807:=by
 have h2:(decide ((-9223372036854775808:Int)<=n) && decide (n<=9223372036854775807))=true:=h
 rw [Bool.and_eq_true,decide_eq_true_iff,decide_eq_true_iff] at h2
 exact h2.2
theorem Q6 {d:Dat} (h:d.fit):-9223372036854775808<=d.n/\d.n<=9223372036854775807:=by
 cases d <;> simp_all [Dat.fit,Dat.n]
theorem UM {d:Dat} (h:d.fit):Cy d.r:=by
 cases d <;> simp_all [Dat.fit,Dat.r,Cy]
theorem Bz {e:Nat} {ts:List Ty} {d:Dat} (h:Dat.has (.sl e ts) d):Dat.has (.sl e ts) (.sl d.r):=by
 cases d <;> simp_all [Dat.has,Dat.r]
theorem V4 {e:Nat} {l:List (List Dat)} (h:Dat.has (.sl e [.int,.bool,.int,.int,.int,.int,.sl 24 [.sl 23 [.int,.int]],.sl 161 [.bool,.sl 3 [.int],.sl 3 [.int],.bool,.sl 3 [.int],.sl 3 [.int],.bool,.sl 3 [.int],.sl 3 [.int],.bool,.sl 3 [.int],.sl 3 [.int],.bool,.sl 3 [.int],.sl 3 [.int],.bool,.sl 3 [.int],.sl 3 [.int]],.sl 164 [.bool,.sl 3 [.int],.sl 3 [.int],.bool,.sl 3 [.int],.sl 3 [.int],.bool,.sl 3 [.int],.sl 3 [.int]],.sl 172 [.int,.int],.sl 3 [.int]]) (.sl l)) (hs:l.length+AA l<=1048576):Bk l:=
 ⟨λ k hk=>by
  have h1:=BH h k hk
  have h2:=G3 h1
  have h3:=IN h1
  refine ⟨h2.2.2.2.2.2.2.2.2.2.2,?_⟩
  show ((((l.getD k []).getD 10 (.int 0)).r)).length<=_
  omega,hs⟩
theorem UN {r:List Dat} (h:hasRow [.bool,.sl 3 [.int],.sl 3 [.int],.bool,.sl 3 [.int],.sl 3 [.int],.bool,.sl 3 [.int],.sl 3 [.int],.bool,.sl 3 [.int],.sl 3 [.int],.bool,.sl 3 [.int],.sl 3 [.int],.bool,.sl 3 [.int],.sl 3 [.int]] r):A5 r:=⟨⟨Bz (Bl h (c:=1) rfl),Bz (Bl h (c:=2) rfl)⟩,⟨Bz (Bl h (c:=4) rfl),Bz (Bl h (c:=5) rfl)⟩,⟨Bz (Bl h (c:=7) rfl),Bz (Bl h (c:=8) rfl)⟩,⟨Bz (Bl h (c:=10) rfl),Bz (Bl h (c:=11) rfl)⟩,⟨Bz (Bl h (c:=13) rfl),Bz (Bl h (c:=14) rfl)⟩,⟨Bz (Bl h (c:=16) rfl),Bz (Bl h (c:=17) rfl)⟩⟩
theorem UO {r:List Dat} (h:hasRow [.bool,.sl 3 [.int],.sl 3 [.int],.bool,.sl 3 [.int],.sl 3 [.int],.bool,.sl 3 [.int],.sl 3 [.int]] r):A6 r:=⟨⟨Bz (Bl h (c:=1) rfl),Bz (Bl h (c:=2) rfl)⟩,⟨Bz (Bl h (c:=4) rfl),Bz (Bl h (c:=5) rfl)⟩,⟨Bz (Bl h (c:=7) rfl),Bz (Bl h (c:=8) rfl)⟩⟩
theorem V5 {r:List Dat} (h:hasRow [.int,.bool,.int,.int,.int,.int,.sl 24 [.sl 23 [.int,.int]],.sl 161 [.bool,.sl 3 [.int],.sl 3 [.int],.bool,.sl 3 [.int],.sl 3 [.int],.bool,.sl 3 [.int],.sl 3 [.int],.bool,.sl 3 [.int],.sl 3 [.int],.bool,.sl 3 [.int],.sl 3 [.int],.bool,.sl 3 [.int],.sl 3 [.int]],.sl 164 [.bool,.sl 3 [.int],.sl 3 [.int],.bool,.sl 3 [.int],.sl 3 [.int],.bool,.sl 3 [.int],.sl 3 [.int]],.sl 172 [.int,.int],.sl 3 [.int]] r) (hs:AC r<=1048576):CF r:=by
 have h1:=G3 h
 have h2:=IN h
 refine ⟨λ k hk=>UN (BH h1.2.2.2.2.2.2.2.1 k hk),λ k hk=>UO (BH h1.2.2.2.2.2.2.2.2.1 k hk),?_,?_,?_,?_⟩
 ·show ((r.getD 7 (.int 0)).r).length<=_;omega
 ·show ((r.getD 8 (.int 0)).r).length<=_;omega
 ·show ((r.getD 9 (.int 0)).r).length<=_;omega
 ·show ((r.getD 10 (.int 0)).r).length<=_;omega
theorem Jb {r:List Dat} (h:hasRow [.int,.int,.int,.int,.sl 23 [.int,.int],.sl 24 [.sl 23 [.int,.int]],.sl 23 [.int,.int],.sl 35 [.int,.bool,.int,.int,.int,.int,.sl 24 [.sl 23 [.int,.int]],.sl 161 [.bool,.sl 3 [.int],.sl 3 [.int],.bool,.sl 3 [.int],.sl 3 [.int],.bool,.sl 3 [.int],.sl 3 [.int],.bool,.sl 3 [.int],.sl 3 [.int],.bool,.sl 3 [.int],.sl 3 [.int],.bool,.sl 3 [.int],.sl 3 [.int]],.sl 164 [.bool,.sl 3 [.int],.sl 3 [.int],.bool,.sl 3 [.int],.sl 3 [.int],.bool,.sl 3 [.int],.sl 3 [.int]],.sl 172 [.int,.int],.sl 3 [.int]],.sl 3 [.int],.sl 33 [.sl 3 [.int]]] r) (hs:AC r<=1048576):HE r:=by
 have h1:=IP h
 have h2:=IO h
 refine ⟨V4 h1.2.2.2.2.2.2.2.1 (by omega),λ k hk=>V5 (BH h1.2.2.2.2.2.2.2.1 k hk) ?_⟩
 have h3:=Ch hk
 omega
theorem LM {r:List Dat} (h:hasRow [.int,.int,.int,.int,.sl 23 [.int,.int],.sl 24 [.sl 23 [.int,.int]],.sl 23 [.int,.int],.sl 35 [.int,.bool,.int,.int,.int,.int,.sl 24 [.sl 23 [.int,.int]],.sl 161 [.bool,.sl 3 [.int],.sl 3 [.int],.bool,.sl 3 [.int],.sl 3 [.int],.bool,.sl 3 [.int],.sl 3 [.int],.bool,.sl 3 [.int],.sl 3 [.int],.bool,.sl 3 [.int],.sl 3 [.int],.bool,.sl 3 [.int],.sl 3 [.int]],.sl 164 [.bool,.sl 3 [.int],.sl 3 [.int],.bool,.sl 3 [.int],.sl 3 [.int],.bool,.sl 3 [.int],.sl 3 [.int]],.sl 172 [.int,.int],.sl 3 [.int]],.sl 3 [.int],.sl 33 [.sl 3 [.int]]] r) (hs:AC r<=1048576) (hf:fitRow r):P4 r:=by
 have h2:=IO h
 simp only [AC,Dat.sz] at h2
 refine ⟨by omega,by omega,λ k hk=>?_⟩
 have f:=F0 (UM (Cl (k:=6) hf)) hk
 exact ⟨Q6 (Cl f),(Q6 (Cl f)).1,(Q6 (Cl f)).2⟩
theorem U9 {r:List Dat} (hf:fitRow r):P3 r:=λ k hk i hi=>by
 have f:=F0 (UM (Cl (k:=7) hf)) hk
 exact (Q6 (Cl (F0 (UM (Cl (k:=10) f)) hi))).1
def DV:Con:={ ι:=(List Dat)×Int×Int,pre:=λ i=>hasRow [.int,.int,.int,.int,.sl 23 [.int,.int],.sl 24 [.sl 23 [.int,.int]],.sl 23 [.int,.int],.sl 35 [.int,.bool,.int,.int,.int,.int,.sl 24 [.sl 23 [.int,.int]],.sl 161 [.bool,.sl 3 [.int],.sl 3 [.int],.bool,.sl 3 [.int],.sl 3 [.int],.bool,.sl 3 [.int],.sl 3 [.int],.bool,.sl 3 [.int],.sl 3 [.int],.bool,.sl 3 [.int],.sl 3 [.int],.bool,.sl 3 [.int],.sl 3 [.int]],.sl 164 [.bool,.sl 3 [.int],.sl 3 [.int],.bool,.sl 3 [.int],.sl 3 [.int],.bool,.sl 3 [.int],.sl 3 [.int]],.sl 172 [.int,.int],.sl 3 [.int]],.sl 3 [.int],.sl 33 [.sl 3 [.int]]] i.1/\fitRow i.1/\i.2.1<=9223372036854775807/\i.2.2<=9223372036854775807,args:=λ i=>[w62 i.1,.one (cI i.2.1),.one (cI i.2.2)],res:=λ i=>⟨false,[none],[rcB true]⟩ }
set_option maxRecDepth 100000 in
set_option maxHeartbeats 4000000 in
theorem Jf:DV.Ok Tryz.prog 4:=by
 refine fok (X:=⟨tt,[(21,EQ),(23,BM),(22,Hj),(24,Hi),(25,ER)],[],35,[]⟩) mixed AH (CTok.cons Rl (CTok.cons Rm (CTok.cons UI (CTok.cons UH (CTok.cons Rn (CTok.nil _)))))) Tryz.func4 (λ _=>[]) ?_
 rintro ⟨r,j,k⟩ hpre
 have hpre:hasRow [.int,.int,.int,.int,.sl 23 [.int,.int],.sl 24 [.sl 23 [.int,.int]],.sl 23 [.int,.int],.sl 35 [.int,.bool,.int,.int,.int,.int,.sl 24 [.sl 23 [.int,.int]],.sl 161 [.bool,.sl 3 [.int],.sl 3 [.int],.bool,.sl 3 [.int],.sl 3 [.int],.bool,.sl 3 [.int],.sl 3 [.int],.bool,.sl 3 [.int],.sl 3 [.int],.bool,.sl 3 [.int],.sl 3 [.int],.bool,.sl 3 [.int],.sl 3 [.int]],.sl 164 [.bool,.sl 3 [.int],.sl 3 [.int],.bool,.sl 3 [.int],.sl 3 [.int],.bool,.sl 3 [.int],.sl 3 [.int]],.sl 172 [.int,.int],.sl 3 [.int]],.sl 3 [.int],.sl 33 [.sl 3 [.int]]] r/\fitRow r/\j<=9223372036854775807/\k<=9223372036854775807:=hpre
 refine AI (q:=let Z1:=List Dat;∃ i1:Z1×Int,[w62 r,DA.one (cI (1048576:Int))]=EQ.args i1/\EQ.pre i1/\(ifB ((decide ((szR (AC i1.1) i1.2)<(0:Int)))) ((vB true=vB true)) (∃ i2:Z1,[w62 r]=BM.args i2/\BM.pre i2/\(∃ i3:Z1×Int×Int,[w67 i2,DA.one (cI j),DA.one (cI k)]=Hj.args i3/\Hj.pre i3/\(∃ i4:Z1,[w62 r]=BM.args i4/\BM.pre i4/\(∃ i5:Z1×Int×Int,[w67 i4,DA.one (cI j),DA.one (cI k)]=Hi.args i5/\Hi.pre i5/\(ifB (((lkZ (Dr i5.1) i5.1 i5.2.1 i5.2.2) != (lkZ (Ds i3.1) i3.1 i3.2.1 i3.2.2))) ((vB false=vB true)) (∃ i6:Z1,[w62 r]=BM.args i6/\BM.pre i6/\(∃ i7:Z1,[w67 i4,w67 i6]=ER.args i7/\ER.pre i7/\(ifB ((!true)) ((vB false=vB true)) ((vB true=vB true)))))))))))) (by kernel_rfl) ?_
 conv=>zeta
 delta w62 w67 ifB vB
 obtain ⟨hr,hf,hj,hk⟩:=hpre
 have z1:=A7 (AC r) 1048576
 have hrd:=IP hr
 have hrz:=IO hr
 refine ⟨(r,(1048576:Int)),by
  rfl,by
  try dsimp only [EQ]
  first|exact ⟨hr,by omega,by omega⟩|exact ⟨hr,by omega⟩|exact ⟨Jb hr (by omega),LM hr (by omega) hf,hj,hk⟩|exact hr,?_⟩
 refine ⟨λ c4=>?_,λ c4=>?_⟩
 ·try simp only [nrm] at c4
  exact rfl
 try simp only [nrm] at c4
 have hls:=U7 (j:=j) (k:=k) (Jb hr (by omega)) (U9 hf)
 refine ⟨r,by
  rfl,by
  try dsimp only [BM]
  first|exact ⟨hr,by omega,by omega⟩|exact ⟨hr,by omega⟩|exact ⟨Jb hr (by omega),LM hr (by omega) hf,hj,hk⟩|exact hr,?_⟩
 refine ⟨(r,j,k),by
  rfl,by
  show HE r/\P4 r/\j<=9223372036854775807/\k<=9223372036854775807
  first|exact ⟨hr,by omega,by omega⟩|exact ⟨hr,by omega⟩|exact ⟨Jb hr (by omega),LM hr (by omega) hf,hj,hk⟩|exact hr,?_⟩
 refine ⟨r,by
  rfl,by
  try dsimp only [BM]
  first|exact ⟨hr,by omega,by omega⟩|exact ⟨hr,by omega⟩|exact ⟨Jb hr (by omega),LM hr (by omega) hf,hj,hk⟩|exact hr,?_⟩
 refine ⟨(r,j,k),by
  rfl,by
  show HE r/\P4 r/\j<=9223372036854775807/\k<=9223372036854775807
  first|exact ⟨hr,by omega,by omega⟩|exact ⟨hr,by omega⟩|exact ⟨Jb hr (by omega),LM hr (by omega) hf,hj,hk⟩|exact hr,?_⟩
 refine ⟨λ c18=>?_,λ c18=>?_⟩
 ·try simp only [nrm] at c18
  first|rfl|contradiction|(exfalso;omega)|simp_all
 try simp only [nrm] at c18
 refine ⟨r,by
  rfl,by
  try dsimp only [BM]
  first|exact ⟨hr,by omega,by omega⟩|exact ⟨hr,by omega⟩|exact ⟨Jb hr (by omega),LM hr (by omega) hf,hj,hk⟩|exact hr,?_⟩
 refine ⟨r,by
  rfl,by
  try dsimp only [ER]
  first|exact ⟨hr,by omega,by omega⟩|exact ⟨hr,by omega⟩|exact ⟨Jb hr (by omega),LM hr (by omega) hf,hj,hk⟩|exact hr,?_⟩
 refine ⟨λ c26=>?_,λ c26=>?_⟩
 ·try simp only [nrm] at c26
  first|rfl|contradiction|(exfalso;omega)|simp_all
 try simp only [nrm] at c26
 exact rfl
end Go.Proofs.YtmedodfenejimaaGreat
