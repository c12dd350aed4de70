import Derived.Test.YtkffpiaagjcmpaaGreatEvExC
import Derived.Test.YtkffpiaagjcmpaaGreatProg
import Derived.KernelRfl
namespace Go.Proofs.YtkffpiaagjcmpaaGreat
set_option linter.unusedVariables false
set_option linter.unusedSimpArgs false
open Go.RowKit
theorem TIok.mk' {P:Program} {t:Nat} {i:TI} (h1:(P.info? t).map (λ i=>(i.size,i.bytes,i.zero.map (·.cells)))=some (i.size,i.bytes,some i.zero.toArray)) (h2:i.d.fits P t) (h3:i.eqn≠0->AA7 P t i.eqn:=by intro h;exact absurd rfl h):TIok P t i:=by
 refine ⟨?_,h2,h3⟩
 cases h:P.info? t with
 | none=>rw [h] at h1;cases h1
 | some inf=>
  rw [h] at h1
  simp only [Option.map_some,Option.some.injEq,Prod.mk.injEq] at h1
  exact ⟨inf,rfl,h1.1,h1.2.1,h1.2.2⟩
theorem An {P:Program} {t:Nat} {fs:List (Nat×Nat×Nat)} (h:(match P.underlying t with|some (.struct fl)=>some (fl.toList.map (λ f=>(f.offset,f.type)),fl.toList.mapM (λ f=>(P.info? f.type).map λ i=>(f.offset,i.size)))|_=>none)=some (fs.map (λ x=>(x.1,x.2.1)),some (fs.map λ x=>(x.1,x.2.2)))):TD.fits P t (.struct fs):=by
 simp only [TD.fits]
 split at h
 ·rename_i fl hu
  simp only [Option.some.injEq,Prod.mk.injEq] at h
  exact ⟨fl,hu,h.1,h.2⟩
 ·cases h
theorem AAq {P:Program} {t ti:Nat} (h:(match P.underlying t with|some (.struct fl)=>some (fl.toList.map λ f=>(f.offset,f.type,f.name == "_"))|_=>none)=some [(0,ti,false),(1,ti,false)])
  (hi:P.underlying ti=some (.int .i64)) (hs:(P.eqGuardType P.depth t,P.stoodInHeld t)=(false,false)):AA7 P t 2:=by
 simp only [Prod.mk.injEq] at hs
 obtain ⟨g1,g2⟩:=hs
 refine ⟨g1,λ w xs ys hx hy=>?_⟩
 split at h
 ·rename_i fl hu
  simp only [Option.some.injEq] at h
  obtain ⟨f0,f1,hfl⟩:∃ f0 f1,fl.toList=[f0,f1]:=by
   have hl:=congrArg List.length h
   simp only [List.length_map,List.length_cons,List.length_nil] at hl
   match hq:fl.toList,hl with
   | [a,b],_=>exact ⟨a,b,rfl⟩
  rw [hfl] at h
  simp only [List.map_cons,List.map_nil,List.cons.injEq,Prod.mk.injEq,and_true] at h
  obtain ⟨⟨a1,a2,a3⟩,b1,b2,b3⟩:=h
  match xs,hx,ys,hy with
  | [x0,x1],_,[y0,y1],_=>
  have hag:(Go.isAgg ti).run P w=.ok false w:=by simp [Go.isAgg,Go.underlying,program,Sem.run,hi]
  have hp0:∀ (u v:Int),(Go.part ti #[Value.int .i64 u,Value.int .i64 v] 0).run P w=.ok (.int .i64 u) w:=by intro u v;simp [Go.part,hag]
  have hp1:∀ (u v:Int),(Go.part ti #[Value.int .i64 u,Value.int .i64 v] 1).run P w=.ok (.int .i64 v) w:=by intro u v;simp [Go.part,hag]
  have he:∀ a b:Int,(Op.equalIn 9999 ti (.int .i64 a) (.int .i64 b)).run P w=.ok (a == b) w:=by
   intro a b
   show (Op.equalIn (9998+1) ti (.int .i64 a) (.int .i64 b)).run P w=_
   rw [Op.equalIn]
   simp only [Sem.run_bind,AV hi,Result.andThen_ok]
   simp
  have n0:¬ f0.name = "_" := by simpa using a3
  have n1:¬ f1.name = "_" := by simpa using b3
  have hfa:fl=#[f0,f1]:=Array.ext' hfl
  show (Op.equalIn (9999+1) t _ _).run P w=_
  rw [Op.equalIn]
  subst hfa
  simp only [Sem.run_bind,AV hu,Result.andThen_ok]
  by_cases e0:x0=y0
  ·by_cases e1:x1=y1
   ·simp [program,Sem.run,g2,n0,n1,a1,a2,b1,b2,hp0,hp1,he,e0,e1]
   ·simp [program,Sem.run,g2,n0,n1,a1,a2,b1,b2,hp0,hp1,he,e0,e1]
  ·simp [program,Sem.run,g2,n0,n1,a1,a2,b1,b2,hp0,hp1,he,e0]
 ·cases h
def tt:TT:=[(2,{ d:=.int .i64,size:=1,bytes:=8,zero:=[.int .i64 0] }),
 (3,{ d:=.int .i64,size:=1,bytes:=8,zero:=[.int .i64 0] }),
 (4,{ d:=.bool,size:=1,bytes:=1,zero:=[.bool false] }),
 (5,{ d:=.int .u8,size:=1,bytes:=1,zero:=[.int .u8 0] }),
 (9,{ d:=.str,size:=1,bytes:=16,zero:=[.string ⟨#[]⟩] }),
 (21,{ d:=.int .i32,size:=1,bytes:=4,zero:=[.int .i32 0] }),
 (22,{ d:=.slice 5,size:=1,bytes:=24,zero:=[.slice none 0 0] }),
 (23,{ d:=.struct [(0,3,1),(1,3,1)],size:=2,bytes:=16,zero:=[.int .i64 0,.int .i64 0],eqn:=2 }),
 (24,{ d:=.struct [(0,3,1),(1,3,1)],size:=2,bytes:=16,zero:=[.int .i64 0,.int .i64 0],eqn:=2 }),
 (25,{ d:=.slice 24,size:=1,bytes:=24,zero:=[.slice none 0 0] }),
 (26,{ d:=.slice 25,size:=1,bytes:=24,zero:=[.slice none 0 0] }),
 (27,{ d:=.struct [(0,24,2),(2,24,2),(4,25,1),(5,26,1),(6,25,1)],size:=7,bytes:=104,zero:=[.int .i64 0,.int .i64 0,.int .i64 0,.int .i64 0,.slice none 0 0,.slice none 0 0,.slice none 0 0] }),
 (28,{ d:=.struct [(0,24,2),(2,24,2),(4,25,1),(5,26,1),(6,25,1)],size:=7,bytes:=104,zero:=[.int .i64 0,.int .i64 0,.int .i64 0,.int .i64 0,.slice none 0 0,.slice none 0 0,.slice none 0 0] }),
 (36,{ d:=.slice 3,size:=1,bytes:=24,zero:=[.slice none 0 0] }),
 (37,{ d:=.struct [(0,4,1),(1,36,1)],size:=2,bytes:=32,zero:=[.bool false,.slice none 0 0] }),
 (38,{ d:=.struct [(0,4,1),(1,36,1)],size:=2,bytes:=32,zero:=[.bool false,.slice none 0 0] }),
 (39,{ d:=.struct [(0,38,2),(2,36,1)],size:=3,bytes:=56,zero:=[.bool false,.slice none 0 0,.slice none 0 0] }),
 (40,{ d:=.struct [(0,38,2),(2,36,1)],size:=3,bytes:=56,zero:=[.bool false,.slice none 0 0,.slice none 0 0] }),
 (41,{ d:=.struct [(0,40,3),(3,40,3)],size:=6,bytes:=112,zero:=[.bool false,.slice none 0 0,.slice none 0 0,.bool false,.slice none 0 0,.slice none 0 0] }),
 (42,{ d:=.struct [(0,40,3),(3,40,3)],size:=6,bytes:=112,zero:=[.bool false,.slice none 0 0,.slice none 0 0,.bool false,.slice none 0 0,.slice none 0 0] }),
 (44,{ d:=.slice 42,size:=1,bytes:=24,zero:=[.slice none 0 0] }),
 (50,{ d:=.struct [(0,24,2),(2,24,2)],size:=4,bytes:=32,zero:=[.int .i64 0,.int .i64 0,.int .i64 0,.int .i64 0] }),
 (51,{ d:=.struct [(0,24,2),(2,24,2)],size:=4,bytes:=32,zero:=[.int .i64 0,.int .i64 0,.int .i64 0,.int .i64 0] }),
 (54,{ d:=.slice 40,size:=1,bytes:=24,zero:=[.slice none 0 0] }),
 (78,{ d:=.struct [(0,4,1),(1,51,4),(5,26,1)],size:=6,bytes:=64,zero:=[.bool false,.int .i64 0,.int .i64 0,.int .i64 0,.int .i64 0,.slice none 0 0] }),
 (79,{ d:=.struct [(0,4,1),(1,51,4),(5,26,1)],size:=6,bytes:=64,zero:=[.bool false,.int .i64 0,.int .i64 0,.int .i64 0,.int .i64 0,.slice none 0 0] }),
 (98,{ d:=.struct [(0,22,1),(1,3,1),(2,3,1)],size:=3,bytes:=40,zero:=[.slice none 0 0,.int .i64 0,.int .i64 0] }),
 (99,{ d:=.struct [(0,22,1),(1,3,1),(2,3,1)],size:=3,bytes:=40,zero:=[.slice none 0 0,.int .i64 0,.int .i64 0] }),
 (100,{ d:=.int .u64,size:=1,bytes:=8,zero:=[.int .u64 0] }),
 (115,{ d:=.slice 118,size:=1,bytes:=24,zero:=[.slice none 0 0] }),
 (117,{ d:=.struct [(0,24,2),(2,24,2),(4,3,1),(5,4,1)],size:=6,bytes:=48,zero:=[.int .i64 0,.int .i64 0,.int .i64 0,.int .i64 0,.int .i64 0,.bool false] }),
 (118,{ d:=.struct [(0,24,2),(2,24,2),(4,3,1),(5,4,1)],size:=6,bytes:=48,zero:=[.int .i64 0,.int .i64 0,.int .i64 0,.int .i64 0,.int .i64 0,.bool false] }),
 (172,{ d:=.int .u32,size:=1,bytes:=4,zero:=[.int .u32 0] }),
 (174,{ d:=.int .u64,size:=1,bytes:=8,zero:=[.int .u64 0] }),
 (179,{ d:=.float,size:=1,bytes:=8,zero:=[.float .f64 0] })]
theorem mixed:Tryz.prog.follows .mixedOrders=true:=by kernel_rfl
theorem tt2:TIok Tryz.prog 2 { d:=.int .i64,size:=1,bytes:=8,zero:=[.int .i64 0] }:=.mk' (by kernel_rfl) (by show Program.underlying _ _=_;kernel_rfl)
theorem tt3:TIok Tryz.prog 3 { d:=.int .i64,size:=1,bytes:=8,zero:=[.int .i64 0] }:=.mk' (by kernel_rfl) (by show Program.underlying _ _=_;kernel_rfl)
theorem tt4:TIok Tryz.prog 4 { d:=.bool,size:=1,bytes:=1,zero:=[.bool false] }:=.mk' (by kernel_rfl) (by show Program.underlying _ _=_;kernel_rfl)
theorem tt5:TIok Tryz.prog 5 { d:=.int .u8,size:=1,bytes:=1,zero:=[.int .u8 0] }:=.mk' (by kernel_rfl) (by show Program.underlying _ _=_;kernel_rfl)
theorem tt9:TIok Tryz.prog 9 { d:=.str,size:=1,bytes:=16,zero:=[.string ⟨#[]⟩] }:=.mk' (by kernel_rfl) (by show Program.underlying _ _=_;kernel_rfl)
theorem ACV:TIok Tryz.prog 21 { d:=.int .i32,size:=1,bytes:=4,zero:=[.int .i32 0] }:=.mk' (by kernel_rfl) (by show Program.underlying _ _=_;kernel_rfl)
theorem ACW:TIok Tryz.prog 22 { d:=.slice 5,size:=1,bytes:=24,zero:=[.slice none 0 0] }:=.mk' (by kernel_rfl) (by show Program.underlying _ _=_;kernel_rfl)
theorem ACX:TIok Tryz.prog 23 { d:=.struct [(0,3,1),(1,3,1)],size:=2,bytes:=16,zero:=[.int .i64 0,.int .i64 0],eqn:=2 }:=.mk' (by kernel_rfl) (by exact An (by kernel_rfl)) (λ _=>AAq (ti:=3) (by kernel_rfl) (by kernel_rfl) (by kernel_rfl))
theorem ACY:TIok Tryz.prog 24 { d:=.struct [(0,3,1),(1,3,1)],size:=2,bytes:=16,zero:=[.int .i64 0,.int .i64 0],eqn:=2 }:=.mk' (by kernel_rfl) (by exact An (by kernel_rfl)) (λ _=>AAq (ti:=3) (by kernel_rfl) (by kernel_rfl) (by kernel_rfl))
theorem ACZ:TIok Tryz.prog 25 { d:=.slice 24,size:=1,bytes:=24,zero:=[.slice none 0 0] }:=.mk' (by kernel_rfl) (by show Program.underlying _ _=_;kernel_rfl)
theorem ACa:TIok Tryz.prog 26 { d:=.slice 25,size:=1,bytes:=24,zero:=[.slice none 0 0] }:=.mk' (by kernel_rfl) (by show Program.underlying _ _=_;kernel_rfl)
theorem ACb:TIok Tryz.prog 27 { d:=.struct [(0,24,2),(2,24,2),(4,25,1),(5,26,1),(6,25,1)],size:=7,bytes:=104,zero:=[.int .i64 0,.int .i64 0,.int .i64 0,.int .i64 0,.slice none 0 0,.slice none 0 0,.slice none 0 0] }:=.mk' (by kernel_rfl) (by exact An (by kernel_rfl))
theorem ACc:TIok Tryz.prog 28 { d:=.struct [(0,24,2),(2,24,2),(4,25,1),(5,26,1),(6,25,1)],size:=7,bytes:=104,zero:=[.int .i64 0,.int .i64 0,.int .i64 0,.int .i64 0,.slice none 0 0,.slice none 0 0,.slice none 0 0] }:=.mk' (by kernel_rfl) (by exact An (by kernel_rfl))
theorem ACd:TIok Tryz.prog 36 { d:=.slice 3,size:=1,bytes:=24,zero:=[.slice none 0 0] }:=.mk' (by kernel_rfl) (by show Program.underlying _ _=_;kernel_rfl)
theorem ACe:TIok Tryz.prog 37 { d:=.struct [(0,4,1),(1,36,1)],size:=2,bytes:=32,zero:=[.bool false,.slice none 0 0] }:=.mk' (by kernel_rfl) (by exact An (by kernel_rfl))
theorem ACf:TIok Tryz.prog 38 { d:=.struct [(0,4,1),(1,36,1)],size:=2,bytes:=32,zero:=[.bool false,.slice none 0 0] }:=.mk' (by kernel_rfl) (by exact An (by kernel_rfl))
theorem ACg:TIok Tryz.prog 39 { d:=.struct [(0,38,2),(2,36,1)],size:=3,bytes:=56,zero:=[.bool false,.slice none 0 0,.slice none 0 0] }:=.mk' (by kernel_rfl) (by exact An (by kernel_rfl))
theorem ACh:TIok Tryz.prog 40 { d:=.struct [(0,38,2),(2,36,1)],size:=3,bytes:=56,zero:=[.bool false,.slice none 0 0,.slice none 0 0] }:=.mk' (by kernel_rfl) (by exact An (by kernel_rfl))
theorem ACi:TIok Tryz.prog 41 { d:=.struct [(0,40,3),(3,40,3)],size:=6,bytes:=112,zero:=[.bool false,.slice none 0 0,.slice none 0 0,.bool false,.slice none 0 0,.slice none 0 0] }:=.mk' (by kernel_rfl) (by exact An (by kernel_rfl))
theorem ACj:TIok Tryz.prog 42 { d:=.struct [(0,40,3),(3,40,3)],size:=6,bytes:=112,zero:=[.bool false,.slice none 0 0,.slice none 0 0,.bool false,.slice none 0 0,.slice none 0 0] }:=.mk' (by kernel_rfl) (by exact An (by kernel_rfl))
theorem ACk:TIok Tryz.prog 44 { d:=.slice 42,size:=1,bytes:=24,zero:=[.slice none 0 0] }:=.mk' (by kernel_rfl) (by show Program.underlying _ _=_;kernel_rfl)
theorem ACl:TIok Tryz.prog 50 { d:=.struct [(0,24,2),(2,24,2)],size:=4,bytes:=32,zero:=[.int .i64 0,.int .i64 0,.int .i64 0,.int .i64 0] }:=.mk' (by kernel_rfl) (by exact An (by kernel_rfl))
theorem ACm:TIok Tryz.prog 51 { d:=.struct [(0,24,2),(2,24,2)],size:=4,bytes:=32,zero:=[.int .i64 0,.int .i64 0,.int .i64 0,.int .i64 0] }:=.mk' (by kernel_rfl) (by exact An (by kernel_rfl))
theorem ACn:TIok Tryz.prog 54 { d:=.slice 40,size:=1,bytes:=24,zero:=[.slice none 0 0] }:=.mk' (by kernel_rfl) (by show Program.underlying _ _=_;kernel_rfl)
theorem ACo:TIok Tryz.prog 78 { d:=.struct [(0,4,1),(1,51,4),(5,26,1)],size:=6,bytes:=64,zero:=[.bool false,.int .i64 0,.int .i64 0,.int .i64 0,.int .i64 0,.slice none 0 0] }:=.mk' (by kernel_rfl) (by exact An (by kernel_rfl))
theorem ACp:TIok Tryz.prog 79 { d:=.struct [(0,4,1),(1,51,4),(5,26,1)],size:=6,bytes:=64,zero:=[.bool false,.int .i64 0,.int .i64 0,.int .i64 0,.int .i64 0,.slice none 0 0] }:=.mk' (by kernel_rfl) (by exact An (by kernel_rfl))
theorem ACq:TIok Tryz.prog 98 { d:=.struct [(0,22,1),(1,3,1),(2,3,1)],size:=3,bytes:=40,zero:=[.slice none 0 0,.int .i64 0,.int .i64 0] }:=.mk' (by kernel_rfl) (by exact An (by kernel_rfl))
theorem ACr:TIok Tryz.prog 99 { d:=.struct [(0,22,1),(1,3,1),(2,3,1)],size:=3,bytes:=40,zero:=[.slice none 0 0,.int .i64 0,.int .i64 0] }:=.mk' (by kernel_rfl) (by exact An (by kernel_rfl))
theorem AB6:TIok Tryz.prog 100 { d:=.int .u64,size:=1,bytes:=8,zero:=[.int .u64 0] }:=.mk' (by kernel_rfl) (by show Program.underlying _ _=_;kernel_rfl)
theorem AB7:TIok Tryz.prog 115 { d:=.slice 118,size:=1,bytes:=24,zero:=[.slice none 0 0] }:=.mk' (by kernel_rfl) (by show Program.underlying _ _=_;kernel_rfl)
theorem AB8:TIok Tryz.prog 117 { d:=.struct [(0,24,2),(2,24,2),(4,3,1),(5,4,1)],size:=6,bytes:=48,zero:=[.int .i64 0,.int .i64 0,.int .i64 0,.int .i64 0,.int .i64 0,.bool false] }:=.mk' (by kernel_rfl) (by exact An (by kernel_rfl))
theorem AB9:TIok Tryz.prog 118 { d:=.struct [(0,24,2),(2,24,2),(4,3,1),(5,4,1)],size:=6,bytes:=48,zero:=[.int .i64 0,.int .i64 0,.int .i64 0,.int .i64 0,.int .i64 0,.bool false] }:=.mk' (by kernel_rfl) (by exact An (by kernel_rfl))
theorem ACA:TIok Tryz.prog 172 { d:=.int .u32,size:=1,bytes:=4,zero:=[.int .u32 0] }:=.mk' (by kernel_rfl) (by show Program.underlying _ _=_;kernel_rfl)
theorem ACB:TIok Tryz.prog 174 { d:=.int .u64,size:=1,bytes:=8,zero:=[.int .u64 0] }:=.mk' (by kernel_rfl) (by show Program.underlying _ _=_;kernel_rfl)
theorem ACC:TIok Tryz.prog 179 { d:=.float,size:=1,bytes:=8,zero:=[.float .f64 0] }:=.mk' (by kernel_rfl) (by show Program.underlying _ _=_;kernel_rfl)
theorem AQ:TTok Tryz.prog tt:=(TTok.cons tt2 (TTok.cons tt3 (TTok.cons tt4 (TTok.cons tt5 (TTok.cons tt9 (TTok.cons ACV (TTok.cons ACW (TTok.cons ACX (TTok.cons ACY (TTok.cons ACZ (TTok.cons ACa (TTok.cons ACb (TTok.cons ACc (TTok.cons ACd (TTok.cons ACe (TTok.cons ACf (TTok.cons ACg (TTok.cons ACh (TTok.cons ACi (TTok.cons ACj (TTok.cons ACk (TTok.cons ACl (TTok.cons ACm (TTok.cons ACn (TTok.cons ACo (TTok.cons ACp (TTok.cons ACq (TTok.cons ACr (TTok.cons AB6 (TTok.cons AB7 (TTok.cons AB8 (TTok.cons AB9 (TTok.cons ACA (TTok.cons ACB (TTok.cons ACC (TTok.nil _))))))))))))))))))))))))))))))))))))
abbrev z50:List Ty:=[.int,.int,.int,.int]
abbrev z39:List Ty:=[.bool,.sl 3 [.int],.sl 3 [.int]]
abbrev XW:List Ty:=[.int,.int,.int,.int,.int,.bool]
end Go.Proofs.YtkffpiaagjcmpaaGreat
namespace Go.Proofs.YtkffpiaagjcmpaaGreat
set_option linter.unusedVariables false
set_option linter.unusedSimpArgs false
open Go.RowKit
def Bq:Con:={ ι:=Int×Int×Int,pre:=λ i=>True,args:=λ i=>[.one (cI i.1),.one (cI i.2.1),.one (cI i.2.2)],mono:=true,res:=λ i=>⟨false,[none],[rcB (decide (i.1≥i.2.1) && decide (i.1<=i.2.2))]⟩ }
set_option maxRecDepth 100000 in
theorem Jy:Bq.Ok Tryz.prog 40:=by
 refine fok (X:=⟨tt,[],[],15,[]⟩) mixed AQ (CTok.nil _) Tryz.func40 (λ _=>[]) ?_
 rintro ⟨n,lo,hi⟩ hpre
 have hpre:True:=hpre
 refine AP (q:=let Z1:=decide (n≥lo) && decide (n<=hi);ifB ((decide (n≥lo))) ((vB (decide (n<=hi))=vB Z1)) ((vB false=vB Z1))) (by kernel_rfl) ?_
 conv=>zeta
 delta ifB vB
 refine ⟨λ c1=>?_,λ c1=>?_⟩
 ·try simp only [nrm] at c1
  have e:decide (n≥lo)=true:=by simpa using c1
  rw [e];rfl
 try simp only [nrm] at c1
 have e:decide (n≥lo)=false:=by simpa using c1
 rw [e];rfl
end Go.Proofs.YtkffpiaagjcmpaaGreat
