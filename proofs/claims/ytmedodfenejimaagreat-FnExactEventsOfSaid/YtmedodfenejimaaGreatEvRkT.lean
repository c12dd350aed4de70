import Derived.Test.YtmedodfenejimaaGreatEvExC
import Derived.Test.YtmedodfenejimaaGreatProg
import Derived.KernelRfl
namespace Go.Proofs.YtmedodfenejimaaGreat
set_option linter.unusedVariables false
set_option linter.unusedSimpArgs false
open Go.RowKit
theorem TIok.mk' {P:Program} {t:Nat} {i:TI} (h1:(P.info? t).map (λ i=>(i.size,i.bytes,i.zero.map (·.cells)))=some (i.size,i.bytes,some i.zero.toArray)) (h2:i.d.fits P t) (h3:i.eqn≠0->Vo P t i.eqn:=by intro h;exact absurd rfl h):TIok P t i:=by
 refine ⟨?_,h2,h3⟩
 cases h:P.info? t with
 | none=>rw [h] at h1;cases h1
 | some inf=>
  rw [h] at h1
  simp only [Option.map_some,Option.some.injEq,Prod.mk.injEq] at h1
  exact ⟨inf,rfl,h1.1,h1.2.1,h1.2.2⟩
theorem AI {P:Program} {t:Nat} {fs:List (Nat×Nat×Nat)} (h:(match P.underlying t with|some (.struct fl)=>some (fl.toList.map (λ f=>(f.offset,f.type)),fl.toList.mapM (λ f=>(P.info? f.type).map λ i=>(f.offset,i.size)))|_=>none)=some (fs.map (λ x=>(x.1,x.2.1)),some (fs.map λ x=>(x.1,x.2.2)))):TD.fits P t (.struct fs):=by
 simp only [TD.fits]
 split at h
 ·rename_i fl hu
  simp only [Option.some.injEq,Prod.mk.injEq] at h
  exact ⟨fl,hu,h.1,h.2⟩
 ·cases h
theorem MC {P:Program} {t ti:Nat} (h:(match P.underlying t with|some (.struct fl)=>some (fl.toList.map λ f=>(f.offset,f.type,f.name == "_"))|_=>none)=some [(0,ti,false),(1,ti,false)])
  (hi:P.underlying ti=some (.int .i64)) (hs:(P.eqGuardType P.depth t,P.stoodInHeld t)=(false,false)):Vo P t 2:=by
 simp only [Prod.mk.injEq] at hs
 obtain ⟨g1,g2⟩:=hs
 refine ⟨g1,λ w xs ys hx hy=>?_⟩
 split at h
 ·rename_i fl hu
  simp only [Option.some.injEq] at h
  obtain ⟨f0,f1,hfl⟩:∃ f0 f1,fl.toList=[f0,f1]:=by
   have hl:=congrArg List.length h
   simp only [List.length_map,List.length_cons,List.length_nil] at hl
   match hq:fl.toList,hl with
   | [a,b],_=>exact ⟨a,b,rfl⟩
  rw [hfl] at h
  simp only [List.map_cons,List.map_nil,List.cons.injEq,Prod.mk.injEq,and_true] at h
  obtain ⟨⟨a1,a2,a3⟩,b1,b2,b3⟩:=h
  match xs,hx,ys,hy with
  | [x0,x1],_,[y0,y1],_=>
  have hag:(Go.isAgg ti).run P w=.ok false w:=by simp [Go.isAgg,Go.underlying,program,Sem.run,hi]
  have hp0:∀ (u v:Int),(Go.part ti #[Value.int .i64 u,Value.int .i64 v] 0).run P w=.ok (.int .i64 u) w:=by intro u v;simp [Go.part,hag]
  have hp1:∀ (u v:Int),(Go.part ti #[Value.int .i64 u,Value.int .i64 v] 1).run P w=.ok (.int .i64 v) w:=by intro u v;simp [Go.part,hag]
  have he:∀ a b:Int,(Op.equalIn 9999 ti (.int .i64 a) (.int .i64 b)).run P w=.ok (a == b) w:=by
   intro a b
   show (Op.equalIn (9998+1) ti (.int .i64 a) (.int .i64 b)).run P w=_
   rw [Op.equalIn]
   simp only [Sem.run_bind,Ag hi,Result.andThen_ok]
   simp
  have n0:¬ f0.name = "_" := by simpa using a3
  have n1:¬ f1.name = "_" := by simpa using b3
  have hfa:fl=#[f0,f1]:=Array.ext' hfl
  show (Op.equalIn (9999+1) t _ _).run P w=_
  rw [Op.equalIn]
  subst hfa
  simp only [Sem.run_bind,Ag hu,Result.andThen_ok]
  by_cases e0:x0=y0
  ·by_cases e1:x1=y1
   ·simp [program,Sem.run,g2,n0,n1,a1,a2,b1,b2,hp0,hp1,he,e0,e1]
   ·simp [program,Sem.run,g2,n0,n1,a1,a2,b1,b2,hp0,hp1,he,e0,e1]
  ·simp [program,Sem.run,g2,n0,n1,a1,a2,b1,b2,hp0,hp1,he,e0]
 ·cases h
def tt:TT:=[(2,{ d:=.int .i64,size:=1,bytes:=8,zero:=[.int .i64 0] }),
 (3,{ d:=.int .i64,size:=1,bytes:=8,zero:=[.int .i64 0] }),
 (4,{ d:=.bool,size:=1,bytes:=1,zero:=[.bool false] }),
 (5,{ d:=.int .u8,size:=1,bytes:=1,zero:=[.int .u8 0] }),
 (9,{ d:=.str,size:=1,bytes:=16,zero:=[.string ⟨#[]⟩] }),
 (21,{ d:=.int .i32,size:=1,bytes:=4,zero:=[.int .i32 0] }),
 (22,{ d:=.struct [(0,3,1),(1,3,1)],size:=2,bytes:=16,zero:=[.int .i64 0,.int .i64 0],eqn:=2 }),
 (23,{ d:=.struct [(0,3,1),(1,3,1)],size:=2,bytes:=16,zero:=[.int .i64 0,.int .i64 0],eqn:=2 }),
 (24,{ d:=.slice 23,size:=1,bytes:=24,zero:=[.slice none 0 0] }),
 (25,{ d:=.slice 24,size:=1,bytes:=24,zero:=[.slice none 0 0] }),
 (26,{ d:=.struct [(0,23,2),(2,23,2),(4,24,1),(5,25,1),(6,24,1)],size:=7,bytes:=104,zero:=[.int .i64 0,.int .i64 0,.int .i64 0,.int .i64 0,.slice none 0 0,.slice none 0 0,.slice none 0 0] }),
 (27,{ d:=.struct [(0,23,2),(2,23,2),(4,24,1),(5,25,1),(6,24,1)],size:=7,bytes:=104,zero:=[.int .i64 0,.int .i64 0,.int .i64 0,.int .i64 0,.slice none 0 0,.slice none 0 0,.slice none 0 0] }),
 (28,{ d:=.struct [(0,23,2),(2,23,2)],size:=4,bytes:=32,zero:=[.int .i64 0,.int .i64 0,.int .i64 0,.int .i64 0] }),
 (29,{ d:=.struct [(0,23,2),(2,23,2)],size:=4,bytes:=32,zero:=[.int .i64 0,.int .i64 0,.int .i64 0,.int .i64 0] }),
 (30,{ d:=.slice 161,size:=1,bytes:=24,zero:=[.slice none 0 0] }),
 (31,{ d:=.slice 164,size:=1,bytes:=24,zero:=[.slice none 0 0] }),
 (32,{ d:=.slice 172,size:=1,bytes:=24,zero:=[.slice none 0 0] }),
 (33,{ d:=.slice 3,size:=1,bytes:=24,zero:=[.slice none 0 0] }),
 (34,{ d:=.struct [(0,3,1),(1,4,1),(2,29,4),(6,25,1),(7,30,1),(8,31,1),(9,32,1),(10,33,1)],size:=11,bytes:=168,zero:=[.int .i64 0,.bool false,.int .i64 0,.int .i64 0,.int .i64 0,.int .i64 0,.slice none 0 0,.slice none 0 0,.slice none 0 0,.slice none 0 0,.slice none 0 0] }),
 (35,{ d:=.struct [(0,3,1),(1,4,1),(2,29,4),(6,25,1),(7,30,1),(8,31,1),(9,32,1),(10,33,1)],size:=11,bytes:=168,zero:=[.int .i64 0,.bool false,.int .i64 0,.int .i64 0,.int .i64 0,.int .i64 0,.slice none 0 0,.slice none 0 0,.slice none 0 0,.slice none 0 0,.slice none 0 0] }),
 (39,{ d:=.struct [(0,3,1),(1,3,1)],size:=2,bytes:=16,zero:=[.int .i64 0,.int .i64 0],eqn:=2 }),
 (40,{ d:=.slice 39,size:=1,bytes:=24,zero:=[.slice none 0 0] }),
 (41,{ d:=.slice 40,size:=1,bytes:=24,zero:=[.slice none 0 0] }),
 (42,{ d:=.struct [(0,39,2),(2,39,2),(4,40,1),(5,41,1),(6,40,1)],size:=7,bytes:=104,zero:=[.int .i64 0,.int .i64 0,.int .i64 0,.int .i64 0,.slice none 0 0,.slice none 0 0,.slice none 0 0] }),
 (43,{ d:=.struct [(0,39,2),(2,39,2),(4,40,1),(5,41,1),(6,40,1)],size:=7,bytes:=104,zero:=[.int .i64 0,.int .i64 0,.int .i64 0,.int .i64 0,.slice none 0 0,.slice none 0 0,.slice none 0 0] }),
 (45,{ d:=.struct [(0,39,2),(2,39,2)],size:=4,bytes:=32,zero:=[.int .i64 0,.int .i64 0,.int .i64 0,.int .i64 0] }),
 (46,{ d:=.struct [(0,39,2),(2,39,2)],size:=4,bytes:=32,zero:=[.int .i64 0,.int .i64 0,.int .i64 0,.int .i64 0] }),
 (47,{ d:=.slice 158,size:=1,bytes:=24,zero:=[.slice none 0 0] }),
 (48,{ d:=.slice 153,size:=1,bytes:=24,zero:=[.slice none 0 0] }),
 (49,{ d:=.slice 168,size:=1,bytes:=24,zero:=[.slice none 0 0] }),
 (50,{ d:=.struct [(0,3,1),(1,4,1),(2,46,4),(6,41,1),(7,47,1),(8,48,1),(9,49,1),(10,33,1)],size:=11,bytes:=168,zero:=[.int .i64 0,.bool false,.int .i64 0,.int .i64 0,.int .i64 0,.int .i64 0,.slice none 0 0,.slice none 0 0,.slice none 0 0,.slice none 0 0,.slice none 0 0] }),
 (51,{ d:=.struct [(0,3,1),(1,4,1),(2,46,4),(6,41,1),(7,47,1),(8,48,1),(9,49,1),(10,33,1)],size:=11,bytes:=168,zero:=[.int .i64 0,.bool false,.int .i64 0,.int .i64 0,.int .i64 0,.int .i64 0,.slice none 0 0,.slice none 0 0,.slice none 0 0,.slice none 0 0,.slice none 0 0] }),
 (60,{ d:=.slice 35,size:=1,bytes:=24,zero:=[.slice none 0 0] }),
 (61,{ d:=.slice 33,size:=1,bytes:=24,zero:=[.slice none 0 0] }),
 (62,{ d:=.struct [(0,27,7),(7,60,1),(8,33,1),(9,61,1)],size:=10,bytes:=176,zero:=[.int .i64 0,.int .i64 0,.int .i64 0,.int .i64 0,.slice none 0 0,.slice none 0 0,.slice none 0 0,.slice none 0 0,.slice none 0 0,.slice none 0 0] }),
 (63,{ d:=.struct [(0,27,7),(7,60,1),(8,33,1),(9,61,1)],size:=10,bytes:=176,zero:=[.int .i64 0,.int .i64 0,.int .i64 0,.int .i64 0,.slice none 0 0,.slice none 0 0,.slice none 0 0,.slice none 0 0,.slice none 0 0,.slice none 0 0] }),
 (66,{ d:=.slice 51,size:=1,bytes:=24,zero:=[.slice none 0 0] }),
 (67,{ d:=.struct [(0,43,7),(7,66,1),(8,33,1),(9,61,1)],size:=10,bytes:=176,zero:=[.int .i64 0,.int .i64 0,.int .i64 0,.int .i64 0,.slice none 0 0,.slice none 0 0,.slice none 0 0,.slice none 0 0,.slice none 0 0,.slice none 0 0] }),
 (68,{ d:=.struct [(0,43,7),(7,66,1),(8,33,1),(9,61,1)],size:=10,bytes:=176,zero:=[.int .i64 0,.int .i64 0,.int .i64 0,.int .i64 0,.slice none 0 0,.slice none 0 0,.slice none 0 0,.slice none 0 0,.slice none 0 0,.slice none 0 0] }),
 (73,{ d:=.slice 90,size:=1,bytes:=24,zero:=[.slice none 0 0] }),
 (82,{ d:=.struct [(0,4,1),(1,33,1)],size:=2,bytes:=32,zero:=[.bool false,.slice none 0 0] }),
 (83,{ d:=.struct [(0,4,1),(1,33,1)],size:=2,bytes:=32,zero:=[.bool false,.slice none 0 0] }),
 (84,{ d:=.struct [(0,83,2),(2,33,1)],size:=3,bytes:=56,zero:=[.bool false,.slice none 0 0,.slice none 0 0] }),
 (85,{ d:=.struct [(0,83,2),(2,33,1)],size:=3,bytes:=56,zero:=[.bool false,.slice none 0 0,.slice none 0 0] }),
 (88,{ d:=.struct [(0,4,1),(1,33,1)],size:=2,bytes:=32,zero:=[.bool false,.slice none 0 0] }),
 (89,{ d:=.struct [(0,88,2),(2,33,1)],size:=3,bytes:=56,zero:=[.bool false,.slice none 0 0,.slice none 0 0] }),
 (90,{ d:=.struct [(0,88,2),(2,33,1)],size:=3,bytes:=56,zero:=[.bool false,.slice none 0 0,.slice none 0 0] }),
 (109,{ d:=.struct [(0,90,3),(3,90,3)],size:=6,bytes:=112,zero:=[.bool false,.slice none 0 0,.slice none 0 0,.bool false,.slice none 0 0,.slice none 0 0] }),
 (110,{ d:=.struct [(0,90,3),(3,90,3)],size:=6,bytes:=112,zero:=[.bool false,.slice none 0 0,.slice none 0 0,.bool false,.slice none 0 0,.slice none 0 0] }),
 (129,{ d:=.struct [(0,3,1),(1,110,6)],size:=7,bytes:=120,zero:=[.int .i64 0,.bool false,.slice none 0 0,.slice none 0 0,.bool false,.slice none 0 0,.slice none 0 0] }),
 (130,{ d:=.struct [(0,3,1),(1,110,6)],size:=7,bytes:=120,zero:=[.int .i64 0,.bool false,.slice none 0 0,.slice none 0 0,.bool false,.slice none 0 0,.slice none 0 0] }),
 (137,{ d:=.slice 140,size:=1,bytes:=24,zero:=[.slice none 0 0] }),
 (139,{ d:=.struct [(0,39,2),(2,39,2),(4,3,1),(5,4,1)],size:=6,bytes:=48,zero:=[.int .i64 0,.int .i64 0,.int .i64 0,.int .i64 0,.int .i64 0,.bool false] }),
 (140,{ d:=.struct [(0,39,2),(2,39,2),(4,3,1),(5,4,1)],size:=6,bytes:=48,zero:=[.int .i64 0,.int .i64 0,.int .i64 0,.int .i64 0,.int .i64 0,.bool false] }),
 (152,{ d:=.struct [(0,90,3),(3,90,3),(6,90,3)],size:=9,bytes:=168,zero:=[.bool false,.slice none 0 0,.slice none 0 0,.bool false,.slice none 0 0,.slice none 0 0,.bool false,.slice none 0 0,.slice none 0 0] }),
 (153,{ d:=.struct [(0,90,3),(3,90,3),(6,90,3)],size:=9,bytes:=168,zero:=[.bool false,.slice none 0 0,.slice none 0 0,.bool false,.slice none 0 0,.slice none 0 0,.bool false,.slice none 0 0,.slice none 0 0] }),
 (157,{ d:=.struct [(0,90,3),(3,90,3),(6,90,3),(9,90,3),(12,90,3),(15,90,3)],size:=18,bytes:=336,zero:=[.bool false,.slice none 0 0,.slice none 0 0,.bool false,.slice none 0 0,.slice none 0 0,.bool false,.slice none 0 0,.slice none 0 0,.bool false,.slice none 0 0,.slice none 0 0,.bool false,.slice none 0 0,.slice none 0 0,.bool false,.slice none 0 0,.slice none 0 0] }),
 (158,{ d:=.struct [(0,90,3),(3,90,3),(6,90,3),(9,90,3),(12,90,3),(15,90,3)],size:=18,bytes:=336,zero:=[.bool false,.slice none 0 0,.slice none 0 0,.bool false,.slice none 0 0,.slice none 0 0,.bool false,.slice none 0 0,.slice none 0 0,.bool false,.slice none 0 0,.slice none 0 0,.bool false,.slice none 0 0,.slice none 0 0,.bool false,.slice none 0 0,.slice none 0 0] }),
 (160,{ d:=.struct [(0,85,3),(3,85,3),(6,85,3),(9,85,3),(12,85,3),(15,85,3)],size:=18,bytes:=336,zero:=[.bool false,.slice none 0 0,.slice none 0 0,.bool false,.slice none 0 0,.slice none 0 0,.bool false,.slice none 0 0,.slice none 0 0,.bool false,.slice none 0 0,.slice none 0 0,.bool false,.slice none 0 0,.slice none 0 0,.bool false,.slice none 0 0,.slice none 0 0] }),
 (161,{ d:=.struct [(0,85,3),(3,85,3),(6,85,3),(9,85,3),(12,85,3),(15,85,3)],size:=18,bytes:=336,zero:=[.bool false,.slice none 0 0,.slice none 0 0,.bool false,.slice none 0 0,.slice none 0 0,.bool false,.slice none 0 0,.slice none 0 0,.bool false,.slice none 0 0,.slice none 0 0,.bool false,.slice none 0 0,.slice none 0 0,.bool false,.slice none 0 0,.slice none 0 0] }),
 (163,{ d:=.struct [(0,85,3),(3,85,3),(6,85,3)],size:=9,bytes:=168,zero:=[.bool false,.slice none 0 0,.slice none 0 0,.bool false,.slice none 0 0,.slice none 0 0,.bool false,.slice none 0 0,.slice none 0 0] }),
 (164,{ d:=.struct [(0,85,3),(3,85,3),(6,85,3)],size:=9,bytes:=168,zero:=[.bool false,.slice none 0 0,.slice none 0 0,.bool false,.slice none 0 0,.slice none 0 0,.bool false,.slice none 0 0,.slice none 0 0] }),
 (167,{ d:=.struct [(0,3,1),(1,3,1)],size:=2,bytes:=16,zero:=[.int .i64 0,.int .i64 0],eqn:=2 }),
 (168,{ d:=.struct [(0,3,1),(1,3,1)],size:=2,bytes:=16,zero:=[.int .i64 0,.int .i64 0],eqn:=2 }),
 (172,{ d:=.struct [(0,3,1),(1,3,1)],size:=2,bytes:=16,zero:=[.int .i64 0,.int .i64 0],eqn:=2 }),
 (196,{ d:=.slice 198,size:=1,bytes:=24,zero:=[.slice none 0 0] }),
 (197,{ d:=.struct [(0,90,3),(3,90,3)],size:=6,bytes:=112,zero:=[.bool false,.slice none 0 0,.slice none 0 0,.bool false,.slice none 0 0,.slice none 0 0] }),
 (202,{ d:=.slice 204,size:=1,bytes:=24,zero:=[.slice none 0 0] }),
 (203,{ d:=.struct [(0,90,3),(3,90,3),(6,90,3)],size:=9,bytes:=168,zero:=[.bool false,.slice none 0 0,.slice none 0 0,.bool false,.slice none 0 0,.slice none 0 0,.bool false,.slice none 0 0,.slice none 0 0] }),
 (213,{ d:=.slice 216,size:=1,bytes:=24,zero:=[.slice none 0 0] }),
 (256,{ d:=.int .u64,size:=1,bytes:=8,zero:=[.int .u64 0] }),
 (271,{ d:=.slice 110,size:=1,bytes:=24,zero:=[.slice none 0 0] }),
 (282,{ d:=.int .u32,size:=1,bytes:=4,zero:=[.int .u32 0] }),
 (284,{ d:=.int .u64,size:=1,bytes:=8,zero:=[.int .u64 0] }),
 (311,{ d:=.float,size:=1,bytes:=8,zero:=[.float .f64 0] })]
theorem mixed:Tryz.prog.follows .mixedOrders=true:=by kernel_rfl
theorem tt2:TIok Tryz.prog 2 { d:=.int .i64,size:=1,bytes:=8,zero:=[.int .i64 0] }:=.mk' (by kernel_rfl) (by show Program.underlying _ _=_;kernel_rfl)
theorem tt3:TIok Tryz.prog 3 { d:=.int .i64,size:=1,bytes:=8,zero:=[.int .i64 0] }:=.mk' (by kernel_rfl) (by show Program.underlying _ _=_;kernel_rfl)
theorem tt4:TIok Tryz.prog 4 { d:=.bool,size:=1,bytes:=1,zero:=[.bool false] }:=.mk' (by kernel_rfl) (by show Program.underlying _ _=_;kernel_rfl)
theorem tt5:TIok Tryz.prog 5 { d:=.int .u8,size:=1,bytes:=1,zero:=[.int .u8 0] }:=.mk' (by kernel_rfl) (by show Program.underlying _ _=_;kernel_rfl)
theorem tt9:TIok Tryz.prog 9 { d:=.str,size:=1,bytes:=16,zero:=[.string ⟨#[]⟩] }:=.mk' (by kernel_rfl) (by show Program.underlying _ _=_;kernel_rfl)
theorem XM:TIok Tryz.prog 21 { d:=.int .i32,size:=1,bytes:=4,zero:=[.int .i32 0] }:=.mk' (by kernel_rfl) (by show Program.underlying _ _=_;kernel_rfl)
theorem XN:TIok Tryz.prog 22 { d:=.struct [(0,3,1),(1,3,1)],size:=2,bytes:=16,zero:=[.int .i64 0,.int .i64 0],eqn:=2 }:=.mk' (by kernel_rfl) (by exact AI (by kernel_rfl)) (λ _=>MC (ti:=3) (by kernel_rfl) (by kernel_rfl) (by kernel_rfl))
theorem XO:TIok Tryz.prog 23 { d:=.struct [(0,3,1),(1,3,1)],size:=2,bytes:=16,zero:=[.int .i64 0,.int .i64 0],eqn:=2 }:=.mk' (by kernel_rfl) (by exact AI (by kernel_rfl)) (λ _=>MC (ti:=3) (by kernel_rfl) (by kernel_rfl) (by kernel_rfl))
theorem XP:TIok Tryz.prog 24 { d:=.slice 23,size:=1,bytes:=24,zero:=[.slice none 0 0] }:=.mk' (by kernel_rfl) (by show Program.underlying _ _=_;kernel_rfl)
theorem XQ:TIok Tryz.prog 25 { d:=.slice 24,size:=1,bytes:=24,zero:=[.slice none 0 0] }:=.mk' (by kernel_rfl) (by show Program.underlying _ _=_;kernel_rfl)
theorem XR:TIok Tryz.prog 26 { d:=.struct [(0,23,2),(2,23,2),(4,24,1),(5,25,1),(6,24,1)],size:=7,bytes:=104,zero:=[.int .i64 0,.int .i64 0,.int .i64 0,.int .i64 0,.slice none 0 0,.slice none 0 0,.slice none 0 0] }:=.mk' (by kernel_rfl) (by exact AI (by kernel_rfl))
theorem XS:TIok Tryz.prog 27 { d:=.struct [(0,23,2),(2,23,2),(4,24,1),(5,25,1),(6,24,1)],size:=7,bytes:=104,zero:=[.int .i64 0,.int .i64 0,.int .i64 0,.int .i64 0,.slice none 0 0,.slice none 0 0,.slice none 0 0] }:=.mk' (by kernel_rfl) (by exact AI (by kernel_rfl))
theorem XT:TIok Tryz.prog 28 { d:=.struct [(0,23,2),(2,23,2)],size:=4,bytes:=32,zero:=[.int .i64 0,.int .i64 0,.int .i64 0,.int .i64 0] }:=.mk' (by kernel_rfl) (by exact AI (by kernel_rfl))
theorem XU:TIok Tryz.prog 29 { d:=.struct [(0,23,2),(2,23,2)],size:=4,bytes:=32,zero:=[.int .i64 0,.int .i64 0,.int .i64 0,.int .i64 0] }:=.mk' (by kernel_rfl) (by exact AI (by kernel_rfl))
theorem XV:TIok Tryz.prog 30 { d:=.slice 161,size:=1,bytes:=24,zero:=[.slice none 0 0] }:=.mk' (by kernel_rfl) (by show Program.underlying _ _=_;kernel_rfl)
theorem XW:TIok Tryz.prog 31 { d:=.slice 164,size:=1,bytes:=24,zero:=[.slice none 0 0] }:=.mk' (by kernel_rfl) (by show Program.underlying _ _=_;kernel_rfl)
theorem XX:TIok Tryz.prog 32 { d:=.slice 172,size:=1,bytes:=24,zero:=[.slice none 0 0] }:=.mk' (by kernel_rfl) (by show Program.underlying _ _=_;kernel_rfl)
theorem XY:TIok Tryz.prog 33 { d:=.slice 3,size:=1,bytes:=24,zero:=[.slice none 0 0] }:=.mk' (by kernel_rfl) (by show Program.underlying _ _=_;kernel_rfl)
theorem XZ:TIok Tryz.prog 34 { d:=.struct [(0,3,1),(1,4,1),(2,29,4),(6,25,1),(7,30,1),(8,31,1),(9,32,1),(10,33,1)],size:=11,bytes:=168,zero:=[.int .i64 0,.bool false,.int .i64 0,.int .i64 0,.int .i64 0,.int .i64 0,.slice none 0 0,.slice none 0 0,.slice none 0 0,.slice none 0 0,.slice none 0 0] }:=.mk' (by kernel_rfl) (by exact AI (by kernel_rfl))
theorem Xa:TIok Tryz.prog 35 { d:=.struct [(0,3,1),(1,4,1),(2,29,4),(6,25,1),(7,30,1),(8,31,1),(9,32,1),(10,33,1)],size:=11,bytes:=168,zero:=[.int .i64 0,.bool false,.int .i64 0,.int .i64 0,.int .i64 0,.int .i64 0,.slice none 0 0,.slice none 0 0,.slice none 0 0,.slice none 0 0,.slice none 0 0] }:=.mk' (by kernel_rfl) (by exact AI (by kernel_rfl))
theorem Xb:TIok Tryz.prog 39 { d:=.struct [(0,3,1),(1,3,1)],size:=2,bytes:=16,zero:=[.int .i64 0,.int .i64 0],eqn:=2 }:=.mk' (by kernel_rfl) (by exact AI (by kernel_rfl)) (λ _=>MC (ti:=3) (by kernel_rfl) (by kernel_rfl) (by kernel_rfl))
theorem Xc:TIok Tryz.prog 40 { d:=.slice 39,size:=1,bytes:=24,zero:=[.slice none 0 0] }:=.mk' (by kernel_rfl) (by show Program.underlying _ _=_;kernel_rfl)
theorem Xd:TIok Tryz.prog 41 { d:=.slice 40,size:=1,bytes:=24,zero:=[.slice none 0 0] }:=.mk' (by kernel_rfl) (by show Program.underlying _ _=_;kernel_rfl)
theorem Xe:TIok Tryz.prog 42 { d:=.struct [(0,39,2),(2,39,2),(4,40,1),(5,41,1),(6,40,1)],size:=7,bytes:=104,zero:=[.int .i64 0,.int .i64 0,.int .i64 0,.int .i64 0,.slice none 0 0,.slice none 0 0,.slice none 0 0] }:=.mk' (by kernel_rfl) (by exact AI (by kernel_rfl))
theorem Xf:TIok Tryz.prog 43 { d:=.struct [(0,39,2),(2,39,2),(4,40,1),(5,41,1),(6,40,1)],size:=7,bytes:=104,zero:=[.int .i64 0,.int .i64 0,.int .i64 0,.int .i64 0,.slice none 0 0,.slice none 0 0,.slice none 0 0] }:=.mk' (by kernel_rfl) (by exact AI (by kernel_rfl))
theorem Xg:TIok Tryz.prog 45 { d:=.struct [(0,39,2),(2,39,2)],size:=4,bytes:=32,zero:=[.int .i64 0,.int .i64 0,.int .i64 0,.int .i64 0] }:=.mk' (by kernel_rfl) (by exact AI (by kernel_rfl))
theorem Xh:TIok Tryz.prog 46 { d:=.struct [(0,39,2),(2,39,2)],size:=4,bytes:=32,zero:=[.int .i64 0,.int .i64 0,.int .i64 0,.int .i64 0] }:=.mk' (by kernel_rfl) (by exact AI (by kernel_rfl))
theorem Xi:TIok Tryz.prog 47 { d:=.slice 158,size:=1,bytes:=24,zero:=[.slice none 0 0] }:=.mk' (by kernel_rfl) (by show Program.underlying _ _=_;kernel_rfl)
theorem Xj:TIok Tryz.prog 48 { d:=.slice 153,size:=1,bytes:=24,zero:=[.slice none 0 0] }:=.mk' (by kernel_rfl) (by show Program.underlying _ _=_;kernel_rfl)
theorem Xk:TIok Tryz.prog 49 { d:=.slice 168,size:=1,bytes:=24,zero:=[.slice none 0 0] }:=.mk' (by kernel_rfl) (by show Program.underlying _ _=_;kernel_rfl)
theorem Xl:TIok Tryz.prog 50 { d:=.struct [(0,3,1),(1,4,1),(2,46,4),(6,41,1),(7,47,1),(8,48,1),(9,49,1),(10,33,1)],size:=11,bytes:=168,zero:=[.int .i64 0,.bool false,.int .i64 0,.int .i64 0,.int .i64 0,.int .i64 0,.slice none 0 0,.slice none 0 0,.slice none 0 0,.slice none 0 0,.slice none 0 0] }:=.mk' (by kernel_rfl) (by exact AI (by kernel_rfl))
theorem Xm:TIok Tryz.prog 51 { d:=.struct [(0,3,1),(1,4,1),(2,46,4),(6,41,1),(7,47,1),(8,48,1),(9,49,1),(10,33,1)],size:=11,bytes:=168,zero:=[.int .i64 0,.bool false,.int .i64 0,.int .i64 0,.int .i64 0,.int .i64 0,.slice none 0 0,.slice none 0 0,.slice none 0 0,.slice none 0 0,.slice none 0 0] }:=.mk' (by kernel_rfl) (by exact AI (by kernel_rfl))
theorem Xn:TIok Tryz.prog 60 { d:=.slice 35,size:=1,bytes:=24,zero:=[.slice none 0 0] }:=.mk' (by kernel_rfl) (by show Program.underlying _ _=_;kernel_rfl)
theorem Xo:TIok Tryz.prog 61 { d:=.slice 33,size:=1,bytes:=24,zero:=[.slice none 0 0] }:=.mk' (by kernel_rfl) (by show Program.underlying _ _=_;kernel_rfl)
theorem Xp:TIok Tryz.prog 62 { d:=.struct [(0,27,7),(7,60,1),(8,33,1),(9,61,1)],size:=10,bytes:=176,zero:=[.int .i64 0,.int .i64 0,.int .i64 0,.int .i64 0,.slice none 0 0,.slice none 0 0,.slice none 0 0,.slice none 0 0,.slice none 0 0,.slice none 0 0] }:=.mk' (by kernel_rfl) (by exact AI (by kernel_rfl))
theorem Xq:TIok Tryz.prog 63 { d:=.struct [(0,27,7),(7,60,1),(8,33,1),(9,61,1)],size:=10,bytes:=176,zero:=[.int .i64 0,.int .i64 0,.int .i64 0,.int .i64 0,.slice none 0 0,.slice none 0 0,.slice none 0 0,.slice none 0 0,.slice none 0 0,.slice none 0 0] }:=.mk' (by kernel_rfl) (by exact AI (by kernel_rfl))
theorem Xr:TIok Tryz.prog 66 { d:=.slice 51,size:=1,bytes:=24,zero:=[.slice none 0 0] }:=.mk' (by kernel_rfl) (by show Program.underlying _ _=_;kernel_rfl)
theorem Xs:TIok Tryz.prog 67 { d:=.struct [(0,43,7),(7,66,1),(8,33,1),(9,61,1)],size:=10,bytes:=176,zero:=[.int .i64 0,.int .i64 0,.int .i64 0,.int .i64 0,.slice none 0 0,.slice none 0 0,.slice none 0 0,.slice none 0 0,.slice none 0 0,.slice none 0 0] }:=.mk' (by kernel_rfl) (by exact AI (by kernel_rfl))
theorem Xt:TIok Tryz.prog 68 { d:=.struct [(0,43,7),(7,66,1),(8,33,1),(9,61,1)],size:=10,bytes:=176,zero:=[.int .i64 0,.int .i64 0,.int .i64 0,.int .i64 0,.slice none 0 0,.slice none 0 0,.slice none 0 0,.slice none 0 0,.slice none 0 0,.slice none 0 0] }:=.mk' (by kernel_rfl) (by exact AI (by kernel_rfl))
theorem Xu:TIok Tryz.prog 73 { d:=.slice 90,size:=1,bytes:=24,zero:=[.slice none 0 0] }:=.mk' (by kernel_rfl) (by show Program.underlying _ _=_;kernel_rfl)
theorem Xv:TIok Tryz.prog 82 { d:=.struct [(0,4,1),(1,33,1)],size:=2,bytes:=32,zero:=[.bool false,.slice none 0 0] }:=.mk' (by kernel_rfl) (by exact AI (by kernel_rfl))
theorem Xw:TIok Tryz.prog 83 { d:=.struct [(0,4,1),(1,33,1)],size:=2,bytes:=32,zero:=[.bool false,.slice none 0 0] }:=.mk' (by kernel_rfl) (by exact AI (by kernel_rfl))
theorem Xx:TIok Tryz.prog 84 { d:=.struct [(0,83,2),(2,33,1)],size:=3,bytes:=56,zero:=[.bool false,.slice none 0 0,.slice none 0 0] }:=.mk' (by kernel_rfl) (by exact AI (by kernel_rfl))
theorem Xy:TIok Tryz.prog 85 { d:=.struct [(0,83,2),(2,33,1)],size:=3,bytes:=56,zero:=[.bool false,.slice none 0 0,.slice none 0 0] }:=.mk' (by kernel_rfl) (by exact AI (by kernel_rfl))
theorem Xz:TIok Tryz.prog 88 { d:=.struct [(0,4,1),(1,33,1)],size:=2,bytes:=32,zero:=[.bool false,.slice none 0 0] }:=.mk' (by kernel_rfl) (by exact AI (by kernel_rfl))
theorem X0:TIok Tryz.prog 89 { d:=.struct [(0,88,2),(2,33,1)],size:=3,bytes:=56,zero:=[.bool false,.slice none 0 0,.slice none 0 0] }:=.mk' (by kernel_rfl) (by exact AI (by kernel_rfl))
theorem X1:TIok Tryz.prog 90 { d:=.struct [(0,88,2),(2,33,1)],size:=3,bytes:=56,zero:=[.bool false,.slice none 0 0,.slice none 0 0] }:=.mk' (by kernel_rfl) (by exact AI (by kernel_rfl))
theorem Wh:TIok Tryz.prog 109 { d:=.struct [(0,90,3),(3,90,3)],size:=6,bytes:=112,zero:=[.bool false,.slice none 0 0,.slice none 0 0,.bool false,.slice none 0 0,.slice none 0 0] }:=.mk' (by kernel_rfl) (by exact AI (by kernel_rfl))
theorem Wi:TIok Tryz.prog 110 { d:=.struct [(0,90,3),(3,90,3)],size:=6,bytes:=112,zero:=[.bool false,.slice none 0 0,.slice none 0 0,.bool false,.slice none 0 0,.slice none 0 0] }:=.mk' (by kernel_rfl) (by exact AI (by kernel_rfl))
theorem Wj:TIok Tryz.prog 129 { d:=.struct [(0,3,1),(1,110,6)],size:=7,bytes:=120,zero:=[.int .i64 0,.bool false,.slice none 0 0,.slice none 0 0,.bool false,.slice none 0 0,.slice none 0 0] }:=.mk' (by kernel_rfl) (by exact AI (by kernel_rfl))
theorem Wk:TIok Tryz.prog 130 { d:=.struct [(0,3,1),(1,110,6)],size:=7,bytes:=120,zero:=[.int .i64 0,.bool false,.slice none 0 0,.slice none 0 0,.bool false,.slice none 0 0,.slice none 0 0] }:=.mk' (by kernel_rfl) (by exact AI (by kernel_rfl))
theorem Wl:TIok Tryz.prog 137 { d:=.slice 140,size:=1,bytes:=24,zero:=[.slice none 0 0] }:=.mk' (by kernel_rfl) (by show Program.underlying _ _=_;kernel_rfl)
theorem Wm:TIok Tryz.prog 139 { d:=.struct [(0,39,2),(2,39,2),(4,3,1),(5,4,1)],size:=6,bytes:=48,zero:=[.int .i64 0,.int .i64 0,.int .i64 0,.int .i64 0,.int .i64 0,.bool false] }:=.mk' (by kernel_rfl) (by exact AI (by kernel_rfl))
theorem Wn:TIok Tryz.prog 140 { d:=.struct [(0,39,2),(2,39,2),(4,3,1),(5,4,1)],size:=6,bytes:=48,zero:=[.int .i64 0,.int .i64 0,.int .i64 0,.int .i64 0,.int .i64 0,.bool false] }:=.mk' (by kernel_rfl) (by exact AI (by kernel_rfl))
theorem Wo:TIok Tryz.prog 152 { d:=.struct [(0,90,3),(3,90,3),(6,90,3)],size:=9,bytes:=168,zero:=[.bool false,.slice none 0 0,.slice none 0 0,.bool false,.slice none 0 0,.slice none 0 0,.bool false,.slice none 0 0,.slice none 0 0] }:=.mk' (by kernel_rfl) (by exact AI (by kernel_rfl))
theorem Wp:TIok Tryz.prog 153 { d:=.struct [(0,90,3),(3,90,3),(6,90,3)],size:=9,bytes:=168,zero:=[.bool false,.slice none 0 0,.slice none 0 0,.bool false,.slice none 0 0,.slice none 0 0,.bool false,.slice none 0 0,.slice none 0 0] }:=.mk' (by kernel_rfl) (by exact AI (by kernel_rfl))
theorem Wq:TIok Tryz.prog 157 { d:=.struct [(0,90,3),(3,90,3),(6,90,3),(9,90,3),(12,90,3),(15,90,3)],size:=18,bytes:=336,zero:=[.bool false,.slice none 0 0,.slice none 0 0,.bool false,.slice none 0 0,.slice none 0 0,.bool false,.slice none 0 0,.slice none 0 0,.bool false,.slice none 0 0,.slice none 0 0,.bool false,.slice none 0 0,.slice none 0 0,.bool false,.slice none 0 0,.slice none 0 0] }:=.mk' (by kernel_rfl) (by exact AI (by kernel_rfl))
theorem Wr:TIok Tryz.prog 158 { d:=.struct [(0,90,3),(3,90,3),(6,90,3),(9,90,3),(12,90,3),(15,90,3)],size:=18,bytes:=336,zero:=[.bool false,.slice none 0 0,.slice none 0 0,.bool false,.slice none 0 0,.slice none 0 0,.bool false,.slice none 0 0,.slice none 0 0,.bool false,.slice none 0 0,.slice none 0 0,.bool false,.slice none 0 0,.slice none 0 0,.bool false,.slice none 0 0,.slice none 0 0] }:=.mk' (by kernel_rfl) (by exact AI (by kernel_rfl))
theorem Ws:TIok Tryz.prog 160 { d:=.struct [(0,85,3),(3,85,3),(6,85,3),(9,85,3),(12,85,3),(15,85,3)],size:=18,bytes:=336,zero:=[.bool false,.slice none 0 0,.slice none 0 0,.bool false,.slice none 0 0,.slice none 0 0,.bool false,.slice none 0 0,.slice none 0 0,.bool false,.slice none 0 0,.slice none 0 0,.bool false,.slice none 0 0,.slice none 0 0,.bool false,.slice none 0 0,.slice none 0 0] }:=.mk' (by kernel_rfl) (by exact AI (by kernel_rfl))
theorem Wt:TIok Tryz.prog 161 { d:=.struct [(0,85,3),(3,85,3),(6,85,3),(9,85,3),(12,85,3),(15,85,3)],size:=18,bytes:=336,zero:=[.bool false,.slice none 0 0,.slice none 0 0,.bool false,.slice none 0 0,.slice none 0 0,.bool false,.slice none 0 0,.slice none 0 0,.bool false,.slice none 0 0,.slice none 0 0,.bool false,.slice none 0 0,.slice none 0 0,.bool false,.slice none 0 0,.slice none 0 0] }:=.mk' (by kernel_rfl) (by exact AI (by kernel_rfl))
theorem Wu:TIok Tryz.prog 163 { d:=.struct [(0,85,3),(3,85,3),(6,85,3)],size:=9,bytes:=168,zero:=[.bool false,.slice none 0 0,.slice none 0 0,.bool false,.slice none 0 0,.slice none 0 0,.bool false,.slice none 0 0,.slice none 0 0] }:=.mk' (by kernel_rfl) (by exact AI (by kernel_rfl))
theorem Wv:TIok Tryz.prog 164 { d:=.struct [(0,85,3),(3,85,3),(6,85,3)],size:=9,bytes:=168,zero:=[.bool false,.slice none 0 0,.slice none 0 0,.bool false,.slice none 0 0,.slice none 0 0,.bool false,.slice none 0 0,.slice none 0 0] }:=.mk' (by kernel_rfl) (by exact AI (by kernel_rfl))
theorem Ww:TIok Tryz.prog 167 { d:=.struct [(0,3,1),(1,3,1)],size:=2,bytes:=16,zero:=[.int .i64 0,.int .i64 0],eqn:=2 }:=.mk' (by kernel_rfl) (by exact AI (by kernel_rfl)) (λ _=>MC (ti:=3) (by kernel_rfl) (by kernel_rfl) (by kernel_rfl))
theorem Wx:TIok Tryz.prog 168 { d:=.struct [(0,3,1),(1,3,1)],size:=2,bytes:=16,zero:=[.int .i64 0,.int .i64 0],eqn:=2 }:=.mk' (by kernel_rfl) (by exact AI (by kernel_rfl)) (λ _=>MC (ti:=3) (by kernel_rfl) (by kernel_rfl) (by kernel_rfl))
theorem Wy:TIok Tryz.prog 172 { d:=.struct [(0,3,1),(1,3,1)],size:=2,bytes:=16,zero:=[.int .i64 0,.int .i64 0],eqn:=2 }:=.mk' (by kernel_rfl) (by exact AI (by kernel_rfl)) (λ _=>MC (ti:=3) (by kernel_rfl) (by kernel_rfl) (by kernel_rfl))
theorem Wz:TIok Tryz.prog 196 { d:=.slice 198,size:=1,bytes:=24,zero:=[.slice none 0 0] }:=.mk' (by kernel_rfl) (by show Program.underlying _ _=_;kernel_rfl)
theorem W0:TIok Tryz.prog 197 { d:=.struct [(0,90,3),(3,90,3)],size:=6,bytes:=112,zero:=[.bool false,.slice none 0 0,.slice none 0 0,.bool false,.slice none 0 0,.slice none 0 0] }:=.mk' (by kernel_rfl) (by exact AI (by kernel_rfl))
theorem W1:TIok Tryz.prog 202 { d:=.slice 204,size:=1,bytes:=24,zero:=[.slice none 0 0] }:=.mk' (by kernel_rfl) (by show Program.underlying _ _=_;kernel_rfl)
theorem W2:TIok Tryz.prog 203 { d:=.struct [(0,90,3),(3,90,3),(6,90,3)],size:=9,bytes:=168,zero:=[.bool false,.slice none 0 0,.slice none 0 0,.bool false,.slice none 0 0,.slice none 0 0,.bool false,.slice none 0 0,.slice none 0 0] }:=.mk' (by kernel_rfl) (by exact AI (by kernel_rfl))
theorem W3:TIok Tryz.prog 213 { d:=.slice 216,size:=1,bytes:=24,zero:=[.slice none 0 0] }:=.mk' (by kernel_rfl) (by show Program.underlying _ _=_;kernel_rfl)
theorem W4:TIok Tryz.prog 256 { d:=.int .u64,size:=1,bytes:=8,zero:=[.int .u64 0] }:=.mk' (by kernel_rfl) (by show Program.underlying _ _=_;kernel_rfl)
theorem W5:TIok Tryz.prog 271 { d:=.slice 110,size:=1,bytes:=24,zero:=[.slice none 0 0] }:=.mk' (by kernel_rfl) (by show Program.underlying _ _=_;kernel_rfl)
theorem W6:TIok Tryz.prog 282 { d:=.int .u32,size:=1,bytes:=4,zero:=[.int .u32 0] }:=.mk' (by kernel_rfl) (by show Program.underlying _ _=_;kernel_rfl)
theorem W7:TIok Tryz.prog 284 { d:=.int .u64,size:=1,bytes:=8,zero:=[.int .u64 0] }:=.mk' (by kernel_rfl) (by show Program.underlying _ _=_;kernel_rfl)
theorem W8:TIok Tryz.prog 311 { d:=.float,size:=1,bytes:=8,zero:=[.float .f64 0] }:=.mk' (by kernel_rfl) (by show Program.underlying _ _=_;kernel_rfl)
theorem AN:TTok Tryz.prog tt:=(TTok.cons tt2 (TTok.cons tt3 (TTok.cons tt4 (TTok.cons tt5 (TTok.cons tt9 (TTok.cons XM (TTok.cons XN (TTok.cons XO (TTok.cons XP (TTok.cons XQ (TTok.cons XR (TTok.cons XS (TTok.cons XT (TTok.cons XU (TTok.cons XV (TTok.cons XW (TTok.cons XX (TTok.cons XY (TTok.cons XZ (TTok.cons Xa (TTok.cons Xb (TTok.cons Xc (TTok.cons Xd (TTok.cons Xe (TTok.cons Xf (TTok.cons Xg (TTok.cons Xh (TTok.cons Xi (TTok.cons Xj (TTok.cons Xk (TTok.cons Xl (TTok.cons Xm (TTok.cons Xn (TTok.cons Xo (TTok.cons Xp (TTok.cons Xq (TTok.cons Xr (TTok.cons Xs (TTok.cons Xt (TTok.cons Xu (TTok.cons Xv (TTok.cons Xw (TTok.cons Xx (TTok.cons Xy (TTok.cons Xz (TTok.cons X0 (TTok.cons X1 (TTok.cons Wh (TTok.cons Wi (TTok.cons Wj (TTok.cons Wk (TTok.cons Wl (TTok.cons Wm (TTok.cons Wn (TTok.cons Wo (TTok.cons Wp (TTok.cons Wq (TTok.cons Wr (TTok.cons Ws (TTok.cons Wt (TTok.cons Wu (TTok.cons Wv (TTok.cons Ww (TTok.cons Wx (TTok.cons Wy (TTok.cons Wz (TTok.cons W0 (TTok.cons W1 (TTok.cons W2 (TTok.cons W3 (TTok.cons W4 (TTok.cons W5 (TTok.cons W6 (TTok.cons W7 (TTok.cons W8 (TTok.nil _))))))))))))))))))))))))))))))))))))))))))))))))))))))))))))))))))))))))))))
abbrev w28 (r:List Dat):DA:=.agg [cI (r.getD 0 (.int 0)).n,cI (r.getD 1 (.int 0)).n,cI (r.getD 2 (.int 0)).n,cI (r.getD 3 (.int 0)).n]
abbrev z84:List Ty:=[.bool,.sl 3 [.int],.sl 3 [.int]]
abbrev Ko:List Ty:=[.int,.int,.int,.int,.int,.bool]
abbrev X2:List Ty:=[.bool,.sl 3 [.int],.sl 3 [.int],.bool,.sl 3 [.int],.sl 3 [.int],.bool,.sl 3 [.int],.sl 3 [.int]]
abbrev X3:List Ty:=[.bool,.sl 3 [.int],.sl 3 [.int],.bool,.sl 3 [.int],.sl 3 [.int],.bool,.sl 3 [.int],.sl 3 [.int],.bool,.sl 3 [.int],.sl 3 [.int],.bool,.sl 3 [.int],.sl 3 [.int],.bool,.sl 3 [.int],.sl 3 [.int]]
abbrev z50:List Ty:=[.int,.bool,.int,.int,.int,.int,.sl 40 [.sl 39 [.int,.int]],.sl 158 X3,.sl 153 X2,.sl 168 [.int,.int],.sl 3 [.int]]
end Go.Proofs.YtmedodfenejimaaGreat
