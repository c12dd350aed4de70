import Derived.Test.YtmedodfenejimaaGreatTpExC
import Derived.Test.YtmedodfenejimaaGreatProg
import Derived.KernelRfl
namespace Go.Proofs.YtmedodfenejimaaGreat
set_option linter.unusedVariables false
set_option linter.unusedSimpArgs false
open Go.RowKit
theorem TIok.mk' {P:Program} {t:Nat} {i:TI} (h1:(P.info? t).map (λ i=>(i.size,i.bytes,i.zero.map (·.cells)))=some (i.size,i.bytes,some i.zero.toArray)) (h2:i.d.fits P t) (h3:i.eqn≠0->ZC P t i.eqn:=by intro h;exact absurd rfl h):TIok P t i:=by
 refine ⟨?_,h2,h3⟩
 cases h:P.info? t with
 | none=>rw [h] at h1;cases h1
 | some inf=>
  rw [h] at h1
  simp only [Option.map_some,Option.some.injEq,Prod.mk.injEq] at h1
  exact ⟨inf,rfl,h1.1,h1.2.1,h1.2.2⟩
theorem AN {P:Program} {t:Nat} {fs:List (Nat×Nat×Nat)} (h:(match P.underlying t with|some (.struct fl)=>some (fl.toList.map (λ f=>(f.offset,f.type)),fl.toList.mapM (λ f=>(P.info? f.type).map λ i=>(f.offset,i.size)))|_=>none)=some (fs.map (λ x=>(x.1,x.2.1)),some (fs.map λ x=>(x.1,x.2.2)))):TD.fits P t (.struct fs):=by
 simp only [TD.fits]
 split at h
 ·rename_i fl hu
  simp only [Option.some.injEq,Prod.mk.injEq] at h
  exact ⟨fl,hu,h.1,h.2⟩
 ·cases h
theorem Ob {P:Program} {t ti:Nat} (h:(match P.underlying t with|some (.struct fl)=>some (fl.toList.map λ f=>(f.offset,f.type,f.name == "_"))|_=>none)=some [(0,ti,false),(1,ti,false)])
  (hi:P.underlying ti=some (.int .i64)) (hs:(P.eqGuardType P.depth t,P.stoodInHeld t)=(false,false)):ZC P t 2:=by
 simp only [Prod.mk.injEq] at hs
 obtain ⟨g1,g2⟩:=hs
 refine ⟨g1,λ w xs ys hx hy=>?_⟩
 split at h
 ·rename_i fl hu
  simp only [Option.some.injEq] at h
  obtain ⟨f0,f1,hfl⟩:∃ f0 f1,fl.toList=[f0,f1]:=by
   have hl:=congrArg List.length h
   simp only [List.length_map,List.length_cons,List.length_nil] at hl
   match hq:fl.toList,hl with
   | [a,b],_=>exact ⟨a,b,rfl⟩
  rw [hfl] at h
  simp only [List.map_cons,List.map_nil,List.cons.injEq,Prod.mk.injEq,and_true] at h
  obtain ⟨⟨a1,a2,a3⟩,b1,b2,b3⟩:=h
  match xs,hx,ys,hy with
  | [x0,x1],_,[y0,y1],_=>
  have hag:(Go.isAgg ti).run P w=.ok false w:=by simp [Go.isAgg,Go.underlying,program,Sem.run,hi]
  have hp0:∀ (u v:Int),(Go.part ti #[Value.int .i64 u,Value.int .i64 v] 0).run P w=.ok (.int .i64 u) w:=by intro u v;simp [Go.part,hag]
  have hp1:∀ (u v:Int),(Go.part ti #[Value.int .i64 u,Value.int .i64 v] 1).run P w=.ok (.int .i64 v) w:=by intro u v;simp [Go.part,hag]
  have he:∀ a b:Int,(Op.equalIn 9999 ti (.int .i64 a) (.int .i64 b)).run P w=.ok (a == b) w:=by
   intro a b
   show (Op.equalIn (9998+1) ti (.int .i64 a) (.int .i64 b)).run P w=_
   rw [Op.equalIn]
   simp only [Sem.run_bind,Ak hi,Result.andThen_ok]
   simp
  have n0:¬ f0.name = "_" := by simpa using a3
  have n1:¬ f1.name = "_" := by simpa using b3
  have hfa:fl=#[f0,f1]:=Array.ext' hfl
  show (Op.equalIn (9999+1) t _ _).run P w=_
  rw [Op.equalIn]
  subst hfa
  simp only [Sem.run_bind,Ak hu,Result.andThen_ok]
  by_cases e0:x0=y0
  ·by_cases e1:x1=y1
   ·simp [program,Sem.run,g2,n0,n1,a1,a2,b1,b2,hp0,hp1,he,e0,e1]
   ·simp [program,Sem.run,g2,n0,n1,a1,a2,b1,b2,hp0,hp1,he,e0,e1]
  ·simp [program,Sem.run,g2,n0,n1,a1,a2,b1,b2,hp0,hp1,he,e0]
 ·cases h
def tt:TT:=[(2,{ d:=.int .i64,size:=1,bytes:=8,zero:=[.int .i64 0] }),
 (3,{ d:=.int .i64,size:=1,bytes:=8,zero:=[.int .i64 0] }),
 (4,{ d:=.bool,size:=1,bytes:=1,zero:=[.bool false] }),
 (5,{ d:=.int .u8,size:=1,bytes:=1,zero:=[.int .u8 0] }),
 (9,{ d:=.str,size:=1,bytes:=16,zero:=[.string ⟨#[]⟩] }),
 (21,{ d:=.int .i32,size:=1,bytes:=4,zero:=[.int .i32 0] }),
 (22,{ d:=.struct [(0,3,1),(1,3,1)],size:=2,bytes:=16,zero:=[.int .i64 0,.int .i64 0],eqn:=2 }),
 (23,{ d:=.struct [(0,3,1),(1,3,1)],size:=2,bytes:=16,zero:=[.int .i64 0,.int .i64 0],eqn:=2 }),
 (24,{ d:=.slice 23,size:=1,bytes:=24,zero:=[.slice none 0 0] }),
 (25,{ d:=.slice 24,size:=1,bytes:=24,zero:=[.slice none 0 0] }),
 (26,{ d:=.struct [(0,23,2),(2,23,2),(4,24,1),(5,25,1),(6,24,1)],size:=7,bytes:=104,zero:=[.int .i64 0,.int .i64 0,.int .i64 0,.int .i64 0,.slice none 0 0,.slice none 0 0,.slice none 0 0] }),
 (27,{ d:=.struct [(0,23,2),(2,23,2),(4,24,1),(5,25,1),(6,24,1)],size:=7,bytes:=104,zero:=[.int .i64 0,.int .i64 0,.int .i64 0,.int .i64 0,.slice none 0 0,.slice none 0 0,.slice none 0 0] }),
 (28,{ d:=.struct [(0,23,2),(2,23,2)],size:=4,bytes:=32,zero:=[.int .i64 0,.int .i64 0,.int .i64 0,.int .i64 0] }),
 (29,{ d:=.struct [(0,23,2),(2,23,2)],size:=4,bytes:=32,zero:=[.int .i64 0,.int .i64 0,.int .i64 0,.int .i64 0] }),
 (30,{ d:=.slice 161,size:=1,bytes:=24,zero:=[.slice none 0 0] }),
 (31,{ d:=.slice 164,size:=1,bytes:=24,zero:=[.slice none 0 0] }),
 (32,{ d:=.slice 172,size:=1,bytes:=24,zero:=[.slice none 0 0] }),
 (33,{ d:=.slice 3,size:=1,bytes:=24,zero:=[.slice none 0 0] }),
 (34,{ d:=.struct [(0,3,1),(1,4,1),(2,29,4),(6,25,1),(7,30,1),(8,31,1),(9,32,1),(10,33,1)],size:=11,bytes:=168,zero:=[.int .i64 0,.bool false,.int .i64 0,.int .i64 0,.int .i64 0,.int .i64 0,.slice none 0 0,.slice none 0 0,.slice none 0 0,.slice none 0 0,.slice none 0 0] }),
 (35,{ d:=.struct [(0,3,1),(1,4,1),(2,29,4),(6,25,1),(7,30,1),(8,31,1),(9,32,1),(10,33,1)],size:=11,bytes:=168,zero:=[.int .i64 0,.bool false,.int .i64 0,.int .i64 0,.int .i64 0,.int .i64 0,.slice none 0 0,.slice none 0 0,.slice none 0 0,.slice none 0 0,.slice none 0 0] }),
 (39,{ d:=.struct [(0,3,1),(1,3,1)],size:=2,bytes:=16,zero:=[.int .i64 0,.int .i64 0],eqn:=2 }),
 (40,{ d:=.slice 39,size:=1,bytes:=24,zero:=[.slice none 0 0] }),
 (41,{ d:=.slice 40,size:=1,bytes:=24,zero:=[.slice none 0 0] }),
 (42,{ d:=.struct [(0,39,2),(2,39,2),(4,40,1),(5,41,1),(6,40,1)],size:=7,bytes:=104,zero:=[.int .i64 0,.int .i64 0,.int .i64 0,.int .i64 0,.slice none 0 0,.slice none 0 0,.slice none 0 0] }),
 (43,{ d:=.struct [(0,39,2),(2,39,2),(4,40,1),(5,41,1),(6,40,1)],size:=7,bytes:=104,zero:=[.int .i64 0,.int .i64 0,.int .i64 0,.int .i64 0,.slice none 0 0,.slice none 0 0,.slice none 0 0] }),
 (45,{ d:=.struct [(0,39,2),(2,39,2)],size:=4,bytes:=32,zero:=[.int .i64 0,.int .i64 0,.int .i64 0,.int .i64 0] }),
 (46,{ d:=.struct [(0,39,2),(2,39,2)],size:=4,bytes:=32,zero:=[.int .i64 0,.int .i64 0,.int .i64 0,.int .i64 0] }),
 (47,{ d:=.slice 158,size:=1,bytes:=24,zero:=[.slice none 0 0] }),
 (48,{ d:=.slice 153,size:=1,bytes:=24,zero:=[.slice none 0 0] }),
 (49,{ d:=.slice 168,size:=1,bytes:=24,zero:=[.slice none 0 0] }),
 (50,{ d:=.struct [(0,3,1),(1,4,1),(2,46,4),(6,41,1),(7,47,1),(8,48,1),(9,49,1),(10,33,1)],size:=11,bytes:=168,zero:=[.int .i64 0,.bool false,.int .i64 0,.int .i64 0,.int .i64 0,.int .i64 0,.slice none 0 0,.slice none 0 0,.slice none 0 0,.slice none 0 0,.slice none 0 0] }),
 (51,{ d:=.struct [(0,3,1),(1,4,1),(2,46,4),(6,41,1),(7,47,1),(8,48,1),(9,49,1),(10,33,1)],size:=11,bytes:=168,zero:=[.int .i64 0,.bool false,.int .i64 0,.int .i64 0,.int .i64 0,.int .i64 0,.slice none 0 0,.slice none 0 0,.slice none 0 0,.slice none 0 0,.slice none 0 0] }),
 (60,{ d:=.slice 35,size:=1,bytes:=24,zero:=[.slice none 0 0] }),
 (61,{ d:=.slice 33,size:=1,bytes:=24,zero:=[.slice none 0 0] }),
 (62,{ d:=.struct [(0,27,7),(7,60,1),(8,33,1),(9,61,1)],size:=10,bytes:=176,zero:=[.int .i64 0,.int .i64 0,.int .i64 0,.int .i64 0,.slice none 0 0,.slice none 0 0,.slice none 0 0,.slice none 0 0,.slice none 0 0,.slice none 0 0] }),
 (63,{ d:=.struct [(0,27,7),(7,60,1),(8,33,1),(9,61,1)],size:=10,bytes:=176,zero:=[.int .i64 0,.int .i64 0,.int .i64 0,.int .i64 0,.slice none 0 0,.slice none 0 0,.slice none 0 0,.slice none 0 0,.slice none 0 0,.slice none 0 0] }),
 (66,{ d:=.slice 51,size:=1,bytes:=24,zero:=[.slice none 0 0] }),
 (67,{ d:=.struct [(0,43,7),(7,66,1),(8,33,1),(9,61,1)],size:=10,bytes:=176,zero:=[.int .i64 0,.int .i64 0,.int .i64 0,.int .i64 0,.slice none 0 0,.slice none 0 0,.slice none 0 0,.slice none 0 0,.slice none 0 0,.slice none 0 0] }),
 (68,{ d:=.struct [(0,43,7),(7,66,1),(8,33,1),(9,61,1)],size:=10,bytes:=176,zero:=[.int .i64 0,.int .i64 0,.int .i64 0,.int .i64 0,.slice none 0 0,.slice none 0 0,.slice none 0 0,.slice none 0 0,.slice none 0 0,.slice none 0 0] }),
 (73,{ d:=.slice 90,size:=1,bytes:=24,zero:=[.slice none 0 0] }),
 (82,{ d:=.struct [(0,4,1),(1,33,1)],size:=2,bytes:=32,zero:=[.bool false,.slice none 0 0] }),
 (83,{ d:=.struct [(0,4,1),(1,33,1)],size:=2,bytes:=32,zero:=[.bool false,.slice none 0 0] }),
 (84,{ d:=.struct [(0,83,2),(2,33,1)],size:=3,bytes:=56,zero:=[.bool false,.slice none 0 0,.slice none 0 0] }),
 (85,{ d:=.struct [(0,83,2),(2,33,1)],size:=3,bytes:=56,zero:=[.bool false,.slice none 0 0,.slice none 0 0] }),
 (88,{ d:=.struct [(0,4,1),(1,33,1)],size:=2,bytes:=32,zero:=[.bool false,.slice none 0 0] }),
 (89,{ d:=.struct [(0,88,2),(2,33,1)],size:=3,bytes:=56,zero:=[.bool false,.slice none 0 0,.slice none 0 0] }),
 (90,{ d:=.struct [(0,88,2),(2,33,1)],size:=3,bytes:=56,zero:=[.bool false,.slice none 0 0,.slice none 0 0] }),
 (109,{ d:=.struct [(0,90,3),(3,90,3)],size:=6,bytes:=112,zero:=[.bool false,.slice none 0 0,.slice none 0 0,.bool false,.slice none 0 0,.slice none 0 0] }),
 (110,{ d:=.struct [(0,90,3),(3,90,3)],size:=6,bytes:=112,zero:=[.bool false,.slice none 0 0,.slice none 0 0,.bool false,.slice none 0 0,.slice none 0 0] }),
 (129,{ d:=.struct [(0,3,1),(1,110,6)],size:=7,bytes:=120,zero:=[.int .i64 0,.bool false,.slice none 0 0,.slice none 0 0,.bool false,.slice none 0 0,.slice none 0 0] }),
 (130,{ d:=.struct [(0,3,1),(1,110,6)],size:=7,bytes:=120,zero:=[.int .i64 0,.bool false,.slice none 0 0,.slice none 0 0,.bool false,.slice none 0 0,.slice none 0 0] }),
 (137,{ d:=.slice 140,size:=1,bytes:=24,zero:=[.slice none 0 0] }),
 (139,{ d:=.struct [(0,39,2),(2,39,2),(4,3,1),(5,4,1)],size:=6,bytes:=48,zero:=[.int .i64 0,.int .i64 0,.int .i64 0,.int .i64 0,.int .i64 0,.bool false] }),
 (140,{ d:=.struct [(0,39,2),(2,39,2),(4,3,1),(5,4,1)],size:=6,bytes:=48,zero:=[.int .i64 0,.int .i64 0,.int .i64 0,.int .i64 0,.int .i64 0,.bool false] }),
 (152,{ d:=.struct [(0,90,3),(3,90,3),(6,90,3)],size:=9,bytes:=168,zero:=[.bool false,.slice none 0 0,.slice none 0 0,.bool false,.slice none 0 0,.slice none 0 0,.bool false,.slice none 0 0,.slice none 0 0] }),
 (153,{ d:=.struct [(0,90,3),(3,90,3),(6,90,3)],size:=9,bytes:=168,zero:=[.bool false,.slice none 0 0,.slice none 0 0,.bool false,.slice none 0 0,.slice none 0 0,.bool false,.slice none 0 0,.slice none 0 0] }),
 (157,{ d:=.struct [(0,90,3),(3,90,3),(6,90,3),(9,90,3),(12,90,3),(15,90,3)],size:=18,bytes:=336,zero:=[.bool false,.slice none 0 0,.slice none 0 0,.bool false,.slice none 0 0,.slice none 0 0,.bool false,.slice none 0 0,.slice none 0 0,.bool false,.slice none 0 0,.slice none 0 0,.bool false,.slice none 0 0,.slice none 0 0,.bool false,.slice none 0 0,.slice none 0 0] }),
 (158,{ d:=.struct [(0,90,3),(3,90,3),(6,90,3),(9,90,3),(12,90,3),(15,90,3)],size:=18,bytes:=336,zero:=[.bool false,.slice none 0 0,.slice none 0 0,.bool false,.slice none 0 0,.slice none 0 0,.bool false,.slice none 0 0,.slice none 0 0,.bool false,.slice none 0 0,.slice none 0 0,.bool false,.slice none 0 0,.slice none 0 0,.bool false,.slice none 0 0,.slice none 0 0] }),
 (160,{ d:=.struct [(0,85,3),(3,85,3),(6,85,3),(9,85,3),(12,85,3),(15,85,3)],size:=18,bytes:=336,zero:=[.bool false,.slice none 0 0,.slice none 0 0,.bool false,.slice none 0 0,.slice none 0 0,.bool false,.slice none 0 0,.slice none 0 0,.bool false,.slice none 0 0,.slice none 0 0,.bool false,.slice none 0 0,.slice none 0 0,.bool false,.slice none 0 0,.slice none 0 0] }),
 (161,{ d:=.struct [(0,85,3),(3,85,3),(6,85,3),(9,85,3),(12,85,3),(15,85,3)],size:=18,bytes:=336,zero:=[.bool false,.slice none 0 0,.slice none 0 0,.bool false,.slice none 0 0,.slice none 0 0,.bool false,.slice none 0 0,.slice none 0 0,.bool false,.slice none 0 0,.slice none 0 0,.bool false,.slice none 0 0,.slice none 0 0,.bool false,.slice none 0 0,.slice none 0 0] }),
 (163,{ d:=.struct [(0,85,3),(3,85,3),(6,85,3)],size:=9,bytes:=168,zero:=[.bool false,.slice none 0 0,.slice none 0 0,.bool false,.slice none 0 0,.slice none 0 0,.bool false,.slice none 0 0,.slice none 0 0] }),
 (164,{ d:=.struct [(0,85,3),(3,85,3),(6,85,3)],size:=9,bytes:=168,zero:=[.bool false,.slice none 0 0,.slice none 0 0,.bool false,.slice none 0 0,.slice none 0 0,.bool false,.slice none 0 0,.slice none 0 0] }),
 (167,{ d:=.struct [(0,3,1),(1,3,1)],size:=2,bytes:=16,zero:=[.int .i64 0,.int .i64 0],eqn:=2 }),
 (168,{ d:=.struct [(0,3,1),(1,3,1)],size:=2,bytes:=16,zero:=[.int .i64 0,.int .i64 0],eqn:=2 }),
 (172,{ d:=.struct [(0,3,1),(1,3,1)],size:=2,bytes:=16,zero:=[.int .i64 0,.int .i64 0],eqn:=2 }),
 (196,{ d:=.slice 198,size:=1,bytes:=24,zero:=[.slice none 0 0] }),
 (197,{ d:=.struct [(0,90,3),(3,90,3)],size:=6,bytes:=112,zero:=[.bool false,.slice none 0 0,.slice none 0 0,.bool false,.slice none 0 0,.slice none 0 0] }),
 (202,{ d:=.slice 204,size:=1,bytes:=24,zero:=[.slice none 0 0] }),
 (203,{ d:=.struct [(0,90,3),(3,90,3),(6,90,3)],size:=9,bytes:=168,zero:=[.bool false,.slice none 0 0,.slice none 0 0,.bool false,.slice none 0 0,.slice none 0 0,.bool false,.slice none 0 0,.slice none 0 0] }),
 (213,{ d:=.slice 216,size:=1,bytes:=24,zero:=[.slice none 0 0] }),
 (256,{ d:=.int .u64,size:=1,bytes:=8,zero:=[.int .u64 0] }),
 (271,{ d:=.slice 110,size:=1,bytes:=24,zero:=[.slice none 0 0] }),
 (282,{ d:=.int .u32,size:=1,bytes:=4,zero:=[.int .u32 0] }),
 (284,{ d:=.int .u64,size:=1,bytes:=8,zero:=[.int .u64 0] }),
 (311,{ d:=.float,size:=1,bytes:=8,zero:=[.float .f64 0] })]
theorem AI:Tryz.prog.follows .mixedOrders=true:=by kernel_rfl
theorem tt2:TIok Tryz.prog 2 { d:=.int .i64,size:=1,bytes:=8,zero:=[.int .i64 0] }:=.mk' (by kernel_rfl) (by show Program.underlying _ _=_;kernel_rfl)
theorem tt3:TIok Tryz.prog 3 { d:=.int .i64,size:=1,bytes:=8,zero:=[.int .i64 0] }:=.mk' (by kernel_rfl) (by show Program.underlying _ _=_;kernel_rfl)
theorem tt4:TIok Tryz.prog 4 { d:=.bool,size:=1,bytes:=1,zero:=[.bool false] }:=.mk' (by kernel_rfl) (by show Program.underlying _ _=_;kernel_rfl)
theorem tt5:TIok Tryz.prog 5 { d:=.int .u8,size:=1,bytes:=1,zero:=[.int .u8 0] }:=.mk' (by kernel_rfl) (by show Program.underlying _ _=_;kernel_rfl)
theorem tt9:TIok Tryz.prog 9 { d:=.str,size:=1,bytes:=16,zero:=[.string ⟨#[]⟩] }:=.mk' (by kernel_rfl) (by show Program.underlying _ _=_;kernel_rfl)
theorem AAg:TIok Tryz.prog 21 { d:=.int .i32,size:=1,bytes:=4,zero:=[.int .i32 0] }:=.mk' (by kernel_rfl) (by show Program.underlying _ _=_;kernel_rfl)
theorem AAh:TIok Tryz.prog 22 { d:=.struct [(0,3,1),(1,3,1)],size:=2,bytes:=16,zero:=[.int .i64 0,.int .i64 0],eqn:=2 }:=.mk' (by kernel_rfl) (by exact AN (by kernel_rfl)) (λ _=>Ob (ti:=3) (by kernel_rfl) (by kernel_rfl) (by kernel_rfl))
theorem AAi:TIok Tryz.prog 23 { d:=.struct [(0,3,1),(1,3,1)],size:=2,bytes:=16,zero:=[.int .i64 0,.int .i64 0],eqn:=2 }:=.mk' (by kernel_rfl) (by exact AN (by kernel_rfl)) (λ _=>Ob (ti:=3) (by kernel_rfl) (by kernel_rfl) (by kernel_rfl))
theorem AAj:TIok Tryz.prog 24 { d:=.slice 23,size:=1,bytes:=24,zero:=[.slice none 0 0] }:=.mk' (by kernel_rfl) (by show Program.underlying _ _=_;kernel_rfl)
theorem AAk:TIok Tryz.prog 25 { d:=.slice 24,size:=1,bytes:=24,zero:=[.slice none 0 0] }:=.mk' (by kernel_rfl) (by show Program.underlying _ _=_;kernel_rfl)
theorem AAl:TIok Tryz.prog 26 { d:=.struct [(0,23,2),(2,23,2),(4,24,1),(5,25,1),(6,24,1)],size:=7,bytes:=104,zero:=[.int .i64 0,.int .i64 0,.int .i64 0,.int .i64 0,.slice none 0 0,.slice none 0 0,.slice none 0 0] }:=.mk' (by kernel_rfl) (by exact AN (by kernel_rfl))
theorem AAm:TIok Tryz.prog 27 { d:=.struct [(0,23,2),(2,23,2),(4,24,1),(5,25,1),(6,24,1)],size:=7,bytes:=104,zero:=[.int .i64 0,.int .i64 0,.int .i64 0,.int .i64 0,.slice none 0 0,.slice none 0 0,.slice none 0 0] }:=.mk' (by kernel_rfl) (by exact AN (by kernel_rfl))
theorem AAn:TIok Tryz.prog 28 { d:=.struct [(0,23,2),(2,23,2)],size:=4,bytes:=32,zero:=[.int .i64 0,.int .i64 0,.int .i64 0,.int .i64 0] }:=.mk' (by kernel_rfl) (by exact AN (by kernel_rfl))
theorem AAo:TIok Tryz.prog 29 { d:=.struct [(0,23,2),(2,23,2)],size:=4,bytes:=32,zero:=[.int .i64 0,.int .i64 0,.int .i64 0,.int .i64 0] }:=.mk' (by kernel_rfl) (by exact AN (by kernel_rfl))
theorem AAp:TIok Tryz.prog 30 { d:=.slice 161,size:=1,bytes:=24,zero:=[.slice none 0 0] }:=.mk' (by kernel_rfl) (by show Program.underlying _ _=_;kernel_rfl)
theorem AAq:TIok Tryz.prog 31 { d:=.slice 164,size:=1,bytes:=24,zero:=[.slice none 0 0] }:=.mk' (by kernel_rfl) (by show Program.underlying _ _=_;kernel_rfl)
theorem AAr:TIok Tryz.prog 32 { d:=.slice 172,size:=1,bytes:=24,zero:=[.slice none 0 0] }:=.mk' (by kernel_rfl) (by show Program.underlying _ _=_;kernel_rfl)
theorem AAs:TIok Tryz.prog 33 { d:=.slice 3,size:=1,bytes:=24,zero:=[.slice none 0 0] }:=.mk' (by kernel_rfl) (by show Program.underlying _ _=_;kernel_rfl)
theorem AAt:TIok Tryz.prog 34 { d:=.struct [(0,3,1),(1,4,1),(2,29,4),(6,25,1),(7,30,1),(8,31,1),(9,32,1),(10,33,1)],size:=11,bytes:=168,zero:=[.int .i64 0,.bool false,.int .i64 0,.int .i64 0,.int .i64 0,.int .i64 0,.slice none 0 0,.slice none 0 0,.slice none 0 0,.slice none 0 0,.slice none 0 0] }:=.mk' (by kernel_rfl) (by exact AN (by kernel_rfl))
theorem AAu:TIok Tryz.prog 35 { d:=.struct [(0,3,1),(1,4,1),(2,29,4),(6,25,1),(7,30,1),(8,31,1),(9,32,1),(10,33,1)],size:=11,bytes:=168,zero:=[.int .i64 0,.bool false,.int .i64 0,.int .i64 0,.int .i64 0,.int .i64 0,.slice none 0 0,.slice none 0 0,.slice none 0 0,.slice none 0 0,.slice none 0 0] }:=.mk' (by kernel_rfl) (by exact AN (by kernel_rfl))
theorem AAv:TIok Tryz.prog 39 { d:=.struct [(0,3,1),(1,3,1)],size:=2,bytes:=16,zero:=[.int .i64 0,.int .i64 0],eqn:=2 }:=.mk' (by kernel_rfl) (by exact AN (by kernel_rfl)) (λ _=>Ob (ti:=3) (by kernel_rfl) (by kernel_rfl) (by kernel_rfl))
theorem AAw:TIok Tryz.prog 40 { d:=.slice 39,size:=1,bytes:=24,zero:=[.slice none 0 0] }:=.mk' (by kernel_rfl) (by show Program.underlying _ _=_;kernel_rfl)
theorem AAx:TIok Tryz.prog 41 { d:=.slice 40,size:=1,bytes:=24,zero:=[.slice none 0 0] }:=.mk' (by kernel_rfl) (by show Program.underlying _ _=_;kernel_rfl)
theorem AAy:TIok Tryz.prog 42 { d:=.struct [(0,39,2),(2,39,2),(4,40,1),(5,41,1),(6,40,1)],size:=7,bytes:=104,zero:=[.int .i64 0,.int .i64 0,.int .i64 0,.int .i64 0,.slice none 0 0,.slice none 0 0,.slice none 0 0] }:=.mk' (by kernel_rfl) (by exact AN (by kernel_rfl))
theorem AAz:TIok Tryz.prog 43 { d:=.struct [(0,39,2),(2,39,2),(4,40,1),(5,41,1),(6,40,1)],size:=7,bytes:=104,zero:=[.int .i64 0,.int .i64 0,.int .i64 0,.int .i64 0,.slice none 0 0,.slice none 0 0,.slice none 0 0] }:=.mk' (by kernel_rfl) (by exact AN (by kernel_rfl))
theorem AA0:TIok Tryz.prog 45 { d:=.struct [(0,39,2),(2,39,2)],size:=4,bytes:=32,zero:=[.int .i64 0,.int .i64 0,.int .i64 0,.int .i64 0] }:=.mk' (by kernel_rfl) (by exact AN (by kernel_rfl))
theorem AA1:TIok Tryz.prog 46 { d:=.struct [(0,39,2),(2,39,2)],size:=4,bytes:=32,zero:=[.int .i64 0,.int .i64 0,.int .i64 0,.int .i64 0] }:=.mk' (by kernel_rfl) (by exact AN (by kernel_rfl))
theorem AA2:TIok Tryz.prog 47 { d:=.slice 158,size:=1,bytes:=24,zero:=[.slice none 0 0] }:=.mk' (by kernel_rfl) (by show Program.underlying _ _=_;kernel_rfl)
theorem AA3:TIok Tryz.prog 48 { d:=.slice 153,size:=1,bytes:=24,zero:=[.slice none 0 0] }:=.mk' (by kernel_rfl) (by show Program.underlying _ _=_;kernel_rfl)
theorem AA4:TIok Tryz.prog 49 { d:=.slice 168,size:=1,bytes:=24,zero:=[.slice none 0 0] }:=.mk' (by kernel_rfl) (by show Program.underlying _ _=_;kernel_rfl)
theorem AA5:TIok Tryz.prog 50 { d:=.struct [(0,3,1),(1,4,1),(2,46,4),(6,41,1),(7,47,1),(8,48,1),(9,49,1),(10,33,1)],size:=11,bytes:=168,zero:=[.int .i64 0,.bool false,.int .i64 0,.int .i64 0,.int .i64 0,.int .i64 0,.slice none 0 0,.slice none 0 0,.slice none 0 0,.slice none 0 0,.slice none 0 0] }:=.mk' (by kernel_rfl) (by exact AN (by kernel_rfl))
theorem AA6:TIok Tryz.prog 51 { d:=.struct [(0,3,1),(1,4,1),(2,46,4),(6,41,1),(7,47,1),(8,48,1),(9,49,1),(10,33,1)],size:=11,bytes:=168,zero:=[.int .i64 0,.bool false,.int .i64 0,.int .i64 0,.int .i64 0,.int .i64 0,.slice none 0 0,.slice none 0 0,.slice none 0 0,.slice none 0 0,.slice none 0 0] }:=.mk' (by kernel_rfl) (by exact AN (by kernel_rfl))
theorem AA7:TIok Tryz.prog 60 { d:=.slice 35,size:=1,bytes:=24,zero:=[.slice none 0 0] }:=.mk' (by kernel_rfl) (by show Program.underlying _ _=_;kernel_rfl)
theorem AA8:TIok Tryz.prog 61 { d:=.slice 33,size:=1,bytes:=24,zero:=[.slice none 0 0] }:=.mk' (by kernel_rfl) (by show Program.underlying _ _=_;kernel_rfl)
theorem AA9:TIok Tryz.prog 62 { d:=.struct [(0,27,7),(7,60,1),(8,33,1),(9,61,1)],size:=10,bytes:=176,zero:=[.int .i64 0,.int .i64 0,.int .i64 0,.int .i64 0,.slice none 0 0,.slice none 0 0,.slice none 0 0,.slice none 0 0,.slice none 0 0,.slice none 0 0] }:=.mk' (by kernel_rfl) (by exact AN (by kernel_rfl))
theorem ABA:TIok Tryz.prog 63 { d:=.struct [(0,27,7),(7,60,1),(8,33,1),(9,61,1)],size:=10,bytes:=176,zero:=[.int .i64 0,.int .i64 0,.int .i64 0,.int .i64 0,.slice none 0 0,.slice none 0 0,.slice none 0 0,.slice none 0 0,.slice none 0 0,.slice none 0 0] }:=.mk' (by kernel_rfl) (by exact AN (by kernel_rfl))
theorem ABB:TIok Tryz.prog 66 { d:=.slice 51,size:=1,bytes:=24,zero:=[.slice none 0 0] }:=.mk' (by kernel_rfl) (by show Program.underlying _ _=_;kernel_rfl)
theorem ABC:TIok Tryz.prog 67 { d:=.struct [(0,43,7),(7,66,1),(8,33,1),(9,61,1)],size:=10,bytes:=176,zero:=[.int .i64 0,.int .i64 0,.int .i64 0,.int .i64 0,.slice none 0 0,.slice none 0 0,.slice none 0 0,.slice none 0 0,.slice none 0 0,.slice none 0 0] }:=.mk' (by kernel_rfl) (by exact AN (by kernel_rfl))
theorem ABD:TIok Tryz.prog 68 { d:=.struct [(0,43,7),(7,66,1),(8,33,1),(9,61,1)],size:=10,bytes:=176,zero:=[.int .i64 0,.int .i64 0,.int .i64 0,.int .i64 0,.slice none 0 0,.slice none 0 0,.slice none 0 0,.slice none 0 0,.slice none 0 0,.slice none 0 0] }:=.mk' (by kernel_rfl) (by exact AN (by kernel_rfl))
theorem ABE:TIok Tryz.prog 73 { d:=.slice 90,size:=1,bytes:=24,zero:=[.slice none 0 0] }:=.mk' (by kernel_rfl) (by show Program.underlying _ _=_;kernel_rfl)
theorem ABF:TIok Tryz.prog 82 { d:=.struct [(0,4,1),(1,33,1)],size:=2,bytes:=32,zero:=[.bool false,.slice none 0 0] }:=.mk' (by kernel_rfl) (by exact AN (by kernel_rfl))
theorem ABG:TIok Tryz.prog 83 { d:=.struct [(0,4,1),(1,33,1)],size:=2,bytes:=32,zero:=[.bool false,.slice none 0 0] }:=.mk' (by kernel_rfl) (by exact AN (by kernel_rfl))
theorem ABH:TIok Tryz.prog 84 { d:=.struct [(0,83,2),(2,33,1)],size:=3,bytes:=56,zero:=[.bool false,.slice none 0 0,.slice none 0 0] }:=.mk' (by kernel_rfl) (by exact AN (by kernel_rfl))
theorem ABI:TIok Tryz.prog 85 { d:=.struct [(0,83,2),(2,33,1)],size:=3,bytes:=56,zero:=[.bool false,.slice none 0 0,.slice none 0 0] }:=.mk' (by kernel_rfl) (by exact AN (by kernel_rfl))
theorem ABJ:TIok Tryz.prog 88 { d:=.struct [(0,4,1),(1,33,1)],size:=2,bytes:=32,zero:=[.bool false,.slice none 0 0] }:=.mk' (by kernel_rfl) (by exact AN (by kernel_rfl))
theorem ABK:TIok Tryz.prog 89 { d:=.struct [(0,88,2),(2,33,1)],size:=3,bytes:=56,zero:=[.bool false,.slice none 0 0,.slice none 0 0] }:=.mk' (by kernel_rfl) (by exact AN (by kernel_rfl))
theorem ABL:TIok Tryz.prog 90 { d:=.struct [(0,88,2),(2,33,1)],size:=3,bytes:=56,zero:=[.bool false,.slice none 0 0,.slice none 0 0] }:=.mk' (by kernel_rfl) (by exact AN (by kernel_rfl))
theorem Zx:TIok Tryz.prog 109 { d:=.struct [(0,90,3),(3,90,3)],size:=6,bytes:=112,zero:=[.bool false,.slice none 0 0,.slice none 0 0,.bool false,.slice none 0 0,.slice none 0 0] }:=.mk' (by kernel_rfl) (by exact AN (by kernel_rfl))
theorem Zy:TIok Tryz.prog 110 { d:=.struct [(0,90,3),(3,90,3)],size:=6,bytes:=112,zero:=[.bool false,.slice none 0 0,.slice none 0 0,.bool false,.slice none 0 0,.slice none 0 0] }:=.mk' (by kernel_rfl) (by exact AN (by kernel_rfl))
theorem Zz:TIok Tryz.prog 129 { d:=.struct [(0,3,1),(1,110,6)],size:=7,bytes:=120,zero:=[.int .i64 0,.bool false,.slice none 0 0,.slice none 0 0,.bool false,.slice none 0 0,.slice none 0 0] }:=.mk' (by kernel_rfl) (by exact AN (by kernel_rfl))
theorem Z0:TIok Tryz.prog 130 { d:=.struct [(0,3,1),(1,110,6)],size:=7,bytes:=120,zero:=[.int .i64 0,.bool false,.slice none 0 0,.slice none 0 0,.bool false,.slice none 0 0,.slice none 0 0] }:=.mk' (by kernel_rfl) (by exact AN (by kernel_rfl))
theorem AAA:TIok Tryz.prog 137 { d:=.slice 140,size:=1,bytes:=24,zero:=[.slice none 0 0] }:=.mk' (by kernel_rfl) (by show Program.underlying _ _=_;kernel_rfl)
theorem AAB:TIok Tryz.prog 139 { d:=.struct [(0,39,2),(2,39,2),(4,3,1),(5,4,1)],size:=6,bytes:=48,zero:=[.int .i64 0,.int .i64 0,.int .i64 0,.int .i64 0,.int .i64 0,.bool false] }:=.mk' (by kernel_rfl) (by exact AN (by kernel_rfl))
theorem AAC:TIok Tryz.prog 140 { d:=.struct [(0,39,2),(2,39,2),(4,3,1),(5,4,1)],size:=6,bytes:=48,zero:=[.int .i64 0,.int .i64 0,.int .i64 0,.int .i64 0,.int .i64 0,.bool false] }:=.mk' (by kernel_rfl) (by exact AN (by kernel_rfl))
theorem AAD:TIok Tryz.prog 152 { d:=.struct [(0,90,3),(3,90,3),(6,90,3)],size:=9,bytes:=168,zero:=[.bool false,.slice none 0 0,.slice none 0 0,.bool false,.slice none 0 0,.slice none 0 0,.bool false,.slice none 0 0,.slice none 0 0] }:=.mk' (by kernel_rfl) (by exact AN (by kernel_rfl))
theorem AAE:TIok Tryz.prog 153 { d:=.struct [(0,90,3),(3,90,3),(6,90,3)],size:=9,bytes:=168,zero:=[.bool false,.slice none 0 0,.slice none 0 0,.bool false,.slice none 0 0,.slice none 0 0,.bool false,.slice none 0 0,.slice none 0 0] }:=.mk' (by kernel_rfl) (by exact AN (by kernel_rfl))
theorem AAF:TIok Tryz.prog 157 { d:=.struct [(0,90,3),(3,90,3),(6,90,3),(9,90,3),(12,90,3),(15,90,3)],size:=18,bytes:=336,zero:=[.bool false,.slice none 0 0,.slice none 0 0,.bool false,.slice none 0 0,.slice none 0 0,.bool false,.slice none 0 0,.slice none 0 0,.bool false,.slice none 0 0,.slice none 0 0,.bool false,.slice none 0 0,.slice none 0 0,.bool false,.slice none 0 0,.slice none 0 0] }:=.mk' (by kernel_rfl) (by exact AN (by kernel_rfl))
theorem AAG:TIok Tryz.prog 158 { d:=.struct [(0,90,3),(3,90,3),(6,90,3),(9,90,3),(12,90,3),(15,90,3)],size:=18,bytes:=336,zero:=[.bool false,.slice none 0 0,.slice none 0 0,.bool false,.slice none 0 0,.slice none 0 0,.bool false,.slice none 0 0,.slice none 0 0,.bool false,.slice none 0 0,.slice none 0 0,.bool false,.slice none 0 0,.slice none 0 0,.bool false,.slice none 0 0,.slice none 0 0] }:=.mk' (by kernel_rfl) (by exact AN (by kernel_rfl))
theorem AAH:TIok Tryz.prog 160 { d:=.struct [(0,85,3),(3,85,3),(6,85,3),(9,85,3),(12,85,3),(15,85,3)],size:=18,bytes:=336,zero:=[.bool false,.slice none 0 0,.slice none 0 0,.bool false,.slice none 0 0,.slice none 0 0,.bool false,.slice none 0 0,.slice none 0 0,.bool false,.slice none 0 0,.slice none 0 0,.bool false,.slice none 0 0,.slice none 0 0,.bool false,.slice none 0 0,.slice none 0 0] }:=.mk' (by kernel_rfl) (by exact AN (by kernel_rfl))
theorem AAI:TIok Tryz.prog 161 { d:=.struct [(0,85,3),(3,85,3),(6,85,3),(9,85,3),(12,85,3),(15,85,3)],size:=18,bytes:=336,zero:=[.bool false,.slice none 0 0,.slice none 0 0,.bool false,.slice none 0 0,.slice none 0 0,.bool false,.slice none 0 0,.slice none 0 0,.bool false,.slice none 0 0,.slice none 0 0,.bool false,.slice none 0 0,.slice none 0 0,.bool false,.slice none 0 0,.slice none 0 0] }:=.mk' (by kernel_rfl) (by exact AN (by kernel_rfl))
theorem AAJ:TIok Tryz.prog 163 { d:=.struct [(0,85,3),(3,85,3),(6,85,3)],size:=9,bytes:=168,zero:=[.bool false,.slice none 0 0,.slice none 0 0,.bool false,.slice none 0 0,.slice none 0 0,.bool false,.slice none 0 0,.slice none 0 0] }:=.mk' (by kernel_rfl) (by exact AN (by kernel_rfl))
theorem AAK:TIok Tryz.prog 164 { d:=.struct [(0,85,3),(3,85,3),(6,85,3)],size:=9,bytes:=168,zero:=[.bool false,.slice none 0 0,.slice none 0 0,.bool false,.slice none 0 0,.slice none 0 0,.bool false,.slice none 0 0,.slice none 0 0] }:=.mk' (by kernel_rfl) (by exact AN (by kernel_rfl))
theorem AAL:TIok Tryz.prog 167 { d:=.struct [(0,3,1),(1,3,1)],size:=2,bytes:=16,zero:=[.int .i64 0,.int .i64 0],eqn:=2 }:=.mk' (by kernel_rfl) (by exact AN (by kernel_rfl)) (λ _=>Ob (ti:=3) (by kernel_rfl) (by kernel_rfl) (by kernel_rfl))
theorem AAM:TIok Tryz.prog 168 { d:=.struct [(0,3,1),(1,3,1)],size:=2,bytes:=16,zero:=[.int .i64 0,.int .i64 0],eqn:=2 }:=.mk' (by kernel_rfl) (by exact AN (by kernel_rfl)) (λ _=>Ob (ti:=3) (by kernel_rfl) (by kernel_rfl) (by kernel_rfl))
theorem AAN:TIok Tryz.prog 172 { d:=.struct [(0,3,1),(1,3,1)],size:=2,bytes:=16,zero:=[.int .i64 0,.int .i64 0],eqn:=2 }:=.mk' (by kernel_rfl) (by exact AN (by kernel_rfl)) (λ _=>Ob (ti:=3) (by kernel_rfl) (by kernel_rfl) (by kernel_rfl))
theorem AAO:TIok Tryz.prog 196 { d:=.slice 198,size:=1,bytes:=24,zero:=[.slice none 0 0] }:=.mk' (by kernel_rfl) (by show Program.underlying _ _=_;kernel_rfl)
theorem AAP:TIok Tryz.prog 197 { d:=.struct [(0,90,3),(3,90,3)],size:=6,bytes:=112,zero:=[.bool false,.slice none 0 0,.slice none 0 0,.bool false,.slice none 0 0,.slice none 0 0] }:=.mk' (by kernel_rfl) (by exact AN (by kernel_rfl))
theorem AAQ:TIok Tryz.prog 202 { d:=.slice 204,size:=1,bytes:=24,zero:=[.slice none 0 0] }:=.mk' (by kernel_rfl) (by show Program.underlying _ _=_;kernel_rfl)
theorem AAR:TIok Tryz.prog 203 { d:=.struct [(0,90,3),(3,90,3),(6,90,3)],size:=9,bytes:=168,zero:=[.bool false,.slice none 0 0,.slice none 0 0,.bool false,.slice none 0 0,.slice none 0 0,.bool false,.slice none 0 0,.slice none 0 0] }:=.mk' (by kernel_rfl) (by exact AN (by kernel_rfl))
theorem AAS:TIok Tryz.prog 213 { d:=.slice 216,size:=1,bytes:=24,zero:=[.slice none 0 0] }:=.mk' (by kernel_rfl) (by show Program.underlying _ _=_;kernel_rfl)
theorem AAT:TIok Tryz.prog 256 { d:=.int .u64,size:=1,bytes:=8,zero:=[.int .u64 0] }:=.mk' (by kernel_rfl) (by show Program.underlying _ _=_;kernel_rfl)
theorem AAU:TIok Tryz.prog 271 { d:=.slice 110,size:=1,bytes:=24,zero:=[.slice none 0 0] }:=.mk' (by kernel_rfl) (by show Program.underlying _ _=_;kernel_rfl)
theorem AAV:TIok Tryz.prog 282 { d:=.int .u32,size:=1,bytes:=4,zero:=[.int .u32 0] }:=.mk' (by kernel_rfl) (by show Program.underlying _ _=_;kernel_rfl)
theorem AAW:TIok Tryz.prog 284 { d:=.int .u64,size:=1,bytes:=8,zero:=[.int .u64 0] }:=.mk' (by kernel_rfl) (by show Program.underlying _ _=_;kernel_rfl)
theorem AAX:TIok Tryz.prog 311 { d:=.float,size:=1,bytes:=8,zero:=[.float .f64 0] }:=.mk' (by kernel_rfl) (by show Program.underlying _ _=_;kernel_rfl)
theorem AF:TTok Tryz.prog tt:=(TTok.cons tt2 (TTok.cons tt3 (TTok.cons tt4 (TTok.cons tt5 (TTok.cons tt9 (TTok.cons AAg (TTok.cons AAh (TTok.cons AAi (TTok.cons AAj (TTok.cons AAk (TTok.cons AAl (TTok.cons AAm (TTok.cons AAn (TTok.cons AAo (TTok.cons AAp (TTok.cons AAq (TTok.cons AAr (TTok.cons AAs (TTok.cons AAt (TTok.cons AAu (TTok.cons AAv (TTok.cons AAw (TTok.cons AAx (TTok.cons AAy (TTok.cons AAz (TTok.cons AA0 (TTok.cons AA1 (TTok.cons AA2 (TTok.cons AA3 (TTok.cons AA4 (TTok.cons AA5 (TTok.cons AA6 (TTok.cons AA7 (TTok.cons AA8 (TTok.cons AA9 (TTok.cons ABA (TTok.cons ABB (TTok.cons ABC (TTok.cons ABD (TTok.cons ABE (TTok.cons ABF (TTok.cons ABG (TTok.cons ABH (TTok.cons ABI (TTok.cons ABJ (TTok.cons ABK (TTok.cons ABL (TTok.cons Zx (TTok.cons Zy (TTok.cons Zz (TTok.cons Z0 (TTok.cons AAA (TTok.cons AAB (TTok.cons AAC (TTok.cons AAD (TTok.cons AAE (TTok.cons AAF (TTok.cons AAG (TTok.cons AAH (TTok.cons AAI (TTok.cons AAJ (TTok.cons AAK (TTok.cons AAL (TTok.cons AAM (TTok.cons AAN (TTok.cons AAO (TTok.cons AAP (TTok.cons AAQ (TTok.cons AAR (TTok.cons AAS (TTok.cons AAT (TTok.cons AAU (TTok.cons AAV (TTok.cons AAW (TTok.cons AAX (TTok.nil _))))))))))))))))))))))))))))))))))))))))))))))))))))))))))))))))))))))))))))
abbrev w28 (r:List Dat):DA:=.agg [cI (r.getD 0 (.int 0)).n,cI (r.getD 1 (.int 0)).n,cI (r.getD 2 (.int 0)).n,cI (r.getD 3 (.int 0)).n]
abbrev z84:List Ty:=[.bool,.sl 3 [.int],.sl 3 [.int]]
abbrev w84 (r:List Dat):DA:=.agg [cB (r.getD 0 (.int 0)).b,cS (r.getD 1 (.int 0)).r,cS (r.getD 2 (.int 0)).r]
abbrev L2:List Ty:=[.bool,.sl 3 [.int],.sl 3 [.int],.bool,.sl 3 [.int],.sl 3 [.int]]
abbrev w26 (r:List Dat):DA:=.agg [cI (r.getD 0 (.int 0)).n,cI (r.getD 1 (.int 0)).n,cI (r.getD 2 (.int 0)).n,cI (r.getD 3 (.int 0)).n,.sl 23 [.int,.int] (r.getD 4 (.int 0)).r,.sl 24 [.sl 23 [.int,.int]] (r.getD 5 (.int 0)).r,.sl 23 [.int,.int] (r.getD 6 (.int 0)).r]
abbrev w42 (r:List Dat):DA:=.agg [cI (r.getD 0 (.int 0)).n,cI (r.getD 1 (.int 0)).n,cI (r.getD 2 (.int 0)).n,cI (r.getD 3 (.int 0)).n,.sl 39 [.int,.int] (r.getD 4 (.int 0)).r,.sl 40 [.sl 39 [.int,.int]] (r.getD 5 (.int 0)).r,.sl 39 [.int,.int] (r.getD 6 (.int 0)).r]
abbrev E7:List Ty:=[.bool,.sl 3 [.int],.sl 3 [.int],.bool,.sl 3 [.int],.sl 3 [.int],.bool,.sl 3 [.int],.sl 3 [.int]]
abbrev Ig (r:List Dat):DA:=.agg [cB (r.getD 0 (.int 0)).b,cS (r.getD 1 (.int 0)).r,cS (r.getD 2 (.int 0)).r,cB (r.getD 3 (.int 0)).b,cS (r.getD 4 (.int 0)).r,cS (r.getD 5 (.int 0)).r,cB (r.getD 6 (.int 0)).b,cS (r.getD 7 (.int 0)).r,cS (r.getD 8 (.int 0)).r]
abbrev E8:List Ty:=[.bool,.sl 3 [.int],.sl 3 [.int],.bool,.sl 3 [.int],.sl 3 [.int],.bool,.sl 3 [.int],.sl 3 [.int],.bool,.sl 3 [.int],.sl 3 [.int],.bool,.sl 3 [.int],.sl 3 [.int],.bool,.sl 3 [.int],.sl 3 [.int]]
abbrev Ih (r:List Dat):DA:=.agg [cB (r.getD 0 (.int 0)).b,cS (r.getD 1 (.int 0)).r,cS (r.getD 2 (.int 0)).r,cB (r.getD 3 (.int 0)).b,cS (r.getD 4 (.int 0)).r,cS (r.getD 5 (.int 0)).r,cB (r.getD 6 (.int 0)).b,cS (r.getD 7 (.int 0)).r,cS (r.getD 8 (.int 0)).r,cB (r.getD 9 (.int 0)).b,cS (r.getD 10 (.int 0)).r,cS (r.getD 11 (.int 0)).r,cB (r.getD 12 (.int 0)).b,cS (r.getD 13 (.int 0)).r,cS (r.getD 14 (.int 0)).r,cB (r.getD 15 (.int 0)).b,cS (r.getD 16 (.int 0)).r,cS (r.getD 17 (.int 0)).r]
abbrev w34 (r:List Dat):DA:=.agg [cI (r.getD 0 (.int 0)).n,cB (r.getD 1 (.int 0)).b,cI (r.getD 2 (.int 0)).n,cI (r.getD 3 (.int 0)).n,cI (r.getD 4 (.int 0)).n,cI (r.getD 5 (.int 0)).n,.sl 24 [.sl 23 [.int,.int]] (r.getD 6 (.int 0)).r,.sl 161 E8 (r.getD 7 (.int 0)).r,.sl 164 E7 (r.getD 8 (.int 0)).r,.sl 172 [.int,.int] (r.getD 9 (.int 0)).r,cS (r.getD 10 (.int 0)).r]
abbrev w50 (r:List Dat):DA:=.agg [cI (r.getD 0 (.int 0)).n,cB (r.getD 1 (.int 0)).b,cI (r.getD 2 (.int 0)).n,cI (r.getD 3 (.int 0)).n,cI (r.getD 4 (.int 0)).n,cI (r.getD 5 (.int 0)).n,.sl 40 [.sl 39 [.int,.int]] (r.getD 6 (.int 0)).r,.sl 158 E8 (r.getD 7 (.int 0)).r,.sl 153 E7 (r.getD 8 (.int 0)).r,.sl 168 [.int,.int] (r.getD 9 (.int 0)).r,cS (r.getD 10 (.int 0)).r]
end Go.Proofs.YtmedodfenejimaaGreat
