import Derived.Test.YtblmlkdefjoebaaGreatFaExC
import Derived.Test.YtblmlkdefjoebaaGreatProg
import Derived.KernelRfl
namespace Go.Proofs.YtblmlkdefjoebaaGreat
set_option linter.unusedVariables false
set_option linter.unusedSimpArgs false
open Go.RowKit
theorem TIok.mk' {P:Program} {t:Nat} {i:TI} (h1:(P.info? t).map (fun i=>(i.size,i.bytes,i.zero.map (·.cells)))=some (i.size,i.bytes,some i.zero.toArray)) (h2:i.d.fits P t) (h3:i.eqn≠0→EqOk P t i.eqn:=by intro h;exact absurd rfl h):TIok P t i:=by
 refine ⟨?_,h2,h3⟩
 cases h:P.info? t with
 | none=>rw [h] at h1;cases h1
 | some inf=>
  rw [h] at h1
  simp only [Option.map_some,Option.some.injEq,Prod.mk.injEq] at h1
  exact ⟨inf,rfl,h1.1,h1.2.1,h1.2.2⟩
theorem fits_struct {P:Program} {t:Nat} {fs:List (Nat×Nat×Nat)} (h:(match P.underlying t with|some (.struct fl)=>some (fl.toList.map (fun f=>(f.offset,f.type)),fl.toList.mapM (fun f=>(P.info? f.type).map fun i=>(f.offset,i.size)))|_=>none)=some (fs.map (fun x=>(x.1,x.2.1)),some (fs.map fun x=>(x.1,x.2.2)))):TD.fits P t (.struct fs):=by
 simp only [TD.fits]
 split at h
 ·rename_i fl hu
  simp only [Option.some.injEq,Prod.mk.injEq] at h
  exact ⟨fl,hu,h.1,h.2⟩
 ·cases h
theorem eqOk2 {P:Program} {t ti:Nat} (h:(match P.underlying t with|some (.struct fl)=>some (fl.toList.map fun f=>(f.offset,f.type,f.name == "_"))|_=>none)=some [(0,ti,false),(1,ti,false)])
  (hi:P.underlying ti=some (.int .i64)) (hs:(P.eqGuardType P.depth t,P.stoodInHeld t)=(false,false)):EqOk P t 2:=by
 simp only [Prod.mk.injEq] at hs
 obtain ⟨g1,g2⟩:=hs
 refine ⟨g1,fun w xs ys hx hy=>?_⟩
 split at h
 ·rename_i fl hu
  simp only [Option.some.injEq] at h
  obtain ⟨f0,f1,hfl⟩:∃ f0 f1,fl.toList=[f0,f1]:=by
   have hl:=congrArg List.length h
   simp only [List.length_map,List.length_cons,List.length_nil] at hl
   match hq:fl.toList,hl with
   | [a,b],_=>exact ⟨a,b,rfl⟩
  rw [hfl] at h
  simp only [List.map_cons,List.map_nil,List.cons.injEq,Prod.mk.injEq,and_true] at h
  obtain ⟨⟨a1,a2,a3⟩,b1,b2,b3⟩:=h
  match xs,hx,ys,hy with
  | [x0,x1],_,[y0,y1],_=>
  have hag:(Go.isAgg ti).run P w=.ok false w:=by simp [Go.isAgg,Go.underlying,program,Sem.run,hi]
  have hp0:∀ (u v:Int),(Go.part ti #[Value.int .i64 u,Value.int .i64 v] 0).run P w=.ok (.int .i64 u) w:=by intro u v;simp [Go.part,hag]
  have hp1:∀ (u v:Int),(Go.part ti #[Value.int .i64 u,Value.int .i64 v] 1).run P w=.ok (.int .i64 v) w:=by intro u v;simp [Go.part,hag]
  have he:∀ a b:Int,(Op.equalIn 9999 ti (.int .i64 a) (.int .i64 b)).run P w=.ok (a == b) w:=by
   intro a b
   show (Op.equalIn (9998+1) ti (.int .i64 a) (.int .i64 b)).run P w=_
   rw [Op.equalIn]
   simp only [Sem.run_bind,underlying_run hi,Result.andThen_ok]
   simp
  have n0:¬ f0.name = "_" := by simpa using a3
  have n1:¬ f1.name = "_" := by simpa using b3
  have hfa:fl=#[f0,f1]:=Array.ext' hfl
  show (Op.equalIn (9999+1) t _ _).run P w=_
  rw [Op.equalIn]
  subst hfa
  simp only [Sem.run_bind,underlying_run hu,Result.andThen_ok]
  by_cases e0:x0=y0
  ·by_cases e1:x1=y1
   ·simp [program,Sem.run,g2,n0,n1,a1,a2,b1,b2,hp0,hp1,he,e0,e1]
   ·simp [program,Sem.run,g2,n0,n1,a1,a2,b1,b2,hp0,hp1,he,e0,e1]
  ·simp [program,Sem.run,g2,n0,n1,a1,a2,b1,b2,hp0,hp1,he,e0]
 ·cases h
def tt:TT:=[(2,{ d:=.int .i64,size:=1,bytes:=8,zero:=[.int .i64 0] }),
 (3,{ d:=.int .i64,size:=1,bytes:=8,zero:=[.int .i64 0] }),
 (4,{ d:=.bool,size:=1,bytes:=1,zero:=[.bool false] }),
 (5,{ d:=.int .u8,size:=1,bytes:=1,zero:=[.int .u8 0] }),
 (9,{ d:=.str,size:=1,bytes:=16,zero:=[.string ⟨#[]⟩] }),
 (21,{ d:=.int .i32,size:=1,bytes:=4,zero:=[.int .i32 0] }),
 (22,{ d:=.struct [(0,3,1),(1,3,1)],size:=2,bytes:=16,zero:=[.int .i64 0,.int .i64 0],eqn:=2 }),
 (23,{ d:=.struct [(0,3,1),(1,3,1)],size:=2,bytes:=16,zero:=[.int .i64 0,.int .i64 0],eqn:=2 }),
 (24,{ d:=.struct [(0,23,2),(2,23,2)],size:=4,bytes:=32,zero:=[.int .i64 0,.int .i64 0,.int .i64 0,.int .i64 0] }),
 (25,{ d:=.struct [(0,23,2),(2,23,2)],size:=4,bytes:=32,zero:=[.int .i64 0,.int .i64 0,.int .i64 0,.int .i64 0] }),
 (26,{ d:=.slice 62,size:=1,bytes:=24,zero:=[.slice none 0 0] }),
 (27,{ d:=.slice 199,size:=1,bytes:=24,zero:=[.slice none 0 0] }),
 (28,{ d:=.slice 202,size:=1,bytes:=24,zero:=[.slice none 0 0] }),
 (29,{ d:=.slice 207,size:=1,bytes:=24,zero:=[.slice none 0 0] }),
 (30,{ d:=.slice 3,size:=1,bytes:=24,zero:=[.slice none 0 0] }),
 (31,{ d:=.struct [(0,3,1),(1,4,1),(2,25,4),(6,26,1),(7,27,1),(8,28,1),(9,29,1),(10,30,1)],size:=11,bytes:=168,zero:=[.int .i64 0,.bool false,.int .i64 0,.int .i64 0,.int .i64 0,.int .i64 0,.slice none 0 0,.slice none 0 0,.slice none 0 0,.slice none 0 0,.slice none 0 0] }),
 (32,{ d:=.struct [(0,3,1),(1,4,1),(2,25,4),(6,26,1),(7,27,1),(8,28,1),(9,29,1),(10,30,1)],size:=11,bytes:=168,zero:=[.int .i64 0,.bool false,.int .i64 0,.int .i64 0,.int .i64 0,.int .i64 0,.slice none 0 0,.slice none 0 0,.slice none 0 0,.slice none 0 0,.slice none 0 0] }),
 (33,{ d:=.slice 70,size:=1,bytes:=24,zero:=[.slice none 0 0] }),
 (37,{ d:=.struct [(0,3,1),(1,3,1)],size:=2,bytes:=16,zero:=[.int .i64 0,.int .i64 0],eqn:=2 }),
 (38,{ d:=.struct [(0,37,2),(2,37,2)],size:=4,bytes:=32,zero:=[.int .i64 0,.int .i64 0,.int .i64 0,.int .i64 0] }),
 (39,{ d:=.struct [(0,37,2),(2,37,2)],size:=4,bytes:=32,zero:=[.int .i64 0,.int .i64 0,.int .i64 0,.int .i64 0] }),
 (40,{ d:=.slice 74,size:=1,bytes:=24,zero:=[.slice none 0 0] }),
 (41,{ d:=.slice 190,size:=1,bytes:=24,zero:=[.slice none 0 0] }),
 (42,{ d:=.slice 185,size:=1,bytes:=24,zero:=[.slice none 0 0] }),
 (43,{ d:=.slice 195,size:=1,bytes:=24,zero:=[.slice none 0 0] }),
 (44,{ d:=.struct [(0,3,1),(1,4,1),(2,39,4),(6,40,1),(7,41,1),(8,42,1),(9,43,1),(10,30,1)],size:=11,bytes:=168,zero:=[.int .i64 0,.bool false,.int .i64 0,.int .i64 0,.int .i64 0,.int .i64 0,.slice none 0 0,.slice none 0 0,.slice none 0 0,.slice none 0 0,.slice none 0 0] }),
 (45,{ d:=.struct [(0,3,1),(1,4,1),(2,39,4),(6,40,1),(7,41,1),(8,42,1),(9,43,1),(10,30,1)],size:=11,bytes:=168,zero:=[.int .i64 0,.bool false,.int .i64 0,.int .i64 0,.int .i64 0,.int .i64 0,.slice none 0 0,.slice none 0 0,.slice none 0 0,.slice none 0 0,.slice none 0 0] }),
 (47,{ d:=.slice 82,size:=1,bytes:=24,zero:=[.slice none 0 0] }),
 (53,{ d:=.slice 80,size:=1,bytes:=24,zero:=[.slice none 0 0] }),
 (62,{ d:=.slice 23,size:=1,bytes:=24,zero:=[.slice none 0 0] }),
 (63,{ d:=.struct [(0,23,2),(2,23,2),(4,62,1),(5,26,1),(6,62,1)],size:=7,bytes:=104,zero:=[.int .i64 0,.int .i64 0,.int .i64 0,.int .i64 0,.slice none 0 0,.slice none 0 0,.slice none 0 0] }),
 (64,{ d:=.struct [(0,23,2),(2,23,2),(4,62,1),(5,26,1),(6,62,1)],size:=7,bytes:=104,zero:=[.int .i64 0,.int .i64 0,.int .i64 0,.int .i64 0,.slice none 0 0,.slice none 0 0,.slice none 0 0] }),
 (65,{ d:=.struct [(0,4,1),(1,30,1)],size:=2,bytes:=32,zero:=[.bool false,.slice none 0 0] }),
 (66,{ d:=.struct [(0,4,1),(1,30,1)],size:=2,bytes:=32,zero:=[.bool false,.slice none 0 0] }),
 (67,{ d:=.struct [(0,66,2),(2,30,1)],size:=3,bytes:=56,zero:=[.bool false,.slice none 0 0,.slice none 0 0] }),
 (68,{ d:=.struct [(0,66,2),(2,30,1)],size:=3,bytes:=56,zero:=[.bool false,.slice none 0 0,.slice none 0 0] }),
 (69,{ d:=.struct [(0,68,3),(3,68,3)],size:=6,bytes:=112,zero:=[.bool false,.slice none 0 0,.slice none 0 0,.bool false,.slice none 0 0,.slice none 0 0] }),
 (70,{ d:=.struct [(0,68,3),(3,68,3)],size:=6,bytes:=112,zero:=[.bool false,.slice none 0 0,.slice none 0 0,.bool false,.slice none 0 0,.slice none 0 0] }),
 (74,{ d:=.slice 37,size:=1,bytes:=24,zero:=[.slice none 0 0] }),
 (75,{ d:=.struct [(0,37,2),(2,37,2),(4,74,1),(5,40,1),(6,74,1)],size:=7,bytes:=104,zero:=[.int .i64 0,.int .i64 0,.int .i64 0,.int .i64 0,.slice none 0 0,.slice none 0 0,.slice none 0 0] }),
 (76,{ d:=.struct [(0,37,2),(2,37,2),(4,74,1),(5,40,1),(6,74,1)],size:=7,bytes:=104,zero:=[.int .i64 0,.int .i64 0,.int .i64 0,.int .i64 0,.slice none 0 0,.slice none 0 0,.slice none 0 0] }),
 (78,{ d:=.struct [(0,4,1),(1,30,1)],size:=2,bytes:=32,zero:=[.bool false,.slice none 0 0] }),
 (79,{ d:=.struct [(0,78,2),(2,30,1)],size:=3,bytes:=56,zero:=[.bool false,.slice none 0 0,.slice none 0 0] }),
 (80,{ d:=.struct [(0,78,2),(2,30,1)],size:=3,bytes:=56,zero:=[.bool false,.slice none 0 0,.slice none 0 0] }),
 (81,{ d:=.struct [(0,80,3),(3,80,3)],size:=6,bytes:=112,zero:=[.bool false,.slice none 0 0,.slice none 0 0,.bool false,.slice none 0 0,.slice none 0 0] }),
 (82,{ d:=.struct [(0,80,3),(3,80,3)],size:=6,bytes:=112,zero:=[.bool false,.slice none 0 0,.slice none 0 0,.bool false,.slice none 0 0,.slice none 0 0] }),
 (95,{ d:=.slice 32,size:=1,bytes:=24,zero:=[.slice none 0 0] }),
 (96,{ d:=.slice 30,size:=1,bytes:=24,zero:=[.slice none 0 0] }),
 (97,{ d:=.struct [(0,64,7),(7,95,1),(8,30,1),(9,96,1)],size:=10,bytes:=176,zero:=[.int .i64 0,.int .i64 0,.int .i64 0,.int .i64 0,.slice none 0 0,.slice none 0 0,.slice none 0 0,.slice none 0 0,.slice none 0 0,.slice none 0 0] }),
 (98,{ d:=.struct [(0,64,7),(7,95,1),(8,30,1),(9,96,1)],size:=10,bytes:=176,zero:=[.int .i64 0,.int .i64 0,.int .i64 0,.int .i64 0,.slice none 0 0,.slice none 0 0,.slice none 0 0,.slice none 0 0,.slice none 0 0,.slice none 0 0] }),
 (101,{ d:=.slice 45,size:=1,bytes:=24,zero:=[.slice none 0 0] }),
 (102,{ d:=.struct [(0,76,7),(7,101,1),(8,30,1),(9,96,1)],size:=10,bytes:=176,zero:=[.int .i64 0,.int .i64 0,.int .i64 0,.int .i64 0,.slice none 0 0,.slice none 0 0,.slice none 0 0,.slice none 0 0,.slice none 0 0,.slice none 0 0] }),
 (103,{ d:=.struct [(0,76,7),(7,101,1),(8,30,1),(9,96,1)],size:=10,bytes:=176,zero:=[.int .i64 0,.int .i64 0,.int .i64 0,.int .i64 0,.slice none 0 0,.slice none 0 0,.slice none 0 0,.slice none 0 0,.slice none 0 0,.slice none 0 0] }),
 (138,{ d:=.slice 141,size:=1,bytes:=24,zero:=[.slice none 0 0] }),
 (140,{ d:=.struct [(0,37,2),(2,37,2),(4,3,1),(5,4,1)],size:=6,bytes:=48,zero:=[.int .i64 0,.int .i64 0,.int .i64 0,.int .i64 0,.int .i64 0,.bool false] }),
 (141,{ d:=.struct [(0,37,2),(2,37,2),(4,3,1),(5,4,1)],size:=6,bytes:=48,zero:=[.int .i64 0,.int .i64 0,.int .i64 0,.int .i64 0,.int .i64 0,.bool false] }),
 (157,{ d:=.struct [(0,4,1),(1,39,4),(5,40,1)],size:=6,bytes:=64,zero:=[.bool false,.int .i64 0,.int .i64 0,.int .i64 0,.int .i64 0,.slice none 0 0] }),
 (158,{ d:=.struct [(0,4,1),(1,39,4),(5,40,1)],size:=6,bytes:=64,zero:=[.bool false,.int .i64 0,.int .i64 0,.int .i64 0,.int .i64 0,.slice none 0 0] }),
 (174,{ d:=.struct [(0,3,1),(1,82,6)],size:=7,bytes:=120,zero:=[.int .i64 0,.bool false,.slice none 0 0,.slice none 0 0,.bool false,.slice none 0 0,.slice none 0 0] }),
 (175,{ d:=.struct [(0,3,1),(1,82,6)],size:=7,bytes:=120,zero:=[.int .i64 0,.bool false,.slice none 0 0,.slice none 0 0,.bool false,.slice none 0 0,.slice none 0 0] }),
 (184,{ d:=.struct [(0,80,3),(3,80,3),(6,80,3)],size:=9,bytes:=168,zero:=[.bool false,.slice none 0 0,.slice none 0 0,.bool false,.slice none 0 0,.slice none 0 0,.bool false,.slice none 0 0,.slice none 0 0] }),
 (185,{ d:=.struct [(0,80,3),(3,80,3),(6,80,3)],size:=9,bytes:=168,zero:=[.bool false,.slice none 0 0,.slice none 0 0,.bool false,.slice none 0 0,.slice none 0 0,.bool false,.slice none 0 0,.slice none 0 0] }),
 (189,{ d:=.struct [(0,80,3),(3,80,3),(6,80,3),(9,80,3),(12,80,3),(15,80,3)],size:=18,bytes:=336,zero:=[.bool false,.slice none 0 0,.slice none 0 0,.bool false,.slice none 0 0,.slice none 0 0,.bool false,.slice none 0 0,.slice none 0 0,.bool false,.slice none 0 0,.slice none 0 0,.bool false,.slice none 0 0,.slice none 0 0,.bool false,.slice none 0 0,.slice none 0 0] }),
 (190,{ d:=.struct [(0,80,3),(3,80,3),(6,80,3),(9,80,3),(12,80,3),(15,80,3)],size:=18,bytes:=336,zero:=[.bool false,.slice none 0 0,.slice none 0 0,.bool false,.slice none 0 0,.slice none 0 0,.bool false,.slice none 0 0,.slice none 0 0,.bool false,.slice none 0 0,.slice none 0 0,.bool false,.slice none 0 0,.slice none 0 0,.bool false,.slice none 0 0,.slice none 0 0] }),
 (194,{ d:=.struct [(0,3,1),(1,3,1)],size:=2,bytes:=16,zero:=[.int .i64 0,.int .i64 0],eqn:=2 }),
 (195,{ d:=.struct [(0,3,1),(1,3,1)],size:=2,bytes:=16,zero:=[.int .i64 0,.int .i64 0],eqn:=2 }),
 (198,{ d:=.struct [(0,68,3),(3,68,3),(6,68,3),(9,68,3),(12,68,3),(15,68,3)],size:=18,bytes:=336,zero:=[.bool false,.slice none 0 0,.slice none 0 0,.bool false,.slice none 0 0,.slice none 0 0,.bool false,.slice none 0 0,.slice none 0 0,.bool false,.slice none 0 0,.slice none 0 0,.bool false,.slice none 0 0,.slice none 0 0,.bool false,.slice none 0 0,.slice none 0 0] }),
 (199,{ d:=.struct [(0,68,3),(3,68,3),(6,68,3),(9,68,3),(12,68,3),(15,68,3)],size:=18,bytes:=336,zero:=[.bool false,.slice none 0 0,.slice none 0 0,.bool false,.slice none 0 0,.slice none 0 0,.bool false,.slice none 0 0,.slice none 0 0,.bool false,.slice none 0 0,.slice none 0 0,.bool false,.slice none 0 0,.slice none 0 0,.bool false,.slice none 0 0,.slice none 0 0] }),
 (201,{ d:=.struct [(0,68,3),(3,68,3),(6,68,3)],size:=9,bytes:=168,zero:=[.bool false,.slice none 0 0,.slice none 0 0,.bool false,.slice none 0 0,.slice none 0 0,.bool false,.slice none 0 0,.slice none 0 0] }),
 (202,{ d:=.struct [(0,68,3),(3,68,3),(6,68,3)],size:=9,bytes:=168,zero:=[.bool false,.slice none 0 0,.slice none 0 0,.bool false,.slice none 0 0,.slice none 0 0,.bool false,.slice none 0 0,.slice none 0 0] }),
 (207,{ d:=.struct [(0,3,1),(1,3,1)],size:=2,bytes:=16,zero:=[.int .i64 0,.int .i64 0],eqn:=2 }),
 (238,{ d:=.slice 240,size:=1,bytes:=24,zero:=[.slice none 0 0] }),
 (239,{ d:=.struct [(0,80,3),(3,80,3)],size:=6,bytes:=112,zero:=[.bool false,.slice none 0 0,.slice none 0 0,.bool false,.slice none 0 0,.slice none 0 0] }),
 (244,{ d:=.slice 246,size:=1,bytes:=24,zero:=[.slice none 0 0] }),
 (245,{ d:=.struct [(0,80,3),(3,80,3),(6,80,3)],size:=9,bytes:=168,zero:=[.bool false,.slice none 0 0,.slice none 0 0,.bool false,.slice none 0 0,.slice none 0 0,.bool false,.slice none 0 0,.slice none 0 0] }),
 (255,{ d:=.slice 258,size:=1,bytes:=24,zero:=[.slice none 0 0] }),
 (298,{ d:=.int .u64,size:=1,bytes:=8,zero:=[.int .u64 0] }),
 (320,{ d:=.int .u32,size:=1,bytes:=4,zero:=[.int .u32 0] }),
 (323,{ d:=.int .u64,size:=1,bytes:=8,zero:=[.int .u64 0] }),
 (363,{ d:=.float,size:=1,bytes:=8,zero:=[.float .f64 0] })]
theorem mixed:Tryz.prog.follows .mixedOrders=true:=by kernel_rfl
theorem tt2:TIok Tryz.prog 2 { d:=.int .i64,size:=1,bytes:=8,zero:=[.int .i64 0] }:=.mk' (by kernel_rfl) (by show Program.underlying _ _=_;kernel_rfl)
theorem tt3:TIok Tryz.prog 3 { d:=.int .i64,size:=1,bytes:=8,zero:=[.int .i64 0] }:=.mk' (by kernel_rfl) (by show Program.underlying _ _=_;kernel_rfl)
theorem tt4:TIok Tryz.prog 4 { d:=.bool,size:=1,bytes:=1,zero:=[.bool false] }:=.mk' (by kernel_rfl) (by show Program.underlying _ _=_;kernel_rfl)
theorem tt5:TIok Tryz.prog 5 { d:=.int .u8,size:=1,bytes:=1,zero:=[.int .u8 0] }:=.mk' (by kernel_rfl) (by show Program.underlying _ _=_;kernel_rfl)
theorem tt9:TIok Tryz.prog 9 { d:=.str,size:=1,bytes:=16,zero:=[.string ⟨#[]⟩] }:=.mk' (by kernel_rfl) (by show Program.underlying _ _=_;kernel_rfl)
theorem tt21:TIok Tryz.prog 21 { d:=.int .i32,size:=1,bytes:=4,zero:=[.int .i32 0] }:=.mk' (by kernel_rfl) (by show Program.underlying _ _=_;kernel_rfl)
theorem tt22:TIok Tryz.prog 22 { d:=.struct [(0,3,1),(1,3,1)],size:=2,bytes:=16,zero:=[.int .i64 0,.int .i64 0],eqn:=2 }:=.mk' (by kernel_rfl) (by exact fits_struct (by kernel_rfl)) (fun _=>eqOk2 (ti:=3) (by kernel_rfl) (by kernel_rfl) (by kernel_rfl))
theorem tt23:TIok Tryz.prog 23 { d:=.struct [(0,3,1),(1,3,1)],size:=2,bytes:=16,zero:=[.int .i64 0,.int .i64 0],eqn:=2 }:=.mk' (by kernel_rfl) (by exact fits_struct (by kernel_rfl)) (fun _=>eqOk2 (ti:=3) (by kernel_rfl) (by kernel_rfl) (by kernel_rfl))
theorem tt24:TIok Tryz.prog 24 { d:=.struct [(0,23,2),(2,23,2)],size:=4,bytes:=32,zero:=[.int .i64 0,.int .i64 0,.int .i64 0,.int .i64 0] }:=.mk' (by kernel_rfl) (by exact fits_struct (by kernel_rfl))
theorem tt25:TIok Tryz.prog 25 { d:=.struct [(0,23,2),(2,23,2)],size:=4,bytes:=32,zero:=[.int .i64 0,.int .i64 0,.int .i64 0,.int .i64 0] }:=.mk' (by kernel_rfl) (by exact fits_struct (by kernel_rfl))
theorem tt26:TIok Tryz.prog 26 { d:=.slice 62,size:=1,bytes:=24,zero:=[.slice none 0 0] }:=.mk' (by kernel_rfl) (by show Program.underlying _ _=_;kernel_rfl)
theorem tt27:TIok Tryz.prog 27 { d:=.slice 199,size:=1,bytes:=24,zero:=[.slice none 0 0] }:=.mk' (by kernel_rfl) (by show Program.underlying _ _=_;kernel_rfl)
theorem tt28:TIok Tryz.prog 28 { d:=.slice 202,size:=1,bytes:=24,zero:=[.slice none 0 0] }:=.mk' (by kernel_rfl) (by show Program.underlying _ _=_;kernel_rfl)
theorem tt29:TIok Tryz.prog 29 { d:=.slice 207,size:=1,bytes:=24,zero:=[.slice none 0 0] }:=.mk' (by kernel_rfl) (by show Program.underlying _ _=_;kernel_rfl)
theorem tt30:TIok Tryz.prog 30 { d:=.slice 3,size:=1,bytes:=24,zero:=[.slice none 0 0] }:=.mk' (by kernel_rfl) (by show Program.underlying _ _=_;kernel_rfl)
theorem tt31:TIok Tryz.prog 31 { d:=.struct [(0,3,1),(1,4,1),(2,25,4),(6,26,1),(7,27,1),(8,28,1),(9,29,1),(10,30,1)],size:=11,bytes:=168,zero:=[.int .i64 0,.bool false,.int .i64 0,.int .i64 0,.int .i64 0,.int .i64 0,.slice none 0 0,.slice none 0 0,.slice none 0 0,.slice none 0 0,.slice none 0 0] }:=.mk' (by kernel_rfl) (by exact fits_struct (by kernel_rfl))
theorem tt32:TIok Tryz.prog 32 { d:=.struct [(0,3,1),(1,4,1),(2,25,4),(6,26,1),(7,27,1),(8,28,1),(9,29,1),(10,30,1)],size:=11,bytes:=168,zero:=[.int .i64 0,.bool false,.int .i64 0,.int .i64 0,.int .i64 0,.int .i64 0,.slice none 0 0,.slice none 0 0,.slice none 0 0,.slice none 0 0,.slice none 0 0] }:=.mk' (by kernel_rfl) (by exact fits_struct (by kernel_rfl))
theorem tt33:TIok Tryz.prog 33 { d:=.slice 70,size:=1,bytes:=24,zero:=[.slice none 0 0] }:=.mk' (by kernel_rfl) (by show Program.underlying _ _=_;kernel_rfl)
theorem tt37:TIok Tryz.prog 37 { d:=.struct [(0,3,1),(1,3,1)],size:=2,bytes:=16,zero:=[.int .i64 0,.int .i64 0],eqn:=2 }:=.mk' (by kernel_rfl) (by exact fits_struct (by kernel_rfl)) (fun _=>eqOk2 (ti:=3) (by kernel_rfl) (by kernel_rfl) (by kernel_rfl))
theorem tt38:TIok Tryz.prog 38 { d:=.struct [(0,37,2),(2,37,2)],size:=4,bytes:=32,zero:=[.int .i64 0,.int .i64 0,.int .i64 0,.int .i64 0] }:=.mk' (by kernel_rfl) (by exact fits_struct (by kernel_rfl))
theorem tt39:TIok Tryz.prog 39 { d:=.struct [(0,37,2),(2,37,2)],size:=4,bytes:=32,zero:=[.int .i64 0,.int .i64 0,.int .i64 0,.int .i64 0] }:=.mk' (by kernel_rfl) (by exact fits_struct (by kernel_rfl))
theorem tt40:TIok Tryz.prog 40 { d:=.slice 74,size:=1,bytes:=24,zero:=[.slice none 0 0] }:=.mk' (by kernel_rfl) (by show Program.underlying _ _=_;kernel_rfl)
theorem tt41:TIok Tryz.prog 41 { d:=.slice 190,size:=1,bytes:=24,zero:=[.slice none 0 0] }:=.mk' (by kernel_rfl) (by show Program.underlying _ _=_;kernel_rfl)
theorem tt42:TIok Tryz.prog 42 { d:=.slice 185,size:=1,bytes:=24,zero:=[.slice none 0 0] }:=.mk' (by kernel_rfl) (by show Program.underlying _ _=_;kernel_rfl)
theorem tt43:TIok Tryz.prog 43 { d:=.slice 195,size:=1,bytes:=24,zero:=[.slice none 0 0] }:=.mk' (by kernel_rfl) (by show Program.underlying _ _=_;kernel_rfl)
theorem tt44:TIok Tryz.prog 44 { d:=.struct [(0,3,1),(1,4,1),(2,39,4),(6,40,1),(7,41,1),(8,42,1),(9,43,1),(10,30,1)],size:=11,bytes:=168,zero:=[.int .i64 0,.bool false,.int .i64 0,.int .i64 0,.int .i64 0,.int .i64 0,.slice none 0 0,.slice none 0 0,.slice none 0 0,.slice none 0 0,.slice none 0 0] }:=.mk' (by kernel_rfl) (by exact fits_struct (by kernel_rfl))
theorem tt45:TIok Tryz.prog 45 { d:=.struct [(0,3,1),(1,4,1),(2,39,4),(6,40,1),(7,41,1),(8,42,1),(9,43,1),(10,30,1)],size:=11,bytes:=168,zero:=[.int .i64 0,.bool false,.int .i64 0,.int .i64 0,.int .i64 0,.int .i64 0,.slice none 0 0,.slice none 0 0,.slice none 0 0,.slice none 0 0,.slice none 0 0] }:=.mk' (by kernel_rfl) (by exact fits_struct (by kernel_rfl))
theorem tt47:TIok Tryz.prog 47 { d:=.slice 82,size:=1,bytes:=24,zero:=[.slice none 0 0] }:=.mk' (by kernel_rfl) (by show Program.underlying _ _=_;kernel_rfl)
theorem tt53:TIok Tryz.prog 53 { d:=.slice 80,size:=1,bytes:=24,zero:=[.slice none 0 0] }:=.mk' (by kernel_rfl) (by show Program.underlying _ _=_;kernel_rfl)
theorem tt62:TIok Tryz.prog 62 { d:=.slice 23,size:=1,bytes:=24,zero:=[.slice none 0 0] }:=.mk' (by kernel_rfl) (by show Program.underlying _ _=_;kernel_rfl)
theorem tt63:TIok Tryz.prog 63 { d:=.struct [(0,23,2),(2,23,2),(4,62,1),(5,26,1),(6,62,1)],size:=7,bytes:=104,zero:=[.int .i64 0,.int .i64 0,.int .i64 0,.int .i64 0,.slice none 0 0,.slice none 0 0,.slice none 0 0] }:=.mk' (by kernel_rfl) (by exact fits_struct (by kernel_rfl))
theorem tt64:TIok Tryz.prog 64 { d:=.struct [(0,23,2),(2,23,2),(4,62,1),(5,26,1),(6,62,1)],size:=7,bytes:=104,zero:=[.int .i64 0,.int .i64 0,.int .i64 0,.int .i64 0,.slice none 0 0,.slice none 0 0,.slice none 0 0] }:=.mk' (by kernel_rfl) (by exact fits_struct (by kernel_rfl))
theorem tt65:TIok Tryz.prog 65 { d:=.struct [(0,4,1),(1,30,1)],size:=2,bytes:=32,zero:=[.bool false,.slice none 0 0] }:=.mk' (by kernel_rfl) (by exact fits_struct (by kernel_rfl))
theorem tt66:TIok Tryz.prog 66 { d:=.struct [(0,4,1),(1,30,1)],size:=2,bytes:=32,zero:=[.bool false,.slice none 0 0] }:=.mk' (by kernel_rfl) (by exact fits_struct (by kernel_rfl))
theorem tt67:TIok Tryz.prog 67 { d:=.struct [(0,66,2),(2,30,1)],size:=3,bytes:=56,zero:=[.bool false,.slice none 0 0,.slice none 0 0] }:=.mk' (by kernel_rfl) (by exact fits_struct (by kernel_rfl))
theorem tt68:TIok Tryz.prog 68 { d:=.struct [(0,66,2),(2,30,1)],size:=3,bytes:=56,zero:=[.bool false,.slice none 0 0,.slice none 0 0] }:=.mk' (by kernel_rfl) (by exact fits_struct (by kernel_rfl))
theorem tt69:TIok Tryz.prog 69 { d:=.struct [(0,68,3),(3,68,3)],size:=6,bytes:=112,zero:=[.bool false,.slice none 0 0,.slice none 0 0,.bool false,.slice none 0 0,.slice none 0 0] }:=.mk' (by kernel_rfl) (by exact fits_struct (by kernel_rfl))
theorem tt70:TIok Tryz.prog 70 { d:=.struct [(0,68,3),(3,68,3)],size:=6,bytes:=112,zero:=[.bool false,.slice none 0 0,.slice none 0 0,.bool false,.slice none 0 0,.slice none 0 0] }:=.mk' (by kernel_rfl) (by exact fits_struct (by kernel_rfl))
theorem tt74:TIok Tryz.prog 74 { d:=.slice 37,size:=1,bytes:=24,zero:=[.slice none 0 0] }:=.mk' (by kernel_rfl) (by show Program.underlying _ _=_;kernel_rfl)
theorem tt75:TIok Tryz.prog 75 { d:=.struct [(0,37,2),(2,37,2),(4,74,1),(5,40,1),(6,74,1)],size:=7,bytes:=104,zero:=[.int .i64 0,.int .i64 0,.int .i64 0,.int .i64 0,.slice none 0 0,.slice none 0 0,.slice none 0 0] }:=.mk' (by kernel_rfl) (by exact fits_struct (by kernel_rfl))
theorem tt76:TIok Tryz.prog 76 { d:=.struct [(0,37,2),(2,37,2),(4,74,1),(5,40,1),(6,74,1)],size:=7,bytes:=104,zero:=[.int .i64 0,.int .i64 0,.int .i64 0,.int .i64 0,.slice none 0 0,.slice none 0 0,.slice none 0 0] }:=.mk' (by kernel_rfl) (by exact fits_struct (by kernel_rfl))
theorem tt78:TIok Tryz.prog 78 { d:=.struct [(0,4,1),(1,30,1)],size:=2,bytes:=32,zero:=[.bool false,.slice none 0 0] }:=.mk' (by kernel_rfl) (by exact fits_struct (by kernel_rfl))
theorem tt79:TIok Tryz.prog 79 { d:=.struct [(0,78,2),(2,30,1)],size:=3,bytes:=56,zero:=[.bool false,.slice none 0 0,.slice none 0 0] }:=.mk' (by kernel_rfl) (by exact fits_struct (by kernel_rfl))
theorem tt80:TIok Tryz.prog 80 { d:=.struct [(0,78,2),(2,30,1)],size:=3,bytes:=56,zero:=[.bool false,.slice none 0 0,.slice none 0 0] }:=.mk' (by kernel_rfl) (by exact fits_struct (by kernel_rfl))
theorem tt81:TIok Tryz.prog 81 { d:=.struct [(0,80,3),(3,80,3)],size:=6,bytes:=112,zero:=[.bool false,.slice none 0 0,.slice none 0 0,.bool false,.slice none 0 0,.slice none 0 0] }:=.mk' (by kernel_rfl) (by exact fits_struct (by kernel_rfl))
theorem tt82:TIok Tryz.prog 82 { d:=.struct [(0,80,3),(3,80,3)],size:=6,bytes:=112,zero:=[.bool false,.slice none 0 0,.slice none 0 0,.bool false,.slice none 0 0,.slice none 0 0] }:=.mk' (by kernel_rfl) (by exact fits_struct (by kernel_rfl))
theorem tt95:TIok Tryz.prog 95 { d:=.slice 32,size:=1,bytes:=24,zero:=[.slice none 0 0] }:=.mk' (by kernel_rfl) (by show Program.underlying _ _=_;kernel_rfl)
theorem tt96:TIok Tryz.prog 96 { d:=.slice 30,size:=1,bytes:=24,zero:=[.slice none 0 0] }:=.mk' (by kernel_rfl) (by show Program.underlying _ _=_;kernel_rfl)
theorem tt97:TIok Tryz.prog 97 { d:=.struct [(0,64,7),(7,95,1),(8,30,1),(9,96,1)],size:=10,bytes:=176,zero:=[.int .i64 0,.int .i64 0,.int .i64 0,.int .i64 0,.slice none 0 0,.slice none 0 0,.slice none 0 0,.slice none 0 0,.slice none 0 0,.slice none 0 0] }:=.mk' (by kernel_rfl) (by exact fits_struct (by kernel_rfl))
theorem tt98:TIok Tryz.prog 98 { d:=.struct [(0,64,7),(7,95,1),(8,30,1),(9,96,1)],size:=10,bytes:=176,zero:=[.int .i64 0,.int .i64 0,.int .i64 0,.int .i64 0,.slice none 0 0,.slice none 0 0,.slice none 0 0,.slice none 0 0,.slice none 0 0,.slice none 0 0] }:=.mk' (by kernel_rfl) (by exact fits_struct (by kernel_rfl))
theorem tt101:TIok Tryz.prog 101 { d:=.slice 45,size:=1,bytes:=24,zero:=[.slice none 0 0] }:=.mk' (by kernel_rfl) (by show Program.underlying _ _=_;kernel_rfl)
theorem tt102:TIok Tryz.prog 102 { d:=.struct [(0,76,7),(7,101,1),(8,30,1),(9,96,1)],size:=10,bytes:=176,zero:=[.int .i64 0,.int .i64 0,.int .i64 0,.int .i64 0,.slice none 0 0,.slice none 0 0,.slice none 0 0,.slice none 0 0,.slice none 0 0,.slice none 0 0] }:=.mk' (by kernel_rfl) (by exact fits_struct (by kernel_rfl))
theorem tt103:TIok Tryz.prog 103 { d:=.struct [(0,76,7),(7,101,1),(8,30,1),(9,96,1)],size:=10,bytes:=176,zero:=[.int .i64 0,.int .i64 0,.int .i64 0,.int .i64 0,.slice none 0 0,.slice none 0 0,.slice none 0 0,.slice none 0 0,.slice none 0 0,.slice none 0 0] }:=.mk' (by kernel_rfl) (by exact fits_struct (by kernel_rfl))
theorem tt138:TIok Tryz.prog 138 { d:=.slice 141,size:=1,bytes:=24,zero:=[.slice none 0 0] }:=.mk' (by kernel_rfl) (by show Program.underlying _ _=_;kernel_rfl)
theorem tt140:TIok Tryz.prog 140 { d:=.struct [(0,37,2),(2,37,2),(4,3,1),(5,4,1)],size:=6,bytes:=48,zero:=[.int .i64 0,.int .i64 0,.int .i64 0,.int .i64 0,.int .i64 0,.bool false] }:=.mk' (by kernel_rfl) (by exact fits_struct (by kernel_rfl))
theorem tt141:TIok Tryz.prog 141 { d:=.struct [(0,37,2),(2,37,2),(4,3,1),(5,4,1)],size:=6,bytes:=48,zero:=[.int .i64 0,.int .i64 0,.int .i64 0,.int .i64 0,.int .i64 0,.bool false] }:=.mk' (by kernel_rfl) (by exact fits_struct (by kernel_rfl))
theorem tt157:TIok Tryz.prog 157 { d:=.struct [(0,4,1),(1,39,4),(5,40,1)],size:=6,bytes:=64,zero:=[.bool false,.int .i64 0,.int .i64 0,.int .i64 0,.int .i64 0,.slice none 0 0] }:=.mk' (by kernel_rfl) (by exact fits_struct (by kernel_rfl))
theorem tt158:TIok Tryz.prog 158 { d:=.struct [(0,4,1),(1,39,4),(5,40,1)],size:=6,bytes:=64,zero:=[.bool false,.int .i64 0,.int .i64 0,.int .i64 0,.int .i64 0,.slice none 0 0] }:=.mk' (by kernel_rfl) (by exact fits_struct (by kernel_rfl))
theorem tt174:TIok Tryz.prog 174 { d:=.struct [(0,3,1),(1,82,6)],size:=7,bytes:=120,zero:=[.int .i64 0,.bool false,.slice none 0 0,.slice none 0 0,.bool false,.slice none 0 0,.slice none 0 0] }:=.mk' (by kernel_rfl) (by exact fits_struct (by kernel_rfl))
theorem tt175:TIok Tryz.prog 175 { d:=.struct [(0,3,1),(1,82,6)],size:=7,bytes:=120,zero:=[.int .i64 0,.bool false,.slice none 0 0,.slice none 0 0,.bool false,.slice none 0 0,.slice none 0 0] }:=.mk' (by kernel_rfl) (by exact fits_struct (by kernel_rfl))
theorem tt184:TIok Tryz.prog 184 { d:=.struct [(0,80,3),(3,80,3),(6,80,3)],size:=9,bytes:=168,zero:=[.bool false,.slice none 0 0,.slice none 0 0,.bool false,.slice none 0 0,.slice none 0 0,.bool false,.slice none 0 0,.slice none 0 0] }:=.mk' (by kernel_rfl) (by exact fits_struct (by kernel_rfl))
theorem tt185:TIok Tryz.prog 185 { d:=.struct [(0,80,3),(3,80,3),(6,80,3)],size:=9,bytes:=168,zero:=[.bool false,.slice none 0 0,.slice none 0 0,.bool false,.slice none 0 0,.slice none 0 0,.bool false,.slice none 0 0,.slice none 0 0] }:=.mk' (by kernel_rfl) (by exact fits_struct (by kernel_rfl))
theorem tt189:TIok Tryz.prog 189 { d:=.struct [(0,80,3),(3,80,3),(6,80,3),(9,80,3),(12,80,3),(15,80,3)],size:=18,bytes:=336,zero:=[.bool false,.slice none 0 0,.slice none 0 0,.bool false,.slice none 0 0,.slice none 0 0,.bool false,.slice none 0 0,.slice none 0 0,.bool false,.slice none 0 0,.slice none 0 0,.bool false,.slice none 0 0,.slice none 0 0,.bool false,.slice none 0 0,.slice none 0 0] }:=.mk' (by kernel_rfl) (by exact fits_struct (by kernel_rfl))
theorem tt190:TIok Tryz.prog 190 { d:=.struct [(0,80,3),(3,80,3),(6,80,3),(9,80,3),(12,80,3),(15,80,3)],size:=18,bytes:=336,zero:=[.bool false,.slice none 0 0,.slice none 0 0,.bool false,.slice none 0 0,.slice none 0 0,.bool false,.slice none 0 0,.slice none 0 0,.bool false,.slice none 0 0,.slice none 0 0,.bool false,.slice none 0 0,.slice none 0 0,.bool false,.slice none 0 0,.slice none 0 0] }:=.mk' (by kernel_rfl) (by exact fits_struct (by kernel_rfl))
theorem tt194:TIok Tryz.prog 194 { d:=.struct [(0,3,1),(1,3,1)],size:=2,bytes:=16,zero:=[.int .i64 0,.int .i64 0],eqn:=2 }:=.mk' (by kernel_rfl) (by exact fits_struct (by kernel_rfl)) (fun _=>eqOk2 (ti:=3) (by kernel_rfl) (by kernel_rfl) (by kernel_rfl))
theorem tt195:TIok Tryz.prog 195 { d:=.struct [(0,3,1),(1,3,1)],size:=2,bytes:=16,zero:=[.int .i64 0,.int .i64 0],eqn:=2 }:=.mk' (by kernel_rfl) (by exact fits_struct (by kernel_rfl)) (fun _=>eqOk2 (ti:=3) (by kernel_rfl) (by kernel_rfl) (by kernel_rfl))
theorem tt198:TIok Tryz.prog 198 { d:=.struct [(0,68,3),(3,68,3),(6,68,3),(9,68,3),(12,68,3),(15,68,3)],size:=18,bytes:=336,zero:=[.bool false,.slice none 0 0,.slice none 0 0,.bool false,.slice none 0 0,.slice none 0 0,.bool false,.slice none 0 0,.slice none 0 0,.bool false,.slice none 0 0,.slice none 0 0,.bool false,.slice none 0 0,.slice none 0 0,.bool false,.slice none 0 0,.slice none 0 0] }:=.mk' (by kernel_rfl) (by exact fits_struct (by kernel_rfl))
theorem tt199:TIok Tryz.prog 199 { d:=.struct [(0,68,3),(3,68,3),(6,68,3),(9,68,3),(12,68,3),(15,68,3)],size:=18,bytes:=336,zero:=[.bool false,.slice none 0 0,.slice none 0 0,.bool false,.slice none 0 0,.slice none 0 0,.bool false,.slice none 0 0,.slice none 0 0,.bool false,.slice none 0 0,.slice none 0 0,.bool false,.slice none 0 0,.slice none 0 0,.bool false,.slice none 0 0,.slice none 0 0] }:=.mk' (by kernel_rfl) (by exact fits_struct (by kernel_rfl))
theorem tt201:TIok Tryz.prog 201 { d:=.struct [(0,68,3),(3,68,3),(6,68,3)],size:=9,bytes:=168,zero:=[.bool false,.slice none 0 0,.slice none 0 0,.bool false,.slice none 0 0,.slice none 0 0,.bool false,.slice none 0 0,.slice none 0 0] }:=.mk' (by kernel_rfl) (by exact fits_struct (by kernel_rfl))
theorem tt202:TIok Tryz.prog 202 { d:=.struct [(0,68,3),(3,68,3),(6,68,3)],size:=9,bytes:=168,zero:=[.bool false,.slice none 0 0,.slice none 0 0,.bool false,.slice none 0 0,.slice none 0 0,.bool false,.slice none 0 0,.slice none 0 0] }:=.mk' (by kernel_rfl) (by exact fits_struct (by kernel_rfl))
theorem tt207:TIok Tryz.prog 207 { d:=.struct [(0,3,1),(1,3,1)],size:=2,bytes:=16,zero:=[.int .i64 0,.int .i64 0],eqn:=2 }:=.mk' (by kernel_rfl) (by exact fits_struct (by kernel_rfl)) (fun _=>eqOk2 (ti:=3) (by kernel_rfl) (by kernel_rfl) (by kernel_rfl))
theorem tt238:TIok Tryz.prog 238 { d:=.slice 240,size:=1,bytes:=24,zero:=[.slice none 0 0] }:=.mk' (by kernel_rfl) (by show Program.underlying _ _=_;kernel_rfl)
theorem tt239:TIok Tryz.prog 239 { d:=.struct [(0,80,3),(3,80,3)],size:=6,bytes:=112,zero:=[.bool false,.slice none 0 0,.slice none 0 0,.bool false,.slice none 0 0,.slice none 0 0] }:=.mk' (by kernel_rfl) (by exact fits_struct (by kernel_rfl))
theorem tt244:TIok Tryz.prog 244 { d:=.slice 246,size:=1,bytes:=24,zero:=[.slice none 0 0] }:=.mk' (by kernel_rfl) (by show Program.underlying _ _=_;kernel_rfl)
theorem tt245:TIok Tryz.prog 245 { d:=.struct [(0,80,3),(3,80,3),(6,80,3)],size:=9,bytes:=168,zero:=[.bool false,.slice none 0 0,.slice none 0 0,.bool false,.slice none 0 0,.slice none 0 0,.bool false,.slice none 0 0,.slice none 0 0] }:=.mk' (by kernel_rfl) (by exact fits_struct (by kernel_rfl))
theorem tt255:TIok Tryz.prog 255 { d:=.slice 258,size:=1,bytes:=24,zero:=[.slice none 0 0] }:=.mk' (by kernel_rfl) (by show Program.underlying _ _=_;kernel_rfl)
theorem tt298:TIok Tryz.prog 298 { d:=.int .u64,size:=1,bytes:=8,zero:=[.int .u64 0] }:=.mk' (by kernel_rfl) (by show Program.underlying _ _=_;kernel_rfl)
theorem tt320:TIok Tryz.prog 320 { d:=.int .u32,size:=1,bytes:=4,zero:=[.int .u32 0] }:=.mk' (by kernel_rfl) (by show Program.underlying _ _=_;kernel_rfl)
theorem tt323:TIok Tryz.prog 323 { d:=.int .u64,size:=1,bytes:=8,zero:=[.int .u64 0] }:=.mk' (by kernel_rfl) (by show Program.underlying _ _=_;kernel_rfl)
theorem tt363:TIok Tryz.prog 363 { d:=.float,size:=1,bytes:=8,zero:=[.float .f64 0] }:=.mk' (by kernel_rfl) (by show Program.underlying _ _=_;kernel_rfl)
theorem tt_ok:TTok Tryz.prog tt:=(TTok.cons tt2 (TTok.cons tt3 (TTok.cons tt4 (TTok.cons tt5 (TTok.cons tt9 (TTok.cons tt21 (TTok.cons tt22 (TTok.cons tt23 (TTok.cons tt24 (TTok.cons tt25 (TTok.cons tt26 (TTok.cons tt27 (TTok.cons tt28 (TTok.cons tt29 (TTok.cons tt30 (TTok.cons tt31 (TTok.cons tt32 (TTok.cons tt33 (TTok.cons tt37 (TTok.cons tt38 (TTok.cons tt39 (TTok.cons tt40 (TTok.cons tt41 (TTok.cons tt42 (TTok.cons tt43 (TTok.cons tt44 (TTok.cons tt45 (TTok.cons tt47 (TTok.cons tt53 (TTok.cons tt62 (TTok.cons tt63 (TTok.cons tt64 (TTok.cons tt65 (TTok.cons tt66 (TTok.cons tt67 (TTok.cons tt68 (TTok.cons tt69 (TTok.cons tt70 (TTok.cons tt74 (TTok.cons tt75 (TTok.cons tt76 (TTok.cons tt78 (TTok.cons tt79 (TTok.cons tt80 (TTok.cons tt81 (TTok.cons tt82 (TTok.cons tt95 (TTok.cons tt96 (TTok.cons tt97 (TTok.cons tt98 (TTok.cons tt101 (TTok.cons tt102 (TTok.cons tt103 (TTok.cons tt138 (TTok.cons tt140 (TTok.cons tt141 (TTok.cons tt157 (TTok.cons tt158 (TTok.cons tt174 (TTok.cons tt175 (TTok.cons tt184 (TTok.cons tt185 (TTok.cons tt189 (TTok.cons tt190 (TTok.cons tt194 (TTok.cons tt195 (TTok.cons tt198 (TTok.cons tt199 (TTok.cons tt201 (TTok.cons tt202 (TTok.cons tt207 (TTok.cons tt238 (TTok.cons tt239 (TTok.cons tt244 (TTok.cons tt245 (TTok.cons tt255 (TTok.cons tt298 (TTok.cons tt320 (TTok.cons tt323 (TTok.cons tt363 (TTok.nil _)))))))))))))))))))))))))))))))))))))))))))))))))))))))))))))))))))))))))))))))))
end Go.Proofs.YtblmlkdefjoebaaGreat
