import Derived.Test.YthoidhehmmcgnaaGreatWtExC
import Derived.Test.YthoidhehmmcgnaaGreatProg
import Derived.KernelRfl
namespace Go.Proofs.YthoidhehmmcgnaaGreat
set_option linter.unusedVariables false
set_option linter.unusedSimpArgs false
open Go.RowKit
theorem TIok.mk'{P:Program}{t:Nat}{i:TI}(h1:(P.info? t).map (λi=>(i.size,i.bytes,i.zero.map (·.cells)))=some (i.size,i.bytes,some i.zero.toArray))(h2:i.d.fits P t)(h3:i.eqn≠0->AAX P t i.eqn:=by intro h;exact absurd rfl h):TIok P t i:=by
 refine⟨?_,h2,h3⟩;cases h:P.info? t with|none=>rw[h]at h1;cases h1|some inf=>rw[h]at h1;simp only[Option.map_some,Option.some.injEq,Prod.mk.injEq]at h1;exact⟨inf,rfl,h1.1,h1.2.1,h1.2.2⟩
theorem AX{P:Program}{t:Nat}{fs:List (Nat×Nat×Nat)}(h:(match P.underlying t with|some (.struct fl)=>some (fl.toList.map (λf=>(f.offset,f.type)),fl.toList.mapM (λf=>(P.info? f.type).map λi=>(f.offset,i.size)))|_=>none)=some (fs.map (λx=>(x.1,x.2.1)),some (fs.map λx=>(x.1,x.2.2)))):TD.fits P t (.struct fs):=by simp only[TD.fits];split at h;rename_i fl hu;simp only[Option.some.injEq,Prod.mk.injEq]at h;exact⟨fl,hu,h.1,h.2⟩;cases h
theorem Xc{P:Program}{t ti:Nat}(h:(match P.underlying t with|some (.struct fl)=>some (fl.toList.map λf=>(f.offset,f.type,f.name == "_"))|_=>none)=some [(0,ti,false),(1,ti,false)])
  (hi:P.underlying ti=some (.int .i64)) (hs:(P.eqGuardType P.depth t,P.stoodInHeld t)=(false,false)):AAX P t 2:=by
 simp only[Prod.mk.injEq]at hs;obtain⟨g1,g2⟩:=hs;refine⟨g1,λw xs ys hx hy=>?_⟩;split at h
 ·rename_i fl hu
  simp only[Option.some.injEq]at h
  obtain⟨f0,f1,a0⟩:∃f0 f1,fl.toList=[f0,f1]:=by
   have hl:=congrArg List.length h;simp only[List.length_map,List.length_cons,List.length_nil]at hl;match hq:fl.toList,hl with| [a,b],_=>exact⟨a,b,rfl⟩
  rw[a0]at h;simp only[List.map_cons,List.map_nil,List.cons.injEq,Prod.mk.injEq,and_true]at h;obtain⟨⟨a1,a2,a3⟩,b1,b2,b3⟩:=h;match xs,hx,ys,hy with
  | [x0,x1],_,[y0,y1],_=>
  have a4:(Go.isAgg ti).run P w=.ok false w:=by simp[Go.isAgg,Go.underlying,program,Sem.run,hi]
  have hp0:∀(u v:Int),(Go.part ti #[Value.int .i64 u,Value.int .i64 v] 0).run P w=.ok (.int .i64 u) w:=by intro u v;simp[Go.part,a4]
  have hp1:∀(u v:Int),(Go.part ti #[Value.int .i64 u,Value.int .i64 v] 1).run P w=.ok (.int .i64 v) w:=by intro u v;simp[Go.part,a4]
  have he:∀a b:Int,(Op.equalIn 9999 ti (.int .i64 a) (.int .i64 b)).run P w=.ok (a == b) w:=by intro a b;show(Op.equalIn (9998+1) ti (.int .i64 a) (.int .i64 b)).run P w=_;rw[Op.equalIn];simp only[Sem.run_bind,Ad hi,Result.andThen_ok];simp
  have n0:¬f0.name = "_" := by simpa using a3
  have n1:¬f1.name = "_" := by simpa using b3
  have a5:fl=#[f0,f1]:=Array.ext' a0;show(Op.equalIn (9999+1) t _ _).run P w=_;rw[Op.equalIn];subst a5;simp only[Sem.run_bind,Ad hu,Result.andThen_ok];by_cases e0:x0=y0
  ·by_cases e1:x1=y1
   ·simp[program,Sem.run,g2,n0,n1,a1,a2,b1,b2,hp0,hp1,he,e0,e1]
   ·simp[program,Sem.run,g2,n0,n1,a1,a2,b1,b2,hp0,hp1,he,e0,e1]
  ·simp[program,Sem.run,g2,n0,n1,a1,a2,b1,b2,hp0,hp1,he,e0]
 ·cases h
def tt:TT:=[(2,{d:=.int .i64,size:=1,bytes:=8,zero:=[.int .i64 0]}),
 (3,{d:=.int .i64,size:=1,bytes:=8,zero:=[.int .i64 0]}),
 (4,{d:=.bool,size:=1,bytes:=1,zero:=[.bool false]}),
 (5,{d:=.int .u8,size:=1,bytes:=1,zero:=[.int .u8 0]}),
 (9,{d:=.str,size:=1,bytes:=16,zero:=[.string ⟨#[]⟩]}),
 (21,{d:=.int .i32,size:=1,bytes:=4,zero:=[.int .i32 0]}),
 (22,{d:=.struct [(0,3,1),(1,3,1)],size:=2,bytes:=16,zero:=[.int .i64 0,.int .i64 0],eqn:=2}),
 (23,{d:=.struct [(0,3,1),(1,3,1)],size:=2,bytes:=16,zero:=[.int .i64 0,.int .i64 0],eqn:=2}),
 (24,{d:=.struct [(0,23,2),(2,23,2)],size:=4,bytes:=32,zero:=[.int .i64 0,.int .i64 0,.int .i64 0,.int .i64 0]}),
 (25,{d:=.struct [(0,23,2),(2,23,2)],size:=4,bytes:=32,zero:=[.int .i64 0,.int .i64 0,.int .i64 0,.int .i64 0]}),
 (26,{d:=.slice 59,size:=1,bytes:=24,zero:=[.slice none 0 0]}),
 (27,{d:=.slice 3,size:=1,bytes:=24,zero:=[.slice none 0 0]}),
 (28,{d:=.struct [(0,4,1),(1,27,1)],size:=2,bytes:=32,zero:=[.bool false,.slice none 0 0]}),
 (29,{d:=.struct [(0,4,1),(1,27,1)],size:=2,bytes:=32,zero:=[.bool false,.slice none 0 0]}),
 (30,{d:=.struct [(0,29,2),(2,27,1)],size:=3,bytes:=56,zero:=[.bool false,.slice none 0 0,.slice none 0 0]}),
 (31,{d:=.struct [(0,29,2),(2,27,1)],size:=3,bytes:=56,zero:=[.bool false,.slice none 0 0,.slice none 0 0]}),
 (34,{d:=.slice 72,size:=1,bytes:=24,zero:=[.slice none 0 0]}),
 (36,{d:=.struct [(0,3,1),(1,3,1)],size:=2,bytes:=16,zero:=[.int .i64 0,.int .i64 0],eqn:=2}),
 (37,{d:=.struct [(0,36,2),(2,36,2)],size:=4,bytes:=32,zero:=[.int .i64 0,.int .i64 0,.int .i64 0,.int .i64 0]}),
 (38,{d:=.struct [(0,36,2),(2,36,2)],size:=4,bytes:=32,zero:=[.int .i64 0,.int .i64 0,.int .i64 0,.int .i64 0]}),
 (40,{d:=.slice 66,size:=1,bytes:=24,zero:=[.slice none 0 0]}),
 (42,{d:=.struct [(0,4,1),(1,27,1)],size:=2,bytes:=32,zero:=[.bool false,.slice none 0 0]}),
 (43,{d:=.struct [(0,42,2),(2,27,1)],size:=3,bytes:=56,zero:=[.bool false,.slice none 0 0,.slice none 0 0]}),
 (44,{d:=.struct [(0,42,2),(2,27,1)],size:=3,bytes:=56,zero:=[.bool false,.slice none 0 0,.slice none 0 0]}),
 (53,{d:=.slice 81,size:=1,bytes:=24,zero:=[.slice none 0 0]}),
 (59,{d:=.slice 23,size:=1,bytes:=24,zero:=[.slice none 0 0]}),
 (62,{d:=.slice 44,size:=1,bytes:=24,zero:=[.slice none 0 0]}),
 (66,{d:=.slice 36,size:=1,bytes:=24,zero:=[.slice none 0 0]}),
 (71,{d:=.struct [(0,44,3),(3,44,3),(6,44,3),(9,44,3),(12,44,3),(15,44,3)],size:=18,bytes:=336,zero:=[.bool false,.slice none 0 0,.slice none 0 0,.bool false,.slice none 0 0,.slice none 0 0,.bool false,.slice none 0 0,.slice none 0 0,.bool false,.slice none 0 0,.slice none 0 0,.bool false,.slice none 0 0,.slice none 0 0,.bool false,.slice none 0 0,.slice none 0 0]}),
 (72,{d:=.struct [(0,44,3),(3,44,3),(6,44,3),(9,44,3),(12,44,3),(15,44,3)],size:=18,bytes:=336,zero:=[.bool false,.slice none 0 0,.slice none 0 0,.bool false,.slice none 0 0,.slice none 0 0,.bool false,.slice none 0 0,.slice none 0 0,.bool false,.slice none 0 0,.slice none 0 0,.bool false,.slice none 0 0,.slice none 0 0,.bool false,.slice none 0 0,.slice none 0 0]}),
 (80,{d:=.struct [(0,44,3),(3,44,3),(6,44,3)],size:=9,bytes:=168,zero:=[.bool false,.slice none 0 0,.slice none 0 0,.bool false,.slice none 0 0,.slice none 0 0,.bool false,.slice none 0 0,.slice none 0 0]}),
 (81,{d:=.struct [(0,44,3),(3,44,3),(6,44,3)],size:=9,bytes:=168,zero:=[.bool false,.slice none 0 0,.slice none 0 0,.bool false,.slice none 0 0,.slice none 0 0,.bool false,.slice none 0 0,.slice none 0 0]}),
 (84,{d:=.slice 87,size:=1,bytes:=24,zero:=[.slice none 0 0]}),
 (86,{d:=.struct [(0,36,2),(2,36,2),(4,3,1),(5,4,1)],size:=6,bytes:=48,zero:=[.int .i64 0,.int .i64 0,.int .i64 0,.int .i64 0,.int .i64 0,.bool false]}),
 (87,{d:=.struct [(0,36,2),(2,36,2),(4,3,1),(5,4,1)],size:=6,bytes:=48,zero:=[.int .i64 0,.int .i64 0,.int .i64 0,.int .i64 0,.int .i64 0,.bool false]}),
 (93,{d:=.slice 95,size:=1,bytes:=24,zero:=[.slice none 0 0]}),
 (94,{d:=.struct [(0,44,3),(3,44,3),(6,44,3)],size:=9,bytes:=168,zero:=[.bool false,.slice none 0 0,.slice none 0 0,.bool false,.slice none 0 0,.slice none 0 0,.bool false,.slice none 0 0,.slice none 0 0]}),
 (95,{d:=.struct [(0,44,3),(3,44,3),(6,44,3)],size:=9,bytes:=168,zero:=[.bool false,.slice none 0 0,.slice none 0 0,.bool false,.slice none 0 0,.slice none 0 0,.bool false,.slice none 0 0,.slice none 0 0]}),
 (105,{d:=.struct [(0,44,3),(3,44,3)],size:=6,bytes:=112,zero:=[.bool false,.slice none 0 0,.slice none 0 0,.bool false,.slice none 0 0,.slice none 0 0]}),
 (106,{d:=.struct [(0,44,3),(3,44,3)],size:=6,bytes:=112,zero:=[.bool false,.slice none 0 0,.slice none 0 0,.bool false,.slice none 0 0,.slice none 0 0]}),
 (111,{d:=.slice 114,size:=1,bytes:=24,zero:=[.slice none 0 0]}),
 (113,{d:=.struct [(0,106,6),(6,106,6)],size:=12,bytes:=224,zero:=[.bool false,.slice none 0 0,.slice none 0 0,.bool false,.slice none 0 0,.slice none 0 0,.bool false,.slice none 0 0,.slice none 0 0,.bool false,.slice none 0 0,.slice none 0 0]}),
 (114,{d:=.struct [(0,106,6),(6,106,6)],size:=12,bytes:=224,zero:=[.bool false,.slice none 0 0,.slice none 0 0,.bool false,.slice none 0 0,.slice none 0 0,.bool false,.slice none 0 0,.slice none 0 0,.bool false,.slice none 0 0,.slice none 0 0]}),
 (119,{d:=.slice 106,size:=1,bytes:=24,zero:=[.slice none 0 0]}),
 (164,{d:=.int .u64,size:=1,bytes:=8,zero:=[.int .u64 0]}),
 (180,{d:=.int .u32,size:=1,bytes:=4,zero:=[.int .u32 0]}),
 (182,{d:=.int .u64,size:=1,bytes:=8,zero:=[.int .u64 0]}),
 (190,{d:=.float,size:=1,bytes:=8,zero:=[.float .f64 0]})]
theorem mixed:Tryz.prog.follows .mixedOrders=true:=by kernel_rfl
theorem tt2:TIok Tryz.prog 2 {d:=.int .i64,size:=1,bytes:=8,zero:=[.int .i64 0]}:=.mk' (by kernel_rfl) (by show Program.underlying _ _=_;kernel_rfl)
theorem tt3:TIok Tryz.prog 3 {d:=.int .i64,size:=1,bytes:=8,zero:=[.int .i64 0]}:=.mk' (by kernel_rfl) (by show Program.underlying _ _=_;kernel_rfl)
theorem tt4:TIok Tryz.prog 4 {d:=.bool,size:=1,bytes:=1,zero:=[.bool false]}:=.mk' (by kernel_rfl) (by show Program.underlying _ _=_;kernel_rfl)
theorem tt5:TIok Tryz.prog 5 {d:=.int .u8,size:=1,bytes:=1,zero:=[.int .u8 0]}:=.mk' (by kernel_rfl) (by show Program.underlying _ _=_;kernel_rfl)
theorem tt9:TIok Tryz.prog 9 {d:=.str,size:=1,bytes:=16,zero:=[.string ⟨#[]⟩]}:=.mk' (by kernel_rfl) (by show Program.underlying _ _=_;kernel_rfl)
theorem ACF:TIok Tryz.prog 21 {d:=.int .i32,size:=1,bytes:=4,zero:=[.int .i32 0]}:=.mk' (by kernel_rfl) (by show Program.underlying _ _=_;kernel_rfl)
theorem ACG:TIok Tryz.prog 22 {d:=.struct [(0,3,1),(1,3,1)],size:=2,bytes:=16,zero:=[.int .i64 0,.int .i64 0],eqn:=2}:=.mk' (by kernel_rfl) (by exact AX (by kernel_rfl)) (λ_=>Xc (ti:=3) (by kernel_rfl) (by kernel_rfl) (by kernel_rfl))
theorem ACH:TIok Tryz.prog 23 {d:=.struct [(0,3,1),(1,3,1)],size:=2,bytes:=16,zero:=[.int .i64 0,.int .i64 0],eqn:=2}:=.mk' (by kernel_rfl) (by exact AX (by kernel_rfl)) (λ_=>Xc (ti:=3) (by kernel_rfl) (by kernel_rfl) (by kernel_rfl))
theorem ACI:TIok Tryz.prog 24 {d:=.struct [(0,23,2),(2,23,2)],size:=4,bytes:=32,zero:=[.int .i64 0,.int .i64 0,.int .i64 0,.int .i64 0]}:=.mk' (by kernel_rfl) (by exact AX (by kernel_rfl))
theorem ACJ:TIok Tryz.prog 25 {d:=.struct [(0,23,2),(2,23,2)],size:=4,bytes:=32,zero:=[.int .i64 0,.int .i64 0,.int .i64 0,.int .i64 0]}:=.mk' (by kernel_rfl) (by exact AX (by kernel_rfl))
theorem ACK:TIok Tryz.prog 26 {d:=.slice 59,size:=1,bytes:=24,zero:=[.slice none 0 0]}:=.mk' (by kernel_rfl) (by show Program.underlying _ _=_;kernel_rfl)
theorem ACL:TIok Tryz.prog 27 {d:=.slice 3,size:=1,bytes:=24,zero:=[.slice none 0 0]}:=.mk' (by kernel_rfl) (by show Program.underlying _ _=_;kernel_rfl)
theorem ACM:TIok Tryz.prog 28 {d:=.struct [(0,4,1),(1,27,1)],size:=2,bytes:=32,zero:=[.bool false,.slice none 0 0]}:=.mk' (by kernel_rfl) (by exact AX (by kernel_rfl))
theorem ACN:TIok Tryz.prog 29 {d:=.struct [(0,4,1),(1,27,1)],size:=2,bytes:=32,zero:=[.bool false,.slice none 0 0]}:=.mk' (by kernel_rfl) (by exact AX (by kernel_rfl))
theorem ACO:TIok Tryz.prog 30 {d:=.struct [(0,29,2),(2,27,1)],size:=3,bytes:=56,zero:=[.bool false,.slice none 0 0,.slice none 0 0]}:=.mk' (by kernel_rfl) (by exact AX (by kernel_rfl))
theorem ACP:TIok Tryz.prog 31 {d:=.struct [(0,29,2),(2,27,1)],size:=3,bytes:=56,zero:=[.bool false,.slice none 0 0,.slice none 0 0]}:=.mk' (by kernel_rfl) (by exact AX (by kernel_rfl))
theorem ACQ:TIok Tryz.prog 34 {d:=.slice 72,size:=1,bytes:=24,zero:=[.slice none 0 0]}:=.mk' (by kernel_rfl) (by show Program.underlying _ _=_;kernel_rfl)
theorem ACR:TIok Tryz.prog 36 {d:=.struct [(0,3,1),(1,3,1)],size:=2,bytes:=16,zero:=[.int .i64 0,.int .i64 0],eqn:=2}:=.mk' (by kernel_rfl) (by exact AX (by kernel_rfl)) (λ_=>Xc (ti:=3) (by kernel_rfl) (by kernel_rfl) (by kernel_rfl))
theorem ACS:TIok Tryz.prog 37 {d:=.struct [(0,36,2),(2,36,2)],size:=4,bytes:=32,zero:=[.int .i64 0,.int .i64 0,.int .i64 0,.int .i64 0]}:=.mk' (by kernel_rfl) (by exact AX (by kernel_rfl))
theorem ACT:TIok Tryz.prog 38 {d:=.struct [(0,36,2),(2,36,2)],size:=4,bytes:=32,zero:=[.int .i64 0,.int .i64 0,.int .i64 0,.int .i64 0]}:=.mk' (by kernel_rfl) (by exact AX (by kernel_rfl))
theorem ACU:TIok Tryz.prog 40 {d:=.slice 66,size:=1,bytes:=24,zero:=[.slice none 0 0]}:=.mk' (by kernel_rfl) (by show Program.underlying _ _=_;kernel_rfl)
theorem ACV:TIok Tryz.prog 42 {d:=.struct [(0,4,1),(1,27,1)],size:=2,bytes:=32,zero:=[.bool false,.slice none 0 0]}:=.mk' (by kernel_rfl) (by exact AX (by kernel_rfl))
theorem ACW:TIok Tryz.prog 43 {d:=.struct [(0,42,2),(2,27,1)],size:=3,bytes:=56,zero:=[.bool false,.slice none 0 0,.slice none 0 0]}:=.mk' (by kernel_rfl) (by exact AX (by kernel_rfl))
theorem ACX:TIok Tryz.prog 44 {d:=.struct [(0,42,2),(2,27,1)],size:=3,bytes:=56,zero:=[.bool false,.slice none 0 0,.slice none 0 0]}:=.mk' (by kernel_rfl) (by exact AX (by kernel_rfl))
theorem ACY:TIok Tryz.prog 53 {d:=.slice 81,size:=1,bytes:=24,zero:=[.slice none 0 0]}:=.mk' (by kernel_rfl) (by show Program.underlying _ _=_;kernel_rfl)
theorem ACZ:TIok Tryz.prog 59 {d:=.slice 23,size:=1,bytes:=24,zero:=[.slice none 0 0]}:=.mk' (by kernel_rfl) (by show Program.underlying _ _=_;kernel_rfl)
theorem ACa:TIok Tryz.prog 62 {d:=.slice 44,size:=1,bytes:=24,zero:=[.slice none 0 0]}:=.mk' (by kernel_rfl) (by show Program.underlying _ _=_;kernel_rfl)
theorem ACb:TIok Tryz.prog 66 {d:=.slice 36,size:=1,bytes:=24,zero:=[.slice none 0 0]}:=.mk' (by kernel_rfl) (by show Program.underlying _ _=_;kernel_rfl)
theorem ACc:TIok Tryz.prog 71 {d:=.struct [(0,44,3),(3,44,3),(6,44,3),(9,44,3),(12,44,3),(15,44,3)],size:=18,bytes:=336,zero:=[.bool false,.slice none 0 0,.slice none 0 0,.bool false,.slice none 0 0,.slice none 0 0,.bool false,.slice none 0 0,.slice none 0 0,.bool false,.slice none 0 0,.slice none 0 0,.bool false,.slice none 0 0,.slice none 0 0,.bool false,.slice none 0 0,.slice none 0 0]}:=.mk' (by kernel_rfl) (by exact AX (by kernel_rfl))
theorem ACd:TIok Tryz.prog 72 {d:=.struct [(0,44,3),(3,44,3),(6,44,3),(9,44,3),(12,44,3),(15,44,3)],size:=18,bytes:=336,zero:=[.bool false,.slice none 0 0,.slice none 0 0,.bool false,.slice none 0 0,.slice none 0 0,.bool false,.slice none 0 0,.slice none 0 0,.bool false,.slice none 0 0,.slice none 0 0,.bool false,.slice none 0 0,.slice none 0 0,.bool false,.slice none 0 0,.slice none 0 0]}:=.mk' (by kernel_rfl) (by exact AX (by kernel_rfl))
theorem ACe:TIok Tryz.prog 80 {d:=.struct [(0,44,3),(3,44,3),(6,44,3)],size:=9,bytes:=168,zero:=[.bool false,.slice none 0 0,.slice none 0 0,.bool false,.slice none 0 0,.slice none 0 0,.bool false,.slice none 0 0,.slice none 0 0]}:=.mk' (by kernel_rfl) (by exact AX (by kernel_rfl))
theorem ACf:TIok Tryz.prog 81 {d:=.struct [(0,44,3),(3,44,3),(6,44,3)],size:=9,bytes:=168,zero:=[.bool false,.slice none 0 0,.slice none 0 0,.bool false,.slice none 0 0,.slice none 0 0,.bool false,.slice none 0 0,.slice none 0 0]}:=.mk' (by kernel_rfl) (by exact AX (by kernel_rfl))
theorem ACg:TIok Tryz.prog 84 {d:=.slice 87,size:=1,bytes:=24,zero:=[.slice none 0 0]}:=.mk' (by kernel_rfl) (by show Program.underlying _ _=_;kernel_rfl)
theorem ACh:TIok Tryz.prog 86 {d:=.struct [(0,36,2),(2,36,2),(4,3,1),(5,4,1)],size:=6,bytes:=48,zero:=[.int .i64 0,.int .i64 0,.int .i64 0,.int .i64 0,.int .i64 0,.bool false]}:=.mk' (by kernel_rfl) (by exact AX (by kernel_rfl))
theorem ACi:TIok Tryz.prog 87 {d:=.struct [(0,36,2),(2,36,2),(4,3,1),(5,4,1)],size:=6,bytes:=48,zero:=[.int .i64 0,.int .i64 0,.int .i64 0,.int .i64 0,.int .i64 0,.bool false]}:=.mk' (by kernel_rfl) (by exact AX (by kernel_rfl))
theorem ACj:TIok Tryz.prog 93 {d:=.slice 95,size:=1,bytes:=24,zero:=[.slice none 0 0]}:=.mk' (by kernel_rfl) (by show Program.underlying _ _=_;kernel_rfl)
theorem ACk:TIok Tryz.prog 94 {d:=.struct [(0,44,3),(3,44,3),(6,44,3)],size:=9,bytes:=168,zero:=[.bool false,.slice none 0 0,.slice none 0 0,.bool false,.slice none 0 0,.slice none 0 0,.bool false,.slice none 0 0,.slice none 0 0]}:=.mk' (by kernel_rfl) (by exact AX (by kernel_rfl))
theorem ACl:TIok Tryz.prog 95 {d:=.struct [(0,44,3),(3,44,3),(6,44,3)],size:=9,bytes:=168,zero:=[.bool false,.slice none 0 0,.slice none 0 0,.bool false,.slice none 0 0,.slice none 0 0,.bool false,.slice none 0 0,.slice none 0 0]}:=.mk' (by kernel_rfl) (by exact AX (by kernel_rfl))
theorem ABe:TIok Tryz.prog 105 {d:=.struct [(0,44,3),(3,44,3)],size:=6,bytes:=112,zero:=[.bool false,.slice none 0 0,.slice none 0 0,.bool false,.slice none 0 0,.slice none 0 0]}:=.mk' (by kernel_rfl) (by exact AX (by kernel_rfl))
theorem ABf:TIok Tryz.prog 106 {d:=.struct [(0,44,3),(3,44,3)],size:=6,bytes:=112,zero:=[.bool false,.slice none 0 0,.slice none 0 0,.bool false,.slice none 0 0,.slice none 0 0]}:=.mk' (by kernel_rfl) (by exact AX (by kernel_rfl))
theorem ABg:TIok Tryz.prog 111 {d:=.slice 114,size:=1,bytes:=24,zero:=[.slice none 0 0]}:=.mk' (by kernel_rfl) (by show Program.underlying _ _=_;kernel_rfl)
theorem ABh:TIok Tryz.prog 113 {d:=.struct [(0,106,6),(6,106,6)],size:=12,bytes:=224,zero:=[.bool false,.slice none 0 0,.slice none 0 0,.bool false,.slice none 0 0,.slice none 0 0,.bool false,.slice none 0 0,.slice none 0 0,.bool false,.slice none 0 0,.slice none 0 0]}:=.mk' (by kernel_rfl) (by exact AX (by kernel_rfl))
theorem ABi:TIok Tryz.prog 114 {d:=.struct [(0,106,6),(6,106,6)],size:=12,bytes:=224,zero:=[.bool false,.slice none 0 0,.slice none 0 0,.bool false,.slice none 0 0,.slice none 0 0,.bool false,.slice none 0 0,.slice none 0 0,.bool false,.slice none 0 0,.slice none 0 0]}:=.mk' (by kernel_rfl) (by exact AX (by kernel_rfl))
theorem ABj:TIok Tryz.prog 119 {d:=.slice 106,size:=1,bytes:=24,zero:=[.slice none 0 0]}:=.mk' (by kernel_rfl) (by show Program.underlying _ _=_;kernel_rfl)
theorem ABk:TIok Tryz.prog 164 {d:=.int .u64,size:=1,bytes:=8,zero:=[.int .u64 0]}:=.mk' (by kernel_rfl) (by show Program.underlying _ _=_;kernel_rfl)
theorem ABl:TIok Tryz.prog 180 {d:=.int .u32,size:=1,bytes:=4,zero:=[.int .u32 0]}:=.mk' (by kernel_rfl) (by show Program.underlying _ _=_;kernel_rfl)
theorem ABm:TIok Tryz.prog 182 {d:=.int .u64,size:=1,bytes:=8,zero:=[.int .u64 0]}:=.mk' (by kernel_rfl) (by show Program.underlying _ _=_;kernel_rfl)
theorem ABn:TIok Tryz.prog 190 {d:=.float,size:=1,bytes:=8,zero:=[.float .f64 0]}:=.mk' (by kernel_rfl) (by show Program.underlying _ _=_;kernel_rfl)
theorem AG:TTok Tryz.prog tt:=(TTok.cons tt2 (TTok.cons tt3 (TTok.cons tt4 (TTok.cons tt5 (TTok.cons tt9 (TTok.cons ACF (TTok.cons ACG (TTok.cons ACH (TTok.cons ACI (TTok.cons ACJ (TTok.cons ACK (TTok.cons ACL (TTok.cons ACM (TTok.cons ACN (TTok.cons ACO (TTok.cons ACP (TTok.cons ACQ (TTok.cons ACR (TTok.cons ACS (TTok.cons ACT (TTok.cons ACU (TTok.cons ACV (TTok.cons ACW (TTok.cons ACX (TTok.cons ACY (TTok.cons ACZ (TTok.cons ACa (TTok.cons ACb (TTok.cons ACc (TTok.cons ACd (TTok.cons ACe (TTok.cons ACf (TTok.cons ACg (TTok.cons ACh (TTok.cons ACi (TTok.cons ACj (TTok.cons ACk (TTok.cons ACl (TTok.cons ABe (TTok.cons ABf (TTok.cons ABg (TTok.cons ABh (TTok.cons ABi (TTok.cons ABj (TTok.cons ABk (TTok.cons ABl (TTok.cons ABm (TTok.cons ABn (TTok.nil _)))))))))))))))))))))))))))))))))))))))))))))))))
abbrev w24(r:List Dat):DA:=.agg [cI (r.getD 0 (.int 0)).n,cI (r.getD 1 (.int 0)).n,cI (r.getD 2 (.int 0)).n,cI (r.getD 3 (.int 0)).n]
abbrev z30:List Ty:=[.bool,.sl 3 [.int],.sl 3 [.int]]
abbrev w30(r:List Dat):DA:=.agg [cB (r.getD 0 (.int 0)).b,cS (r.getD 1 (.int 0)).r,cS (r.getD 2 (.int 0)).r]
abbrev z86:List Ty:=[.int,.int,.int,.int,.int,.bool]
abbrev AAn:List Ty:=[.bool,.sl 3 [.int],.sl 3 [.int],.bool,.sl 3 [.int],.sl 3 [.int]]
abbrev z80:List Ty:=[.bool,.sl 3 [.int],.sl 3 [.int],.bool,.sl 3 [.int],.sl 3 [.int],.bool,.sl 3 [.int],.sl 3 [.int]]
abbrev w80(r:List Dat):DA:=.agg [cB (r.getD 0 (.int 0)).b,cS (r.getD 1 (.int 0)).r,cS (r.getD 2 (.int 0)).r,cB (r.getD 3 (.int 0)).b,cS (r.getD 4 (.int 0)).r,cS (r.getD 5 (.int 0)).r,cB (r.getD 6 (.int 0)).b,cS (r.getD 7 (.int 0)).r,cS (r.getD 8 (.int 0)).r]
set_option maxRecDepth 100000
def DF:Con:={ι:=Int×Int×Int,pre:=λi=>True,args:=λi=>[.one (cI i.1),.one (cI i.2.1),.one (cI i.2.2)],mono:=true,res:=λi=>⟨false,[none],[rcB (decide (i.1>=i.2.1) && decide (i.1<=i.2.2))]⟩}
theorem OH:DF.Ok Tryz.prog 136:=by
 refine fok (X:=⟨tt,[],[],15,[]⟩) mixed AG (CTok.nil _) Tryz.func136 (λ_=>[]) ?_;rintro⟨n,lo,hi⟩ a0;have a0:True:=a0;refine AH (q:=let Z1:=decide (n>=lo) && decide (n<=hi);ifB ((decide (n>=lo))) ((vB (decide (n<=hi))=vB Z1)) ((vB false=vB Z1))) (by kernel_rfl) ?_;conv=>zeta
 delta ifB vB;refine⟨λc1=>?_,λc1=>?_⟩;try simp only[nrm]at c1
 have e:decide (n>=lo)=true:=by simpa using c1
 rw[e];rfl;try simp only[nrm]at c1
 have e:decide (n>=lo)=false:=by simpa using c1
 rw[e];rfl
def Ca:Con:={ι:=Int×Int×Int,pre:=λi=>True,args:=λi=>[.one (cI i.1),.one (cI i.2.1),.one (cI i.2.2)],res:=λi=>⟨false,[none],[rcB (decide (i.1>=i.2.1) && decide (i.1<=i.2.2))]⟩}
theorem Mi:Ca.Ok Tryz.prog 46:=by
 refine fok (X:=⟨tt,[],[],15,[]⟩) mixed AG (CTok.nil _) Tryz.func46 (λ_=>[]) ?_;rintro⟨n,lo,hi⟩ a0;have a0:True:=a0;refine AH (q:=let Z1:=decide (n>=lo) && decide (n<=hi);ifB ((decide (n>=lo))) ((vB (decide (n<=hi))=vB Z1)) ((vB false=vB Z1))) (by kernel_rfl) ?_;conv=>zeta
 delta ifB vB;refine⟨λc1=>?_,λc1=>?_⟩;try simp only[nrm]at c1
 have e:decide (n>=lo)=true:=by simpa using c1
 rw[e];rfl;try simp only[nrm]at c1
 have e:decide (n>=lo)=false:=by simpa using c1
 rw[e];rfl
end Go.Proofs.YthoidhehmmcgnaaGreat
