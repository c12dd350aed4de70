import Derived.Test.YtmedodfenejimaaBwExC
import Derived.Test.YtmedodfenejimaaProg
import Derived.KernelRfl
namespace Go.Proofs.Ytmedodfenejimaa
set_option linter.unusedVariables false
set_option linter.unusedSimpArgs false
open Go.RowKit
theorem TIok.mk' {P:Program} {t:Nat} {i:TI} (h1:(P.info? t).map (λ i=>(i.size,i.bytes,i.zero.map (·.cells)))=some (i.size,i.bytes,some i.zero.toArray)) (h2:i.d.fits P t) (h3:i.eqn≠0->EqOk P t i.eqn:=by intro h;exact absurd rfl h):TIok P t i:=by
 refine ⟨?_,h2,h3⟩
 cases h:P.info? t with
 | none=>rw [h] at h1;cases h1
 | some inf=>
  rw [h] at h1
  simp only [Option.map_some,Option.some.injEq,Prod.mk.injEq] at h1
  exact ⟨inf,rfl,h1.1,h1.2.1,h1.2.2⟩
theorem fits_struct {P:Program} {t:Nat} {fs:List (Nat×Nat×Nat)} (h:(match P.underlying t with|some (.struct fl)=>some (fl.toList.map (λ f=>(f.offset,f.type)),fl.toList.mapM (λ f=>(P.info? f.type).map λ i=>(f.offset,i.size)))|_=>none)=some (fs.map (λ x=>(x.1,x.2.1)),some (fs.map λ x=>(x.1,x.2.2)))):TD.fits P t (.struct fs):=by
 simp only [TD.fits]
 split at h
 ·rename_i fl hu
  simp only [Option.some.injEq,Prod.mk.injEq] at h
  exact ⟨fl,hu,h.1,h.2⟩
 ·cases h
theorem eqOk2 {P:Program} {t ti:Nat} (h:(match P.underlying t with|some (.struct fl)=>some (fl.toList.map λ f=>(f.offset,f.type,f.name == "_"))|_=>none)=some [(0,ti,false),(1,ti,false)])
  (hi:P.underlying ti=some (.int .i64)) (hs:(P.eqGuardType P.depth t,P.stoodInHeld t)=(false,false)):EqOk P t 2:=by
 simp only [Prod.mk.injEq] at hs
 obtain ⟨g1,g2⟩:=hs
 refine ⟨g1,λ w xs ys hx hy=>?_⟩
 split at h
 ·rename_i fl hu
  simp only [Option.some.injEq] at h
  obtain ⟨f0,f1,hfl⟩:∃ f0 f1,fl.toList=[f0,f1]:=by
   have hl:=congrArg List.length h
   simp only [List.length_map,List.length_cons,List.length_nil] at hl
   match hq:fl.toList,hl with
   | [a,b],_=>exact ⟨a,b,rfl⟩
  rw [hfl] at h
  simp only [List.map_cons,List.map_nil,List.cons.injEq,Prod.mk.injEq,and_true] at h
  obtain ⟨⟨a1,a2,a3⟩,b1,b2,b3⟩:=h
  match xs,hx,ys,hy with
  | [x0,x1],_,[y0,y1],_=>
  have hag:(Go.isAgg ti).run P w=.ok false w:=by simp [Go.isAgg,Go.underlying,program,Sem.run,hi]
  have hp0:∀ (u v:Int),(Go.part ti #[Value.int .i64 u,Value.int .i64 v] 0).run P w=.ok (.int .i64 u) w:=by intro u v;simp [Go.part,hag]
  have hp1:∀ (u v:Int),(Go.part ti #[Value.int .i64 u,Value.int .i64 v] 1).run P w=.ok (.int .i64 v) w:=by intro u v;simp [Go.part,hag]
  have he:∀ a b:Int,(Op.equalIn 9999 ti (.int .i64 a) (.int .i64 b)).run P w=.ok (a == b) w:=by
   intro a b
   show (Op.equalIn (9998+1) ti (.int .i64 a) (.int .i64 b)).run P w=_
   rw [Op.equalIn]
   simp only [Sem.run_bind,underlying_run hi,Result.andThen_ok]
   simp
  have n0:¬ f0.name = "_" := by simpa using a3
  have n1:¬ f1.name = "_" := by simpa using b3
  have hfa:fl=#[f0,f1]:=Array.ext' hfl
  show (Op.equalIn (9999+1) t _ _).run P w=_
  rw [Op.equalIn]
  subst hfa
  simp only [Sem.run_bind,underlying_run hu,Result.andThen_ok]
  by_cases e0:x0=y0
  ·by_cases e1:x1=y1
   ·simp [program,Sem.run,g2,n0,n1,a1,a2,b1,b2,hp0,hp1,he,e0,e1]
   ·simp [program,Sem.run,g2,n0,n1,a1,a2,b1,b2,hp0,hp1,he,e0,e1]
  ·simp [program,Sem.run,g2,n0,n1,a1,a2,b1,b2,hp0,hp1,he,e0]
 ·cases h
def tt:TT:=[(2,{ d:=.int .i64,size:=1,bytes:=8,zero:=[.int .i64 0] }),
 (3,{ d:=.int .i64,size:=1,bytes:=8,zero:=[.int .i64 0] }),
 (4,{ d:=.bool,size:=1,bytes:=1,zero:=[.bool false] }),
 (5,{ d:=.int .u8,size:=1,bytes:=1,zero:=[.int .u8 0] }),
 (9,{ d:=.str,size:=1,bytes:=16,zero:=[.string ⟨#[]⟩] }),
 (21,{ d:=.int .i32,size:=1,bytes:=4,zero:=[.int .i32 0] }),
 (22,{ d:=.struct [(0,3,1),(1,3,1)],size:=2,bytes:=16,zero:=[.int .i64 0,.int .i64 0],eqn:=2 }),
 (23,{ d:=.struct [(0,3,1),(1,3,1)],size:=2,bytes:=16,zero:=[.int .i64 0,.int .i64 0],eqn:=2 }),
 (24,{ d:=.struct [(0,23,2),(2,23,2)],size:=4,bytes:=32,zero:=[.int .i64 0,.int .i64 0,.int .i64 0,.int .i64 0] }),
 (25,{ d:=.struct [(0,23,2),(2,23,2)],size:=4,bytes:=32,zero:=[.int .i64 0,.int .i64 0,.int .i64 0,.int .i64 0] }),
 (26,{ d:=.slice 77,size:=1,bytes:=24,zero:=[.slice none 0 0] }),
 (27,{ d:=.slice 84,size:=1,bytes:=24,zero:=[.slice none 0 0] }),
 (28,{ d:=.slice 87,size:=1,bytes:=24,zero:=[.slice none 0 0] }),
 (29,{ d:=.slice 101,size:=1,bytes:=24,zero:=[.slice none 0 0] }),
 (30,{ d:=.slice 3,size:=1,bytes:=24,zero:=[.slice none 0 0] }),
 (31,{ d:=.struct [(0,3,1),(1,4,1),(2,25,4),(6,26,1),(7,27,1),(8,28,1),(9,29,1),(10,30,1)],size:=11,bytes:=168,zero:=[.int .i64 0,.bool false,.int .i64 0,.int .i64 0,.int .i64 0,.int .i64 0,.slice none 0 0,.slice none 0 0,.slice none 0 0,.slice none 0 0,.slice none 0 0] }),
 (32,{ d:=.struct [(0,3,1),(1,4,1),(2,25,4),(6,26,1),(7,27,1),(8,28,1),(9,29,1),(10,30,1)],size:=11,bytes:=168,zero:=[.int .i64 0,.bool false,.int .i64 0,.int .i64 0,.int .i64 0,.int .i64 0,.slice none 0 0,.slice none 0 0,.slice none 0 0,.slice none 0 0,.slice none 0 0] }),
 (35,{ d:=.struct [(0,3,1),(1,3,1)],size:=2,bytes:=16,zero:=[.int .i64 0,.int .i64 0],eqn:=2 }),
 (36,{ d:=.struct [(0,35,2),(2,35,2)],size:=4,bytes:=32,zero:=[.int .i64 0,.int .i64 0,.int .i64 0,.int .i64 0] }),
 (37,{ d:=.struct [(0,35,2),(2,35,2)],size:=4,bytes:=32,zero:=[.int .i64 0,.int .i64 0,.int .i64 0,.int .i64 0] }),
 (38,{ d:=.slice 89,size:=1,bytes:=24,zero:=[.slice none 0 0] }),
 (39,{ d:=.slice 95,size:=1,bytes:=24,zero:=[.slice none 0 0] }),
 (40,{ d:=.slice 98,size:=1,bytes:=24,zero:=[.slice none 0 0] }),
 (41,{ d:=.slice 56,size:=1,bytes:=24,zero:=[.slice none 0 0] }),
 (42,{ d:=.struct [(0,3,1),(1,4,1),(2,37,4),(6,38,1),(7,39,1),(8,40,1),(9,41,1),(10,30,1)],size:=11,bytes:=168,zero:=[.int .i64 0,.bool false,.int .i64 0,.int .i64 0,.int .i64 0,.int .i64 0,.slice none 0 0,.slice none 0 0,.slice none 0 0,.slice none 0 0,.slice none 0 0] }),
 (43,{ d:=.struct [(0,3,1),(1,4,1),(2,37,4),(6,38,1),(7,39,1),(8,40,1),(9,41,1),(10,30,1)],size:=11,bytes:=168,zero:=[.int .i64 0,.bool false,.int .i64 0,.int .i64 0,.int .i64 0,.int .i64 0,.slice none 0 0,.slice none 0 0,.slice none 0 0,.slice none 0 0,.slice none 0 0] }),
 (55,{ d:=.struct [(0,3,1),(1,3,1)],size:=2,bytes:=16,zero:=[.int .i64 0,.int .i64 0],eqn:=2 }),
 (56,{ d:=.struct [(0,3,1),(1,3,1)],size:=2,bytes:=16,zero:=[.int .i64 0,.int .i64 0],eqn:=2 }),
 (77,{ d:=.slice 23,size:=1,bytes:=24,zero:=[.slice none 0 0] }),
 (79,{ d:=.struct [(0,4,1),(1,30,1)],size:=2,bytes:=32,zero:=[.bool false,.slice none 0 0] }),
 (80,{ d:=.struct [(0,4,1),(1,30,1)],size:=2,bytes:=32,zero:=[.bool false,.slice none 0 0] }),
 (81,{ d:=.struct [(0,80,2),(2,30,1)],size:=3,bytes:=56,zero:=[.bool false,.slice none 0 0,.slice none 0 0] }),
 (82,{ d:=.struct [(0,80,2),(2,30,1)],size:=3,bytes:=56,zero:=[.bool false,.slice none 0 0,.slice none 0 0] }),
 (83,{ d:=.struct [(0,82,3),(3,82,3),(6,82,3),(9,82,3),(12,82,3),(15,82,3)],size:=18,bytes:=336,zero:=[.bool false,.slice none 0 0,.slice none 0 0,.bool false,.slice none 0 0,.slice none 0 0,.bool false,.slice none 0 0,.slice none 0 0,.bool false,.slice none 0 0,.slice none 0 0,.bool false,.slice none 0 0,.slice none 0 0,.bool false,.slice none 0 0,.slice none 0 0] }),
 (84,{ d:=.struct [(0,82,3),(3,82,3),(6,82,3),(9,82,3),(12,82,3),(15,82,3)],size:=18,bytes:=336,zero:=[.bool false,.slice none 0 0,.slice none 0 0,.bool false,.slice none 0 0,.slice none 0 0,.bool false,.slice none 0 0,.slice none 0 0,.bool false,.slice none 0 0,.slice none 0 0,.bool false,.slice none 0 0,.slice none 0 0,.bool false,.slice none 0 0,.slice none 0 0] }),
 (86,{ d:=.struct [(0,82,3),(3,82,3),(6,82,3)],size:=9,bytes:=168,zero:=[.bool false,.slice none 0 0,.slice none 0 0,.bool false,.slice none 0 0,.slice none 0 0,.bool false,.slice none 0 0,.slice none 0 0] }),
 (87,{ d:=.struct [(0,82,3),(3,82,3),(6,82,3)],size:=9,bytes:=168,zero:=[.bool false,.slice none 0 0,.slice none 0 0,.bool false,.slice none 0 0,.slice none 0 0,.bool false,.slice none 0 0,.slice none 0 0] }),
 (89,{ d:=.slice 35,size:=1,bytes:=24,zero:=[.slice none 0 0] }),
 (91,{ d:=.struct [(0,4,1),(1,30,1)],size:=2,bytes:=32,zero:=[.bool false,.slice none 0 0] }),
 (92,{ d:=.struct [(0,91,2),(2,30,1)],size:=3,bytes:=56,zero:=[.bool false,.slice none 0 0,.slice none 0 0] }),
 (93,{ d:=.struct [(0,91,2),(2,30,1)],size:=3,bytes:=56,zero:=[.bool false,.slice none 0 0,.slice none 0 0] }),
 (94,{ d:=.struct [(0,93,3),(3,93,3),(6,93,3),(9,93,3),(12,93,3),(15,93,3)],size:=18,bytes:=336,zero:=[.bool false,.slice none 0 0,.slice none 0 0,.bool false,.slice none 0 0,.slice none 0 0,.bool false,.slice none 0 0,.slice none 0 0,.bool false,.slice none 0 0,.slice none 0 0,.bool false,.slice none 0 0,.slice none 0 0,.bool false,.slice none 0 0,.slice none 0 0] }),
 (95,{ d:=.struct [(0,93,3),(3,93,3),(6,93,3),(9,93,3),(12,93,3),(15,93,3)],size:=18,bytes:=336,zero:=[.bool false,.slice none 0 0,.slice none 0 0,.bool false,.slice none 0 0,.slice none 0 0,.bool false,.slice none 0 0,.slice none 0 0,.bool false,.slice none 0 0,.slice none 0 0,.bool false,.slice none 0 0,.slice none 0 0,.bool false,.slice none 0 0,.slice none 0 0] }),
 (97,{ d:=.struct [(0,93,3),(3,93,3),(6,93,3)],size:=9,bytes:=168,zero:=[.bool false,.slice none 0 0,.slice none 0 0,.bool false,.slice none 0 0,.slice none 0 0,.bool false,.slice none 0 0,.slice none 0 0] }),
 (98,{ d:=.struct [(0,93,3),(3,93,3),(6,93,3)],size:=9,bytes:=168,zero:=[.bool false,.slice none 0 0,.slice none 0 0,.bool false,.slice none 0 0,.slice none 0 0,.bool false,.slice none 0 0,.slice none 0 0] }),
 (101,{ d:=.struct [(0,3,1),(1,3,1)],size:=2,bytes:=16,zero:=[.int .i64 0,.int .i64 0],eqn:=2 }),
 (105,{ d:=.int .u64,size:=1,bytes:=8,zero:=[.int .u64 0] }),
 (124,{ d:=.int .u32,size:=1,bytes:=4,zero:=[.int .u32 0] }),
 (126,{ d:=.int .u64,size:=1,bytes:=8,zero:=[.int .u64 0] })]
theorem mixed:Try.prog.follows .mixedOrders=true:=by kernel_rfl
theorem tt2:TIok Try.prog 2 { d:=.int .i64,size:=1,bytes:=8,zero:=[.int .i64 0] }:=.mk' (by kernel_rfl) (by show Program.underlying _ _=_;kernel_rfl)
theorem tt3:TIok Try.prog 3 { d:=.int .i64,size:=1,bytes:=8,zero:=[.int .i64 0] }:=.mk' (by kernel_rfl) (by show Program.underlying _ _=_;kernel_rfl)
theorem tt4:TIok Try.prog 4 { d:=.bool,size:=1,bytes:=1,zero:=[.bool false] }:=.mk' (by kernel_rfl) (by show Program.underlying _ _=_;kernel_rfl)
theorem tt5:TIok Try.prog 5 { d:=.int .u8,size:=1,bytes:=1,zero:=[.int .u8 0] }:=.mk' (by kernel_rfl) (by show Program.underlying _ _=_;kernel_rfl)
theorem tt9:TIok Try.prog 9 { d:=.str,size:=1,bytes:=16,zero:=[.string ⟨#[]⟩] }:=.mk' (by kernel_rfl) (by show Program.underlying _ _=_;kernel_rfl)
theorem tt21:TIok Try.prog 21 { d:=.int .i32,size:=1,bytes:=4,zero:=[.int .i32 0] }:=.mk' (by kernel_rfl) (by show Program.underlying _ _=_;kernel_rfl)
theorem tt22:TIok Try.prog 22 { d:=.struct [(0,3,1),(1,3,1)],size:=2,bytes:=16,zero:=[.int .i64 0,.int .i64 0],eqn:=2 }:=.mk' (by kernel_rfl) (by exact fits_struct (by kernel_rfl)) (λ _=>eqOk2 (ti:=3) (by kernel_rfl) (by kernel_rfl) (by kernel_rfl))
theorem tt23:TIok Try.prog 23 { d:=.struct [(0,3,1),(1,3,1)],size:=2,bytes:=16,zero:=[.int .i64 0,.int .i64 0],eqn:=2 }:=.mk' (by kernel_rfl) (by exact fits_struct (by kernel_rfl)) (λ _=>eqOk2 (ti:=3) (by kernel_rfl) (by kernel_rfl) (by kernel_rfl))
theorem tt24:TIok Try.prog 24 { d:=.struct [(0,23,2),(2,23,2)],size:=4,bytes:=32,zero:=[.int .i64 0,.int .i64 0,.int .i64 0,.int .i64 0] }:=.mk' (by kernel_rfl) (by exact fits_struct (by kernel_rfl))
theorem tt25:TIok Try.prog 25 { d:=.struct [(0,23,2),(2,23,2)],size:=4,bytes:=32,zero:=[.int .i64 0,.int .i64 0,.int .i64 0,.int .i64 0] }:=.mk' (by kernel_rfl) (by exact fits_struct (by kernel_rfl))
theorem tt26:TIok Try.prog 26 { d:=.slice 77,size:=1,bytes:=24,zero:=[.slice none 0 0] }:=.mk' (by kernel_rfl) (by show Program.underlying _ _=_;kernel_rfl)
theorem tt27:TIok Try.prog 27 { d:=.slice 84,size:=1,bytes:=24,zero:=[.slice none 0 0] }:=.mk' (by kernel_rfl) (by show Program.underlying _ _=_;kernel_rfl)
theorem tt28:TIok Try.prog 28 { d:=.slice 87,size:=1,bytes:=24,zero:=[.slice none 0 0] }:=.mk' (by kernel_rfl) (by show Program.underlying _ _=_;kernel_rfl)
theorem tt29:TIok Try.prog 29 { d:=.slice 101,size:=1,bytes:=24,zero:=[.slice none 0 0] }:=.mk' (by kernel_rfl) (by show Program.underlying _ _=_;kernel_rfl)
theorem tt30:TIok Try.prog 30 { d:=.slice 3,size:=1,bytes:=24,zero:=[.slice none 0 0] }:=.mk' (by kernel_rfl) (by show Program.underlying _ _=_;kernel_rfl)
theorem tt31:TIok Try.prog 31 { d:=.struct [(0,3,1),(1,4,1),(2,25,4),(6,26,1),(7,27,1),(8,28,1),(9,29,1),(10,30,1)],size:=11,bytes:=168,zero:=[.int .i64 0,.bool false,.int .i64 0,.int .i64 0,.int .i64 0,.int .i64 0,.slice none 0 0,.slice none 0 0,.slice none 0 0,.slice none 0 0,.slice none 0 0] }:=.mk' (by kernel_rfl) (by exact fits_struct (by kernel_rfl))
theorem tt32:TIok Try.prog 32 { d:=.struct [(0,3,1),(1,4,1),(2,25,4),(6,26,1),(7,27,1),(8,28,1),(9,29,1),(10,30,1)],size:=11,bytes:=168,zero:=[.int .i64 0,.bool false,.int .i64 0,.int .i64 0,.int .i64 0,.int .i64 0,.slice none 0 0,.slice none 0 0,.slice none 0 0,.slice none 0 0,.slice none 0 0] }:=.mk' (by kernel_rfl) (by exact fits_struct (by kernel_rfl))
theorem tt35:TIok Try.prog 35 { d:=.struct [(0,3,1),(1,3,1)],size:=2,bytes:=16,zero:=[.int .i64 0,.int .i64 0],eqn:=2 }:=.mk' (by kernel_rfl) (by exact fits_struct (by kernel_rfl)) (λ _=>eqOk2 (ti:=3) (by kernel_rfl) (by kernel_rfl) (by kernel_rfl))
theorem tt36:TIok Try.prog 36 { d:=.struct [(0,35,2),(2,35,2)],size:=4,bytes:=32,zero:=[.int .i64 0,.int .i64 0,.int .i64 0,.int .i64 0] }:=.mk' (by kernel_rfl) (by exact fits_struct (by kernel_rfl))
theorem tt37:TIok Try.prog 37 { d:=.struct [(0,35,2),(2,35,2)],size:=4,bytes:=32,zero:=[.int .i64 0,.int .i64 0,.int .i64 0,.int .i64 0] }:=.mk' (by kernel_rfl) (by exact fits_struct (by kernel_rfl))
theorem tt38:TIok Try.prog 38 { d:=.slice 89,size:=1,bytes:=24,zero:=[.slice none 0 0] }:=.mk' (by kernel_rfl) (by show Program.underlying _ _=_;kernel_rfl)
theorem tt39:TIok Try.prog 39 { d:=.slice 95,size:=1,bytes:=24,zero:=[.slice none 0 0] }:=.mk' (by kernel_rfl) (by show Program.underlying _ _=_;kernel_rfl)
theorem tt40:TIok Try.prog 40 { d:=.slice 98,size:=1,bytes:=24,zero:=[.slice none 0 0] }:=.mk' (by kernel_rfl) (by show Program.underlying _ _=_;kernel_rfl)
theorem tt41:TIok Try.prog 41 { d:=.slice 56,size:=1,bytes:=24,zero:=[.slice none 0 0] }:=.mk' (by kernel_rfl) (by show Program.underlying _ _=_;kernel_rfl)
theorem tt42:TIok Try.prog 42 { d:=.struct [(0,3,1),(1,4,1),(2,37,4),(6,38,1),(7,39,1),(8,40,1),(9,41,1),(10,30,1)],size:=11,bytes:=168,zero:=[.int .i64 0,.bool false,.int .i64 0,.int .i64 0,.int .i64 0,.int .i64 0,.slice none 0 0,.slice none 0 0,.slice none 0 0,.slice none 0 0,.slice none 0 0] }:=.mk' (by kernel_rfl) (by exact fits_struct (by kernel_rfl))
theorem tt43:TIok Try.prog 43 { d:=.struct [(0,3,1),(1,4,1),(2,37,4),(6,38,1),(7,39,1),(8,40,1),(9,41,1),(10,30,1)],size:=11,bytes:=168,zero:=[.int .i64 0,.bool false,.int .i64 0,.int .i64 0,.int .i64 0,.int .i64 0,.slice none 0 0,.slice none 0 0,.slice none 0 0,.slice none 0 0,.slice none 0 0] }:=.mk' (by kernel_rfl) (by exact fits_struct (by kernel_rfl))
theorem tt55:TIok Try.prog 55 { d:=.struct [(0,3,1),(1,3,1)],size:=2,bytes:=16,zero:=[.int .i64 0,.int .i64 0],eqn:=2 }:=.mk' (by kernel_rfl) (by exact fits_struct (by kernel_rfl)) (λ _=>eqOk2 (ti:=3) (by kernel_rfl) (by kernel_rfl) (by kernel_rfl))
theorem tt56:TIok Try.prog 56 { d:=.struct [(0,3,1),(1,3,1)],size:=2,bytes:=16,zero:=[.int .i64 0,.int .i64 0],eqn:=2 }:=.mk' (by kernel_rfl) (by exact fits_struct (by kernel_rfl)) (λ _=>eqOk2 (ti:=3) (by kernel_rfl) (by kernel_rfl) (by kernel_rfl))
theorem tt77:TIok Try.prog 77 { d:=.slice 23,size:=1,bytes:=24,zero:=[.slice none 0 0] }:=.mk' (by kernel_rfl) (by show Program.underlying _ _=_;kernel_rfl)
theorem tt79:TIok Try.prog 79 { d:=.struct [(0,4,1),(1,30,1)],size:=2,bytes:=32,zero:=[.bool false,.slice none 0 0] }:=.mk' (by kernel_rfl) (by exact fits_struct (by kernel_rfl))
theorem tt80:TIok Try.prog 80 { d:=.struct [(0,4,1),(1,30,1)],size:=2,bytes:=32,zero:=[.bool false,.slice none 0 0] }:=.mk' (by kernel_rfl) (by exact fits_struct (by kernel_rfl))
theorem tt81:TIok Try.prog 81 { d:=.struct [(0,80,2),(2,30,1)],size:=3,bytes:=56,zero:=[.bool false,.slice none 0 0,.slice none 0 0] }:=.mk' (by kernel_rfl) (by exact fits_struct (by kernel_rfl))
theorem tt82:TIok Try.prog 82 { d:=.struct [(0,80,2),(2,30,1)],size:=3,bytes:=56,zero:=[.bool false,.slice none 0 0,.slice none 0 0] }:=.mk' (by kernel_rfl) (by exact fits_struct (by kernel_rfl))
theorem tt83:TIok Try.prog 83 { d:=.struct [(0,82,3),(3,82,3),(6,82,3),(9,82,3),(12,82,3),(15,82,3)],size:=18,bytes:=336,zero:=[.bool false,.slice none 0 0,.slice none 0 0,.bool false,.slice none 0 0,.slice none 0 0,.bool false,.slice none 0 0,.slice none 0 0,.bool false,.slice none 0 0,.slice none 0 0,.bool false,.slice none 0 0,.slice none 0 0,.bool false,.slice none 0 0,.slice none 0 0] }:=.mk' (by kernel_rfl) (by exact fits_struct (by kernel_rfl))
theorem tt84:TIok Try.prog 84 { d:=.struct [(0,82,3),(3,82,3),(6,82,3),(9,82,3),(12,82,3),(15,82,3)],size:=18,bytes:=336,zero:=[.bool false,.slice none 0 0,.slice none 0 0,.bool false,.slice none 0 0,.slice none 0 0,.bool false,.slice none 0 0,.slice none 0 0,.bool false,.slice none 0 0,.slice none 0 0,.bool false,.slice none 0 0,.slice none 0 0,.bool false,.slice none 0 0,.slice none 0 0] }:=.mk' (by kernel_rfl) (by exact fits_struct (by kernel_rfl))
theorem tt86:TIok Try.prog 86 { d:=.struct [(0,82,3),(3,82,3),(6,82,3)],size:=9,bytes:=168,zero:=[.bool false,.slice none 0 0,.slice none 0 0,.bool false,.slice none 0 0,.slice none 0 0,.bool false,.slice none 0 0,.slice none 0 0] }:=.mk' (by kernel_rfl) (by exact fits_struct (by kernel_rfl))
theorem tt87:TIok Try.prog 87 { d:=.struct [(0,82,3),(3,82,3),(6,82,3)],size:=9,bytes:=168,zero:=[.bool false,.slice none 0 0,.slice none 0 0,.bool false,.slice none 0 0,.slice none 0 0,.bool false,.slice none 0 0,.slice none 0 0] }:=.mk' (by kernel_rfl) (by exact fits_struct (by kernel_rfl))
theorem tt89:TIok Try.prog 89 { d:=.slice 35,size:=1,bytes:=24,zero:=[.slice none 0 0] }:=.mk' (by kernel_rfl) (by show Program.underlying _ _=_;kernel_rfl)
theorem tt91:TIok Try.prog 91 { d:=.struct [(0,4,1),(1,30,1)],size:=2,bytes:=32,zero:=[.bool false,.slice none 0 0] }:=.mk' (by kernel_rfl) (by exact fits_struct (by kernel_rfl))
theorem tt92:TIok Try.prog 92 { d:=.struct [(0,91,2),(2,30,1)],size:=3,bytes:=56,zero:=[.bool false,.slice none 0 0,.slice none 0 0] }:=.mk' (by kernel_rfl) (by exact fits_struct (by kernel_rfl))
theorem tt93:TIok Try.prog 93 { d:=.struct [(0,91,2),(2,30,1)],size:=3,bytes:=56,zero:=[.bool false,.slice none 0 0,.slice none 0 0] }:=.mk' (by kernel_rfl) (by exact fits_struct (by kernel_rfl))
theorem tt94:TIok Try.prog 94 { d:=.struct [(0,93,3),(3,93,3),(6,93,3),(9,93,3),(12,93,3),(15,93,3)],size:=18,bytes:=336,zero:=[.bool false,.slice none 0 0,.slice none 0 0,.bool false,.slice none 0 0,.slice none 0 0,.bool false,.slice none 0 0,.slice none 0 0,.bool false,.slice none 0 0,.slice none 0 0,.bool false,.slice none 0 0,.slice none 0 0,.bool false,.slice none 0 0,.slice none 0 0] }:=.mk' (by kernel_rfl) (by exact fits_struct (by kernel_rfl))
theorem tt95:TIok Try.prog 95 { d:=.struct [(0,93,3),(3,93,3),(6,93,3),(9,93,3),(12,93,3),(15,93,3)],size:=18,bytes:=336,zero:=[.bool false,.slice none 0 0,.slice none 0 0,.bool false,.slice none 0 0,.slice none 0 0,.bool false,.slice none 0 0,.slice none 0 0,.bool false,.slice none 0 0,.slice none 0 0,.bool false,.slice none 0 0,.slice none 0 0,.bool false,.slice none 0 0,.slice none 0 0] }:=.mk' (by kernel_rfl) (by exact fits_struct (by kernel_rfl))
theorem tt97:TIok Try.prog 97 { d:=.struct [(0,93,3),(3,93,3),(6,93,3)],size:=9,bytes:=168,zero:=[.bool false,.slice none 0 0,.slice none 0 0,.bool false,.slice none 0 0,.slice none 0 0,.bool false,.slice none 0 0,.slice none 0 0] }:=.mk' (by kernel_rfl) (by exact fits_struct (by kernel_rfl))
theorem tt98:TIok Try.prog 98 { d:=.struct [(0,93,3),(3,93,3),(6,93,3)],size:=9,bytes:=168,zero:=[.bool false,.slice none 0 0,.slice none 0 0,.bool false,.slice none 0 0,.slice none 0 0,.bool false,.slice none 0 0,.slice none 0 0] }:=.mk' (by kernel_rfl) (by exact fits_struct (by kernel_rfl))
theorem tt101:TIok Try.prog 101 { d:=.struct [(0,3,1),(1,3,1)],size:=2,bytes:=16,zero:=[.int .i64 0,.int .i64 0],eqn:=2 }:=.mk' (by kernel_rfl) (by exact fits_struct (by kernel_rfl)) (λ _=>eqOk2 (ti:=3) (by kernel_rfl) (by kernel_rfl) (by kernel_rfl))
theorem tt105:TIok Try.prog 105 { d:=.int .u64,size:=1,bytes:=8,zero:=[.int .u64 0] }:=.mk' (by kernel_rfl) (by show Program.underlying _ _=_;kernel_rfl)
theorem tt124:TIok Try.prog 124 { d:=.int .u32,size:=1,bytes:=4,zero:=[.int .u32 0] }:=.mk' (by kernel_rfl) (by show Program.underlying _ _=_;kernel_rfl)
theorem tt126:TIok Try.prog 126 { d:=.int .u64,size:=1,bytes:=8,zero:=[.int .u64 0] }:=.mk' (by kernel_rfl) (by show Program.underlying _ _=_;kernel_rfl)
theorem tt_ok:TTok Try.prog tt:=(TTok.cons tt2 (TTok.cons tt3 (TTok.cons tt4 (TTok.cons tt5 (TTok.cons tt9 (TTok.cons tt21 (TTok.cons tt22 (TTok.cons tt23 (TTok.cons tt24 (TTok.cons tt25 (TTok.cons tt26 (TTok.cons tt27 (TTok.cons tt28 (TTok.cons tt29 (TTok.cons tt30 (TTok.cons tt31 (TTok.cons tt32 (TTok.cons tt35 (TTok.cons tt36 (TTok.cons tt37 (TTok.cons tt38 (TTok.cons tt39 (TTok.cons tt40 (TTok.cons tt41 (TTok.cons tt42 (TTok.cons tt43 (TTok.cons tt55 (TTok.cons tt56 (TTok.cons tt77 (TTok.cons tt79 (TTok.cons tt80 (TTok.cons tt81 (TTok.cons tt82 (TTok.cons tt83 (TTok.cons tt84 (TTok.cons tt86 (TTok.cons tt87 (TTok.cons tt89 (TTok.cons tt91 (TTok.cons tt92 (TTok.cons tt93 (TTok.cons tt94 (TTok.cons tt95 (TTok.cons tt97 (TTok.cons tt98 (TTok.cons tt101 (TTok.cons tt105 (TTok.cons tt124 (TTok.cons tt126 (TTok.nil _))))))))))))))))))))))))))))))))))))))))))))))))))
end Go.Proofs.Ytmedodfenejimaa
