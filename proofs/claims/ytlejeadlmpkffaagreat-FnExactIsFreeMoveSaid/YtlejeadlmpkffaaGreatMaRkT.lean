import Derived.Test.YtlejeadlmpkffaaGreatMaExC
import Derived.Test.YtlejeadlmpkffaaGreatProg
import Derived.KernelRfl
namespace Go.Proofs.YtlejeadlmpkffaaGreat
set_option linter.unusedVariables false
set_option linter.unusedSimpArgs false
open Go.RowKit
theorem TIok.mk' {P:Program} {t:Nat} {i:TI} (h1:(P.info? t).map (λ i=>(i.size,i.bytes,i.zero.map (·.cells)))=some (i.size,i.bytes,some i.zero.toArray)) (h2:i.d.fits P t) (h3:i.eqn≠0->EqOk P t i.eqn:=by intro h;exact absurd rfl h):TIok P t i:=by
 refine ⟨?_,h2,h3⟩
 cases h:P.info? t with
 | none=>rw [h] at h1;cases h1
 | some inf=>
  rw [h] at h1
  simp only [Option.map_some,Option.some.injEq,Prod.mk.injEq] at h1
  exact ⟨inf,rfl,h1.1,h1.2.1,h1.2.2⟩
theorem fits_struct {P:Program} {t:Nat} {fs:List (Nat×Nat×Nat)} (h:(match P.underlying t with|some (.struct fl)=>some (fl.toList.map (λ f=>(f.offset,f.type)),fl.toList.mapM (λ f=>(P.info? f.type).map λ i=>(f.offset,i.size)))|_=>none)=some (fs.map (λ x=>(x.1,x.2.1)),some (fs.map λ x=>(x.1,x.2.2)))):TD.fits P t (.struct fs):=by
 simp only [TD.fits]
 split at h
 ·rename_i fl hu
  simp only [Option.some.injEq,Prod.mk.injEq] at h
  exact ⟨fl,hu,h.1,h.2⟩
 ·cases h
theorem eqOk2 {P:Program} {t ti:Nat} (h:(match P.underlying t with|some (.struct fl)=>some (fl.toList.map λ f=>(f.offset,f.type,f.name == "_"))|_=>none)=some [(0,ti,false),(1,ti,false)])
  (hi:P.underlying ti=some (.int .i64)) (hs:(P.eqGuardType P.depth t,P.stoodInHeld t)=(false,false)):EqOk P t 2:=by
 simp only [Prod.mk.injEq] at hs
 obtain ⟨g1,g2⟩:=hs
 refine ⟨g1,λ w xs ys hx hy=>?_⟩
 split at h
 ·rename_i fl hu
  simp only [Option.some.injEq] at h
  obtain ⟨f0,f1,hfl⟩:∃ f0 f1,fl.toList=[f0,f1]:=by
   have hl:=congrArg List.length h
   simp only [List.length_map,List.length_cons,List.length_nil] at hl
   match hq:fl.toList,hl with
   | [a,b],_=>exact ⟨a,b,rfl⟩
  rw [hfl] at h
  simp only [List.map_cons,List.map_nil,List.cons.injEq,Prod.mk.injEq,and_true] at h
  obtain ⟨⟨a1,a2,a3⟩,b1,b2,b3⟩:=h
  match xs,hx,ys,hy with
  | [x0,x1],_,[y0,y1],_=>
  have hag:(Go.isAgg ti).run P w=.ok false w:=by simp [Go.isAgg,Go.underlying,program,Sem.run,hi]
  have hp0:∀ (u v:Int),(Go.part ti #[Value.int .i64 u,Value.int .i64 v] 0).run P w=.ok (.int .i64 u) w:=by intro u v;simp [Go.part,hag]
  have hp1:∀ (u v:Int),(Go.part ti #[Value.int .i64 u,Value.int .i64 v] 1).run P w=.ok (.int .i64 v) w:=by intro u v;simp [Go.part,hag]
  have he:∀ a b:Int,(Op.equalIn 9999 ti (.int .i64 a) (.int .i64 b)).run P w=.ok (a == b) w:=by
   intro a b
   show (Op.equalIn (9998+1) ti (.int .i64 a) (.int .i64 b)).run P w=_
   rw [Op.equalIn]
   simp only [Sem.run_bind,underlying_run hi,Result.andThen_ok]
   simp
  have n0:¬ f0.name = "_" := by simpa using a3
  have n1:¬ f1.name = "_" := by simpa using b3
  have hfa:fl=#[f0,f1]:=Array.ext' hfl
  show (Op.equalIn (9999+1) t _ _).run P w=_
  rw [Op.equalIn]
  subst hfa
  simp only [Sem.run_bind,underlying_run hu,Result.andThen_ok]
  by_cases e0:x0=y0
  ·by_cases e1:x1=y1
   ·simp [program,Sem.run,g2,n0,n1,a1,a2,b1,b2,hp0,hp1,he,e0,e1]
   ·simp [program,Sem.run,g2,n0,n1,a1,a2,b1,b2,hp0,hp1,he,e0,e1]
  ·simp [program,Sem.run,g2,n0,n1,a1,a2,b1,b2,hp0,hp1,he,e0]
 ·cases h
def tt:TT:=[(2,{ d:=.int .i64,size:=1,bytes:=8,zero:=[.int .i64 0] }),
 (3,{ d:=.int .i64,size:=1,bytes:=8,zero:=[.int .i64 0] }),
 (4,{ d:=.bool,size:=1,bytes:=1,zero:=[.bool false] }),
 (5,{ d:=.int .u8,size:=1,bytes:=1,zero:=[.int .u8 0] }),
 (9,{ d:=.str,size:=1,bytes:=16,zero:=[.string ⟨#[]⟩] }),
 (21,{ d:=.int .i32,size:=1,bytes:=4,zero:=[.int .i32 0] }),
 (22,{ d:=.struct [(0,3,1),(1,3,1)],size:=2,bytes:=16,zero:=[.int .i64 0,.int .i64 0],eqn:=2 }),
 (23,{ d:=.struct [(0,3,1),(1,3,1)],size:=2,bytes:=16,zero:=[.int .i64 0,.int .i64 0],eqn:=2 }),
 (24,{ d:=.slice 23,size:=1,bytes:=24,zero:=[.slice none 0 0] }),
 (25,{ d:=.slice 24,size:=1,bytes:=24,zero:=[.slice none 0 0] }),
 (26,{ d:=.struct [(0,23,2),(2,23,2),(4,24,1),(5,25,1),(6,24,1)],size:=7,bytes:=104,zero:=[.int .i64 0,.int .i64 0,.int .i64 0,.int .i64 0,.slice none 0 0,.slice none 0 0,.slice none 0 0] }),
 (27,{ d:=.struct [(0,23,2),(2,23,2),(4,24,1),(5,25,1),(6,24,1)],size:=7,bytes:=104,zero:=[.int .i64 0,.int .i64 0,.int .i64 0,.int .i64 0,.slice none 0 0,.slice none 0 0,.slice none 0 0] }),
 (28,{ d:=.slice 3,size:=1,bytes:=24,zero:=[.slice none 0 0] }),
 (29,{ d:=.struct [(0,4,1),(1,28,1)],size:=2,bytes:=32,zero:=[.bool false,.slice none 0 0] }),
 (30,{ d:=.struct [(0,4,1),(1,28,1)],size:=2,bytes:=32,zero:=[.bool false,.slice none 0 0] }),
 (31,{ d:=.struct [(0,30,2),(2,28,1)],size:=3,bytes:=56,zero:=[.bool false,.slice none 0 0,.slice none 0 0] }),
 (32,{ d:=.struct [(0,30,2),(2,28,1)],size:=3,bytes:=56,zero:=[.bool false,.slice none 0 0,.slice none 0 0] }),
 (33,{ d:=.struct [(0,32,3),(3,32,3)],size:=6,bytes:=112,zero:=[.bool false,.slice none 0 0,.slice none 0 0,.bool false,.slice none 0 0,.slice none 0 0] }),
 (34,{ d:=.struct [(0,32,3),(3,32,3)],size:=6,bytes:=112,zero:=[.bool false,.slice none 0 0,.slice none 0 0,.bool false,.slice none 0 0,.slice none 0 0] }),
 (38,{ d:=.struct [(0,3,1),(1,3,1)],size:=2,bytes:=16,zero:=[.int .i64 0,.int .i64 0],eqn:=2 }),
 (39,{ d:=.slice 38,size:=1,bytes:=24,zero:=[.slice none 0 0] }),
 (40,{ d:=.slice 39,size:=1,bytes:=24,zero:=[.slice none 0 0] }),
 (41,{ d:=.struct [(0,38,2),(2,38,2),(4,39,1),(5,40,1),(6,39,1)],size:=7,bytes:=104,zero:=[.int .i64 0,.int .i64 0,.int .i64 0,.int .i64 0,.slice none 0 0,.slice none 0 0,.slice none 0 0] }),
 (42,{ d:=.struct [(0,38,2),(2,38,2),(4,39,1),(5,40,1),(6,39,1)],size:=7,bytes:=104,zero:=[.int .i64 0,.int .i64 0,.int .i64 0,.int .i64 0,.slice none 0 0,.slice none 0 0,.slice none 0 0] }),
 (44,{ d:=.struct [(0,4,1),(1,28,1)],size:=2,bytes:=32,zero:=[.bool false,.slice none 0 0] }),
 (45,{ d:=.struct [(0,44,2),(2,28,1)],size:=3,bytes:=56,zero:=[.bool false,.slice none 0 0,.slice none 0 0] }),
 (46,{ d:=.struct [(0,44,2),(2,28,1)],size:=3,bytes:=56,zero:=[.bool false,.slice none 0 0,.slice none 0 0] }),
 (47,{ d:=.struct [(0,46,3),(3,46,3)],size:=6,bytes:=112,zero:=[.bool false,.slice none 0 0,.slice none 0 0,.bool false,.slice none 0 0,.slice none 0 0] }),
 (48,{ d:=.struct [(0,46,3),(3,46,3)],size:=6,bytes:=112,zero:=[.bool false,.slice none 0 0,.slice none 0 0,.bool false,.slice none 0 0,.slice none 0 0] }),
 (56,{ d:=.struct [(0,38,2),(2,38,2)],size:=4,bytes:=32,zero:=[.int .i64 0,.int .i64 0,.int .i64 0,.int .i64 0] }),
 (57,{ d:=.struct [(0,38,2),(2,38,2)],size:=4,bytes:=32,zero:=[.int .i64 0,.int .i64 0,.int .i64 0,.int .i64 0] }),
 (67,{ d:=.struct [(0,4,1),(1,57,4),(5,40,1)],size:=6,bytes:=64,zero:=[.bool false,.int .i64 0,.int .i64 0,.int .i64 0,.int .i64 0,.slice none 0 0] }),
 (68,{ d:=.struct [(0,4,1),(1,57,4),(5,40,1)],size:=6,bytes:=64,zero:=[.bool false,.int .i64 0,.int .i64 0,.int .i64 0,.int .i64 0,.slice none 0 0] }),
 (84,{ d:=.slice 48,size:=1,bytes:=24,zero:=[.slice none 0 0] }),
 (146,{ d:=.float,size:=1,bytes:=8,zero:=[.float .f64 0] }),
 (150,{ d:=.int .u64,size:=1,bytes:=8,zero:=[.int .u64 0] }),
 (160,{ d:=.int .u32,size:=1,bytes:=4,zero:=[.int .u32 0] }),
 (162,{ d:=.int .u64,size:=1,bytes:=8,zero:=[.int .u64 0] })]
theorem mixed:Tryz.prog.follows .mixedOrders=true:=by kernel_rfl
theorem tt2:TIok Tryz.prog 2 { d:=.int .i64,size:=1,bytes:=8,zero:=[.int .i64 0] }:=.mk' (by kernel_rfl) (by show Program.underlying _ _=_;kernel_rfl)
theorem tt3:TIok Tryz.prog 3 { d:=.int .i64,size:=1,bytes:=8,zero:=[.int .i64 0] }:=.mk' (by kernel_rfl) (by show Program.underlying _ _=_;kernel_rfl)
theorem tt4:TIok Tryz.prog 4 { d:=.bool,size:=1,bytes:=1,zero:=[.bool false] }:=.mk' (by kernel_rfl) (by show Program.underlying _ _=_;kernel_rfl)
theorem tt5:TIok Tryz.prog 5 { d:=.int .u8,size:=1,bytes:=1,zero:=[.int .u8 0] }:=.mk' (by kernel_rfl) (by show Program.underlying _ _=_;kernel_rfl)
theorem tt9:TIok Tryz.prog 9 { d:=.str,size:=1,bytes:=16,zero:=[.string ⟨#[]⟩] }:=.mk' (by kernel_rfl) (by show Program.underlying _ _=_;kernel_rfl)
theorem tt21:TIok Tryz.prog 21 { d:=.int .i32,size:=1,bytes:=4,zero:=[.int .i32 0] }:=.mk' (by kernel_rfl) (by show Program.underlying _ _=_;kernel_rfl)
theorem tt22:TIok Tryz.prog 22 { d:=.struct [(0,3,1),(1,3,1)],size:=2,bytes:=16,zero:=[.int .i64 0,.int .i64 0],eqn:=2 }:=.mk' (by kernel_rfl) (by exact fits_struct (by kernel_rfl)) (λ _=>eqOk2 (ti:=3) (by kernel_rfl) (by kernel_rfl) (by kernel_rfl))
theorem tt23:TIok Tryz.prog 23 { d:=.struct [(0,3,1),(1,3,1)],size:=2,bytes:=16,zero:=[.int .i64 0,.int .i64 0],eqn:=2 }:=.mk' (by kernel_rfl) (by exact fits_struct (by kernel_rfl)) (λ _=>eqOk2 (ti:=3) (by kernel_rfl) (by kernel_rfl) (by kernel_rfl))
theorem tt24:TIok Tryz.prog 24 { d:=.slice 23,size:=1,bytes:=24,zero:=[.slice none 0 0] }:=.mk' (by kernel_rfl) (by show Program.underlying _ _=_;kernel_rfl)
theorem tt25:TIok Tryz.prog 25 { d:=.slice 24,size:=1,bytes:=24,zero:=[.slice none 0 0] }:=.mk' (by kernel_rfl) (by show Program.underlying _ _=_;kernel_rfl)
theorem tt26:TIok Tryz.prog 26 { d:=.struct [(0,23,2),(2,23,2),(4,24,1),(5,25,1),(6,24,1)],size:=7,bytes:=104,zero:=[.int .i64 0,.int .i64 0,.int .i64 0,.int .i64 0,.slice none 0 0,.slice none 0 0,.slice none 0 0] }:=.mk' (by kernel_rfl) (by exact fits_struct (by kernel_rfl))
theorem tt27:TIok Tryz.prog 27 { d:=.struct [(0,23,2),(2,23,2),(4,24,1),(5,25,1),(6,24,1)],size:=7,bytes:=104,zero:=[.int .i64 0,.int .i64 0,.int .i64 0,.int .i64 0,.slice none 0 0,.slice none 0 0,.slice none 0 0] }:=.mk' (by kernel_rfl) (by exact fits_struct (by kernel_rfl))
theorem tt28:TIok Tryz.prog 28 { d:=.slice 3,size:=1,bytes:=24,zero:=[.slice none 0 0] }:=.mk' (by kernel_rfl) (by show Program.underlying _ _=_;kernel_rfl)
theorem tt29:TIok Tryz.prog 29 { d:=.struct [(0,4,1),(1,28,1)],size:=2,bytes:=32,zero:=[.bool false,.slice none 0 0] }:=.mk' (by kernel_rfl) (by exact fits_struct (by kernel_rfl))
theorem tt30:TIok Tryz.prog 30 { d:=.struct [(0,4,1),(1,28,1)],size:=2,bytes:=32,zero:=[.bool false,.slice none 0 0] }:=.mk' (by kernel_rfl) (by exact fits_struct (by kernel_rfl))
theorem tt31:TIok Tryz.prog 31 { d:=.struct [(0,30,2),(2,28,1)],size:=3,bytes:=56,zero:=[.bool false,.slice none 0 0,.slice none 0 0] }:=.mk' (by kernel_rfl) (by exact fits_struct (by kernel_rfl))
theorem tt32:TIok Tryz.prog 32 { d:=.struct [(0,30,2),(2,28,1)],size:=3,bytes:=56,zero:=[.bool false,.slice none 0 0,.slice none 0 0] }:=.mk' (by kernel_rfl) (by exact fits_struct (by kernel_rfl))
theorem tt33:TIok Tryz.prog 33 { d:=.struct [(0,32,3),(3,32,3)],size:=6,bytes:=112,zero:=[.bool false,.slice none 0 0,.slice none 0 0,.bool false,.slice none 0 0,.slice none 0 0] }:=.mk' (by kernel_rfl) (by exact fits_struct (by kernel_rfl))
theorem tt34:TIok Tryz.prog 34 { d:=.struct [(0,32,3),(3,32,3)],size:=6,bytes:=112,zero:=[.bool false,.slice none 0 0,.slice none 0 0,.bool false,.slice none 0 0,.slice none 0 0] }:=.mk' (by kernel_rfl) (by exact fits_struct (by kernel_rfl))
theorem tt38:TIok Tryz.prog 38 { d:=.struct [(0,3,1),(1,3,1)],size:=2,bytes:=16,zero:=[.int .i64 0,.int .i64 0],eqn:=2 }:=.mk' (by kernel_rfl) (by exact fits_struct (by kernel_rfl)) (λ _=>eqOk2 (ti:=3) (by kernel_rfl) (by kernel_rfl) (by kernel_rfl))
theorem tt39:TIok Tryz.prog 39 { d:=.slice 38,size:=1,bytes:=24,zero:=[.slice none 0 0] }:=.mk' (by kernel_rfl) (by show Program.underlying _ _=_;kernel_rfl)
theorem tt40:TIok Tryz.prog 40 { d:=.slice 39,size:=1,bytes:=24,zero:=[.slice none 0 0] }:=.mk' (by kernel_rfl) (by show Program.underlying _ _=_;kernel_rfl)
theorem tt41:TIok Tryz.prog 41 { d:=.struct [(0,38,2),(2,38,2),(4,39,1),(5,40,1),(6,39,1)],size:=7,bytes:=104,zero:=[.int .i64 0,.int .i64 0,.int .i64 0,.int .i64 0,.slice none 0 0,.slice none 0 0,.slice none 0 0] }:=.mk' (by kernel_rfl) (by exact fits_struct (by kernel_rfl))
theorem tt42:TIok Tryz.prog 42 { d:=.struct [(0,38,2),(2,38,2),(4,39,1),(5,40,1),(6,39,1)],size:=7,bytes:=104,zero:=[.int .i64 0,.int .i64 0,.int .i64 0,.int .i64 0,.slice none 0 0,.slice none 0 0,.slice none 0 0] }:=.mk' (by kernel_rfl) (by exact fits_struct (by kernel_rfl))
theorem tt44:TIok Tryz.prog 44 { d:=.struct [(0,4,1),(1,28,1)],size:=2,bytes:=32,zero:=[.bool false,.slice none 0 0] }:=.mk' (by kernel_rfl) (by exact fits_struct (by kernel_rfl))
theorem tt45:TIok Tryz.prog 45 { d:=.struct [(0,44,2),(2,28,1)],size:=3,bytes:=56,zero:=[.bool false,.slice none 0 0,.slice none 0 0] }:=.mk' (by kernel_rfl) (by exact fits_struct (by kernel_rfl))
theorem tt46:TIok Tryz.prog 46 { d:=.struct [(0,44,2),(2,28,1)],size:=3,bytes:=56,zero:=[.bool false,.slice none 0 0,.slice none 0 0] }:=.mk' (by kernel_rfl) (by exact fits_struct (by kernel_rfl))
theorem tt47:TIok Tryz.prog 47 { d:=.struct [(0,46,3),(3,46,3)],size:=6,bytes:=112,zero:=[.bool false,.slice none 0 0,.slice none 0 0,.bool false,.slice none 0 0,.slice none 0 0] }:=.mk' (by kernel_rfl) (by exact fits_struct (by kernel_rfl))
theorem tt48:TIok Tryz.prog 48 { d:=.struct [(0,46,3),(3,46,3)],size:=6,bytes:=112,zero:=[.bool false,.slice none 0 0,.slice none 0 0,.bool false,.slice none 0 0,.slice none 0 0] }:=.mk' (by kernel_rfl) (by exact fits_struct (by kernel_rfl))
theorem tt56:TIok Tryz.prog 56 { d:=.struct [(0,38,2),(2,38,2)],size:=4,bytes:=32,zero:=[.int .i64 0,.int .i64 0,.int .i64 0,.int .i64 0] }:=.mk' (by kernel_rfl) (by exact fits_struct (by kernel_rfl))
theorem tt57:TIok Tryz.prog 57 { d:=.struct [(0,38,2),(2,38,2)],size:=4,bytes:=32,zero:=[.int .i64 0,.int .i64 0,.int .i64 0,.int .i64 0] }:=.mk' (by kernel_rfl) (by exact fits_struct (by kernel_rfl))
theorem tt67:TIok Tryz.prog 67 { d:=.struct [(0,4,1),(1,57,4),(5,40,1)],size:=6,bytes:=64,zero:=[.bool false,.int .i64 0,.int .i64 0,.int .i64 0,.int .i64 0,.slice none 0 0] }:=.mk' (by kernel_rfl) (by exact fits_struct (by kernel_rfl))
theorem tt68:TIok Tryz.prog 68 { d:=.struct [(0,4,1),(1,57,4),(5,40,1)],size:=6,bytes:=64,zero:=[.bool false,.int .i64 0,.int .i64 0,.int .i64 0,.int .i64 0,.slice none 0 0] }:=.mk' (by kernel_rfl) (by exact fits_struct (by kernel_rfl))
theorem tt84:TIok Tryz.prog 84 { d:=.slice 48,size:=1,bytes:=24,zero:=[.slice none 0 0] }:=.mk' (by kernel_rfl) (by show Program.underlying _ _=_;kernel_rfl)
theorem tt146:TIok Tryz.prog 146 { d:=.float,size:=1,bytes:=8,zero:=[.float .f64 0] }:=.mk' (by kernel_rfl) (by show Program.underlying _ _=_;kernel_rfl)
theorem tt150:TIok Tryz.prog 150 { d:=.int .u64,size:=1,bytes:=8,zero:=[.int .u64 0] }:=.mk' (by kernel_rfl) (by show Program.underlying _ _=_;kernel_rfl)
theorem tt160:TIok Tryz.prog 160 { d:=.int .u32,size:=1,bytes:=4,zero:=[.int .u32 0] }:=.mk' (by kernel_rfl) (by show Program.underlying _ _=_;kernel_rfl)
theorem tt162:TIok Tryz.prog 162 { d:=.int .u64,size:=1,bytes:=8,zero:=[.int .u64 0] }:=.mk' (by kernel_rfl) (by show Program.underlying _ _=_;kernel_rfl)
theorem tt_ok:TTok Tryz.prog tt:=(TTok.cons tt2 (TTok.cons tt3 (TTok.cons tt4 (TTok.cons tt5 (TTok.cons tt9 (TTok.cons tt21 (TTok.cons tt22 (TTok.cons tt23 (TTok.cons tt24 (TTok.cons tt25 (TTok.cons tt26 (TTok.cons tt27 (TTok.cons tt28 (TTok.cons tt29 (TTok.cons tt30 (TTok.cons tt31 (TTok.cons tt32 (TTok.cons tt33 (TTok.cons tt34 (TTok.cons tt38 (TTok.cons tt39 (TTok.cons tt40 (TTok.cons tt41 (TTok.cons tt42 (TTok.cons tt44 (TTok.cons tt45 (TTok.cons tt46 (TTok.cons tt47 (TTok.cons tt48 (TTok.cons tt56 (TTok.cons tt57 (TTok.cons tt67 (TTok.cons tt68 (TTok.cons tt84 (TTok.cons tt146 (TTok.cons tt150 (TTok.cons tt160 (TTok.cons tt162 (TTok.nil _)))))))))))))))))))))))))))))))))))))))
end Go.Proofs.YtlejeadlmpkffaaGreat
