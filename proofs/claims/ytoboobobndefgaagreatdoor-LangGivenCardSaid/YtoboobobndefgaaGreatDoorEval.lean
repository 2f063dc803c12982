/- THE EVALUATOR: its heap, its operations, its control; the same in stages. No claim stands here. -/
import GoSem.Step
import GoSem.Extern.BytealgIndexByte
import GoSem.Extern.BytealgCount
import GoSem.Extern.MathFloatBits
set_option linter.all false
/- An evaluator for the translated program over a heap of its own: definitions alone. -/
namespace Go.Ab
open Go

structure N16 (α : Type) where
  c0 : α
  c1 : α
  c2 : α
  c3 : α
  c4 : α
  c5 : α
  c6 : α
  c7 : α
  c8 : α
  c9 : α
  c10 : α
  c11 : α
  c12 : α
  c13 : α
  c14 : α
  c15 : α

structure Sel (α : Type) where
  get : N16 α → α
  put : N16 α → α → N16 α

noncomputable def put0 {α : Type} (n : N16 α) : α → N16 α := N16.rec (motive := fun _ => α → N16 α) (fun _ c1 c2 c3 c4 c5 c6 c7 c8 c9 c10 c11 c12 c13 c14 c15 v => N16.mk v c1 c2 c3 c4 c5 c6 c7 c8 c9 c10 c11 c12 c13 c14 c15) n
noncomputable def put1 {α : Type} (n : N16 α) : α → N16 α := N16.rec (motive := fun _ => α → N16 α) (fun c0 _ c2 c3 c4 c5 c6 c7 c8 c9 c10 c11 c12 c13 c14 c15 v => N16.mk c0 v c2 c3 c4 c5 c6 c7 c8 c9 c10 c11 c12 c13 c14 c15) n
noncomputable def put2 {α : Type} (n : N16 α) : α → N16 α := N16.rec (motive := fun _ => α → N16 α) (fun c0 c1 _ c3 c4 c5 c6 c7 c8 c9 c10 c11 c12 c13 c14 c15 v => N16.mk c0 c1 v c3 c4 c5 c6 c7 c8 c9 c10 c11 c12 c13 c14 c15) n
noncomputable def put3 {α : Type} (n : N16 α) : α → N16 α := N16.rec (motive := fun _ => α → N16 α) (fun c0 c1 c2 _ c4 c5 c6 c7 c8 c9 c10 c11 c12 c13 c14 c15 v => N16.mk c0 c1 c2 v c4 c5 c6 c7 c8 c9 c10 c11 c12 c13 c14 c15) n
noncomputable def put4 {α : Type} (n : N16 α) : α → N16 α := N16.rec (motive := fun _ => α → N16 α) (fun c0 c1 c2 c3 _ c5 c6 c7 c8 c9 c10 c11 c12 c13 c14 c15 v => N16.mk c0 c1 c2 c3 v c5 c6 c7 c8 c9 c10 c11 c12 c13 c14 c15) n
noncomputable def put5 {α : Type} (n : N16 α) : α → N16 α := N16.rec (motive := fun _ => α → N16 α) (fun c0 c1 c2 c3 c4 _ c6 c7 c8 c9 c10 c11 c12 c13 c14 c15 v => N16.mk c0 c1 c2 c3 c4 v c6 c7 c8 c9 c10 c11 c12 c13 c14 c15) n
noncomputable def put6 {α : Type} (n : N16 α) : α → N16 α := N16.rec (motive := fun _ => α → N16 α) (fun c0 c1 c2 c3 c4 c5 _ c7 c8 c9 c10 c11 c12 c13 c14 c15 v => N16.mk c0 c1 c2 c3 c4 c5 v c7 c8 c9 c10 c11 c12 c13 c14 c15) n
noncomputable def put7 {α : Type} (n : N16 α) : α → N16 α := N16.rec (motive := fun _ => α → N16 α) (fun c0 c1 c2 c3 c4 c5 c6 _ c8 c9 c10 c11 c12 c13 c14 c15 v => N16.mk c0 c1 c2 c3 c4 c5 c6 v c8 c9 c10 c11 c12 c13 c14 c15) n
noncomputable def put8 {α : Type} (n : N16 α) : α → N16 α := N16.rec (motive := fun _ => α → N16 α) (fun c0 c1 c2 c3 c4 c5 c6 c7 _ c9 c10 c11 c12 c13 c14 c15 v => N16.mk c0 c1 c2 c3 c4 c5 c6 c7 v c9 c10 c11 c12 c13 c14 c15) n
noncomputable def put9 {α : Type} (n : N16 α) : α → N16 α := N16.rec (motive := fun _ => α → N16 α) (fun c0 c1 c2 c3 c4 c5 c6 c7 c8 _ c10 c11 c12 c13 c14 c15 v => N16.mk c0 c1 c2 c3 c4 c5 c6 c7 c8 v c10 c11 c12 c13 c14 c15) n
noncomputable def put10 {α : Type} (n : N16 α) : α → N16 α := N16.rec (motive := fun _ => α → N16 α) (fun c0 c1 c2 c3 c4 c5 c6 c7 c8 c9 _ c11 c12 c13 c14 c15 v => N16.mk c0 c1 c2 c3 c4 c5 c6 c7 c8 c9 v c11 c12 c13 c14 c15) n
noncomputable def put11 {α : Type} (n : N16 α) : α → N16 α := N16.rec (motive := fun _ => α → N16 α) (fun c0 c1 c2 c3 c4 c5 c6 c7 c8 c9 c10 _ c12 c13 c14 c15 v => N16.mk c0 c1 c2 c3 c4 c5 c6 c7 c8 c9 c10 v c12 c13 c14 c15) n
noncomputable def put12 {α : Type} (n : N16 α) : α → N16 α := N16.rec (motive := fun _ => α → N16 α) (fun c0 c1 c2 c3 c4 c5 c6 c7 c8 c9 c10 c11 _ c13 c14 c15 v => N16.mk c0 c1 c2 c3 c4 c5 c6 c7 c8 c9 c10 c11 v c13 c14 c15) n
noncomputable def put13 {α : Type} (n : N16 α) : α → N16 α := N16.rec (motive := fun _ => α → N16 α) (fun c0 c1 c2 c3 c4 c5 c6 c7 c8 c9 c10 c11 c12 _ c14 c15 v => N16.mk c0 c1 c2 c3 c4 c5 c6 c7 c8 c9 c10 c11 c12 v c14 c15) n
noncomputable def put14 {α : Type} (n : N16 α) : α → N16 α := N16.rec (motive := fun _ => α → N16 α) (fun c0 c1 c2 c3 c4 c5 c6 c7 c8 c9 c10 c11 c12 c13 _ c15 v => N16.mk c0 c1 c2 c3 c4 c5 c6 c7 c8 c9 c10 c11 c12 c13 v c15) n
noncomputable def put15 {α : Type} (n : N16 α) : α → N16 α := N16.rec (motive := fun _ => α → N16 α) (fun c0 c1 c2 c3 c4 c5 c6 c7 c8 c9 c10 c11 c12 c13 c14 _ v => N16.mk c0 c1 c2 c3 c4 c5 c6 c7 c8 c9 c10 c11 c12 c13 c14 v) n
noncomputable def sel0 {α : Type} : Sel α := ⟨N16.c0, put0⟩
noncomputable def sel1 {α : Type} : Sel α := ⟨N16.c1, put1⟩
noncomputable def sel2 {α : Type} : Sel α := ⟨N16.c2, put2⟩
noncomputable def sel3 {α : Type} : Sel α := ⟨N16.c3, put3⟩
noncomputable def sel4 {α : Type} : Sel α := ⟨N16.c4, put4⟩
noncomputable def sel5 {α : Type} : Sel α := ⟨N16.c5, put5⟩
noncomputable def sel6 {α : Type} : Sel α := ⟨N16.c6, put6⟩
noncomputable def sel7 {α : Type} : Sel α := ⟨N16.c7, put7⟩
noncomputable def sel8 {α : Type} : Sel α := ⟨N16.c8, put8⟩
noncomputable def sel9 {α : Type} : Sel α := ⟨N16.c9, put9⟩
noncomputable def sel10 {α : Type} : Sel α := ⟨N16.c10, put10⟩
noncomputable def sel11 {α : Type} : Sel α := ⟨N16.c11, put11⟩
noncomputable def sel12 {α : Type} : Sel α := ⟨N16.c12, put12⟩
noncomputable def sel13 {α : Type} : Sel α := ⟨N16.c13, put13⟩
noncomputable def sel14 {α : Type} : Sel α := ⟨N16.c14, put14⟩
noncomputable def sel15 {α : Type} : Sel α := ⟨N16.c15, put15⟩
noncomputable def sel {α : Type} (d : Nat) : Sel α := match d with
  | 0 => sel0
  | 1 => sel1
  | 2 => sel2
  | 3 => sel3
  | 4 => sel4
  | 5 => sel5
  | 6 => sel6
  | 7 => sel7
  | 8 => sel8
  | 9 => sel9
  | 10 => sel10
  | 11 => sel11
  | 12 => sel12
  | 13 => sel13
  | 14 => sel14
  | _ => sel15
noncomputable def rep {α : Type} (x : α) : N16 α := ⟨x, x, x, x, x, x, x, x, x, x, x, x, x, x, x, x⟩

/-- a number, worked out ahead of what is done with it -/
noncomputable def fN {β : Sort _} (n : Nat) (k : Nat → β) : β := Nat.rec (motive := fun _ => β) (k 0) (fun m _ => k (Nat.succ m)) n
/-- if a bit is set -/
noncomputable def iB {β : Sort _} (b : Bool) (x y : β) : β := Bool.rec (motive := fun _ => β) y x b
noncomputable def oB {α : Type} {β : Sort _} (x : Option α) (n : β) (k : α → β) : β := Option.rec (motive := fun _ => β) n k x

/-- eight values -/
structure L8 where
  c0 : Value
  c1 : Value
  c2 : Value
  c3 : Value
  c4 : Value
  c5 : Value
  c6 : Value
  c7 : Value
structure M8 where
  c0 : L8
  c1 : L8
  c2 : L8
  c3 : L8
  c4 : L8
  c5 : L8
  c6 : L8
  c7 : L8
/-- The slots of a function, up to 240. -/
structure Env where
  a0 : L8
  a1 : L8
  a2 : L8
  a3 : L8
  a4 : L8
  a5 : L8
  b0 : M8
  b1 : M8
  b2 : M8
structure LS where
  get : L8 → Value
  put : L8 → Value → L8
structure MS where
  get : M8 → L8
  put : M8 → L8 → M8
structure ES where
  get : Env → L8
  put : Env → L8 → Env
noncomputable def L8.put0 (n : L8) : Value → L8 := L8.rec (motive := fun _ => Value → L8) (fun _ c1 c2 c3 c4 c5 c6 c7 v => L8.mk v c1 c2 c3 c4 c5 c6 c7) n
noncomputable def L8.put1 (n : L8) : Value → L8 := L8.rec (motive := fun _ => Value → L8) (fun c0 _ c2 c3 c4 c5 c6 c7 v => L8.mk c0 v c2 c3 c4 c5 c6 c7) n
noncomputable def L8.put2 (n : L8) : Value → L8 := L8.rec (motive := fun _ => Value → L8) (fun c0 c1 _ c3 c4 c5 c6 c7 v => L8.mk c0 c1 v c3 c4 c5 c6 c7) n
noncomputable def L8.put3 (n : L8) : Value → L8 := L8.rec (motive := fun _ => Value → L8) (fun c0 c1 c2 _ c4 c5 c6 c7 v => L8.mk c0 c1 c2 v c4 c5 c6 c7) n
noncomputable def L8.put4 (n : L8) : Value → L8 := L8.rec (motive := fun _ => Value → L8) (fun c0 c1 c2 c3 _ c5 c6 c7 v => L8.mk c0 c1 c2 c3 v c5 c6 c7) n
noncomputable def L8.put5 (n : L8) : Value → L8 := L8.rec (motive := fun _ => Value → L8) (fun c0 c1 c2 c3 c4 _ c6 c7 v => L8.mk c0 c1 c2 c3 c4 v c6 c7) n
noncomputable def L8.put6 (n : L8) : Value → L8 := L8.rec (motive := fun _ => Value → L8) (fun c0 c1 c2 c3 c4 c5 _ c7 v => L8.mk c0 c1 c2 c3 c4 c5 v c7) n
noncomputable def L8.put7 (n : L8) : Value → L8 := L8.rec (motive := fun _ => Value → L8) (fun c0 c1 c2 c3 c4 c5 c6 _ v => L8.mk c0 c1 c2 c3 c4 c5 c6 v) n
noncomputable def M8.put0 (n : M8) : L8 → M8 := M8.rec (motive := fun _ => L8 → M8) (fun _ c1 c2 c3 c4 c5 c6 c7 v => M8.mk v c1 c2 c3 c4 c5 c6 c7) n
noncomputable def M8.put1 (n : M8) : L8 → M8 := M8.rec (motive := fun _ => L8 → M8) (fun c0 _ c2 c3 c4 c5 c6 c7 v => M8.mk c0 v c2 c3 c4 c5 c6 c7) n
noncomputable def M8.put2 (n : M8) : L8 → M8 := M8.rec (motive := fun _ => L8 → M8) (fun c0 c1 _ c3 c4 c5 c6 c7 v => M8.mk c0 c1 v c3 c4 c5 c6 c7) n
noncomputable def M8.put3 (n : M8) : L8 → M8 := M8.rec (motive := fun _ => L8 → M8) (fun c0 c1 c2 _ c4 c5 c6 c7 v => M8.mk c0 c1 c2 v c4 c5 c6 c7) n
noncomputable def M8.put4 (n : M8) : L8 → M8 := M8.rec (motive := fun _ => L8 → M8) (fun c0 c1 c2 c3 _ c5 c6 c7 v => M8.mk c0 c1 c2 c3 v c5 c6 c7) n
noncomputable def M8.put5 (n : M8) : L8 → M8 := M8.rec (motive := fun _ => L8 → M8) (fun c0 c1 c2 c3 c4 _ c6 c7 v => M8.mk c0 c1 c2 c3 c4 v c6 c7) n
noncomputable def M8.put6 (n : M8) : L8 → M8 := M8.rec (motive := fun _ => L8 → M8) (fun c0 c1 c2 c3 c4 c5 _ c7 v => M8.mk c0 c1 c2 c3 c4 c5 v c7) n
noncomputable def M8.put7 (n : M8) : L8 → M8 := M8.rec (motive := fun _ => L8 → M8) (fun c0 c1 c2 c3 c4 c5 c6 _ v => M8.mk c0 c1 c2 c3 c4 c5 c6 v) n
noncomputable def Env.puta0 (n : Env) : L8 → Env := Env.rec (motive := fun _ => L8 → Env) (fun _ a1 a2 a3 a4 a5 b0 b1 b2 v => Env.mk v a1 a2 a3 a4 a5 b0 b1 b2) n
noncomputable def Env.puta1 (n : Env) : L8 → Env := Env.rec (motive := fun _ => L8 → Env) (fun a0 _ a2 a3 a4 a5 b0 b1 b2 v => Env.mk a0 v a2 a3 a4 a5 b0 b1 b2) n
noncomputable def Env.puta2 (n : Env) : L8 → Env := Env.rec (motive := fun _ => L8 → Env) (fun a0 a1 _ a3 a4 a5 b0 b1 b2 v => Env.mk a0 a1 v a3 a4 a5 b0 b1 b2) n
noncomputable def Env.puta3 (n : Env) : L8 → Env := Env.rec (motive := fun _ => L8 → Env) (fun a0 a1 a2 _ a4 a5 b0 b1 b2 v => Env.mk a0 a1 a2 v a4 a5 b0 b1 b2) n
noncomputable def Env.puta4 (n : Env) : L8 → Env := Env.rec (motive := fun _ => L8 → Env) (fun a0 a1 a2 a3 _ a5 b0 b1 b2 v => Env.mk a0 a1 a2 a3 v a5 b0 b1 b2) n
noncomputable def Env.puta5 (n : Env) : L8 → Env := Env.rec (motive := fun _ => L8 → Env) (fun a0 a1 a2 a3 a4 _ b0 b1 b2 v => Env.mk a0 a1 a2 a3 a4 v b0 b1 b2) n
noncomputable def Env.putb0 (n : Env) : M8 → Env := Env.rec (motive := fun _ => M8 → Env) (fun a0 a1 a2 a3 a4 a5 _ b1 b2 v => Env.mk a0 a1 a2 a3 a4 a5 v b1 b2) n
noncomputable def Env.putb1 (n : Env) : M8 → Env := Env.rec (motive := fun _ => M8 → Env) (fun a0 a1 a2 a3 a4 a5 b0 _ b2 v => Env.mk a0 a1 a2 a3 a4 a5 b0 v b2) n
noncomputable def Env.putb2 (n : Env) : M8 → Env := Env.rec (motive := fun _ => M8 → Env) (fun a0 a1 a2 a3 a4 a5 b0 b1 _ v => Env.mk a0 a1 a2 a3 a4 a5 b0 b1 v) n
noncomputable def lsel (d : Nat) : LS := match d with
  | 0 => ⟨L8.c0, L8.put0⟩
  | 1 => ⟨L8.c1, L8.put1⟩
  | 2 => ⟨L8.c2, L8.put2⟩
  | 3 => ⟨L8.c3, L8.put3⟩
  | 4 => ⟨L8.c4, L8.put4⟩
  | 5 => ⟨L8.c5, L8.put5⟩
  | 6 => ⟨L8.c6, L8.put6⟩
  | _ => ⟨L8.c7, L8.put7⟩
noncomputable def esel (g : Nat) : ES := match g with
  | 0 => ⟨Env.a0, Env.puta0⟩
  | 1 => ⟨Env.a1, Env.puta1⟩
  | 2 => ⟨Env.a2, Env.puta2⟩
  | 3 => ⟨Env.a3, Env.puta3⟩
  | 4 => ⟨Env.a4, Env.puta4⟩
  | 5 => ⟨Env.a5, Env.puta5⟩
  | 6 => ⟨fun e => M8.c0 (Env.b0 e), fun e l => Env.putb0 e (M8.put0 (Env.b0 e) l)⟩
  | 7 => ⟨fun e => M8.c1 (Env.b0 e), fun e l => Env.putb0 e (M8.put1 (Env.b0 e) l)⟩
  | 8 => ⟨fun e => M8.c2 (Env.b0 e), fun e l => Env.putb0 e (M8.put2 (Env.b0 e) l)⟩
  | 9 => ⟨fun e => M8.c3 (Env.b0 e), fun e l => Env.putb0 e (M8.put3 (Env.b0 e) l)⟩
  | 10 => ⟨fun e => M8.c4 (Env.b0 e), fun e l => Env.putb0 e (M8.put4 (Env.b0 e) l)⟩
  | 11 => ⟨fun e => M8.c5 (Env.b0 e), fun e l => Env.putb0 e (M8.put5 (Env.b0 e) l)⟩
  | 12 => ⟨fun e => M8.c6 (Env.b0 e), fun e l => Env.putb0 e (M8.put6 (Env.b0 e) l)⟩
  | 13 => ⟨fun e => M8.c7 (Env.b0 e), fun e l => Env.putb0 e (M8.put7 (Env.b0 e) l)⟩
  | 14 => ⟨fun e => M8.c0 (Env.b1 e), fun e l => Env.putb1 e (M8.put0 (Env.b1 e) l)⟩
  | 15 => ⟨fun e => M8.c1 (Env.b1 e), fun e l => Env.putb1 e (M8.put1 (Env.b1 e) l)⟩
  | 16 => ⟨fun e => M8.c2 (Env.b1 e), fun e l => Env.putb1 e (M8.put2 (Env.b1 e) l)⟩
  | 17 => ⟨fun e => M8.c3 (Env.b1 e), fun e l => Env.putb1 e (M8.put3 (Env.b1 e) l)⟩
  | 18 => ⟨fun e => M8.c4 (Env.b1 e), fun e l => Env.putb1 e (M8.put4 (Env.b1 e) l)⟩
  | 19 => ⟨fun e => M8.c5 (Env.b1 e), fun e l => Env.putb1 e (M8.put5 (Env.b1 e) l)⟩
  | 20 => ⟨fun e => M8.c6 (Env.b1 e), fun e l => Env.putb1 e (M8.put6 (Env.b1 e) l)⟩
  | 21 => ⟨fun e => M8.c7 (Env.b1 e), fun e l => Env.putb1 e (M8.put7 (Env.b1 e) l)⟩
  | 22 => ⟨fun e => M8.c0 (Env.b2 e), fun e l => Env.putb2 e (M8.put0 (Env.b2 e) l)⟩
  | 23 => ⟨fun e => M8.c1 (Env.b2 e), fun e l => Env.putb2 e (M8.put1 (Env.b2 e) l)⟩
  | 24 => ⟨fun e => M8.c2 (Env.b2 e), fun e l => Env.putb2 e (M8.put2 (Env.b2 e) l)⟩
  | 25 => ⟨fun e => M8.c3 (Env.b2 e), fun e l => Env.putb2 e (M8.put3 (Env.b2 e) l)⟩
  | 26 => ⟨fun e => M8.c4 (Env.b2 e), fun e l => Env.putb2 e (M8.put4 (Env.b2 e) l)⟩
  | 27 => ⟨fun e => M8.c5 (Env.b2 e), fun e l => Env.putb2 e (M8.put5 (Env.b2 e) l)⟩
  | 28 => ⟨fun e => M8.c6 (Env.b2 e), fun e l => Env.putb2 e (M8.put6 (Env.b2 e) l)⟩
  | _ => ⟨fun e => M8.c7 (Env.b2 e), fun e l => Env.putb2 e (M8.put7 (Env.b2 e) l)⟩
structure EA where
  get : Env → Value
  put : Env → Value → Env
noncomputable def ea (t : Nat) : EA := fN (t % 8) fun d => fN (t / 8) fun g =>
  LS.rec (motive := fun _ => EA) (fun lg lp => ES.rec (motive := fun _ => EA) (fun eg ep => ⟨fun e => lg (eg e), fun e v => ep e (lp (eg e) v)⟩) (esel g)) (lsel d)
noncomputable def l80 : L8 := ⟨undef, undef, undef, undef, undef, undef, undef, undef⟩
noncomputable def m80 : M8 := ⟨l80, l80, l80, l80, l80, l80, l80, l80⟩
noncomputable def env0 : Env := ⟨l80, l80, l80, l80, l80, l80, m80, m80, m80⟩

/-- Cells, up to 4096, by their numbers. -/
abbrev V1 := N16 Value
abbrev V2 := N16 V1
abbrev V3 := N16 V2
structure VA where
  get : V3 → Value
  put : V3 → Value → V3
/-- two levels at once -/
structure Q2 (α : Type) where
  get : N16 (N16 α) → α
  put : N16 (N16 α) → α → N16 (N16 α)
noncomputable def q2 {α : Type} (b : Nat) : Q2 α := fN (Nat.mod b 16) fun d0 => fN (Nat.div b 16) fun d1 =>
  Sel.rec (motive := fun _ => Q2 α) (fun g0 p0 => Sel.rec (motive := fun _ => Q2 α) (fun g1 p1 => ⟨fun h => g0 (g1 h), fun h v => p1 h (p0 (g1 h) v)⟩) (sel d1)) (sel d0)
noncomputable def va (b : Nat) : VA := fN (Nat.mod b 256) fun d0 => fN (Nat.div b 256) fun d2 =>
  Q2.rec (motive := fun _ => VA) (fun g p => Sel.rec (motive := fun _ => VA) (fun g2 p2 => ⟨fun h => g (g2 h), fun h v => p2 h (p (g2 h) v)⟩) (sel d2)) (q2 d0)
noncomputable def vec0 : V3 := rep (rep (rep undef))

inductive Blk where
  | cells (cs : List Value)
  | vec (t : V3) (n : Nat)     -- n cells
  | rom (t : V3) (n : Nat)     -- n cells that are not written
  | map (es : List (Value × Value))

abbrev H1 := N16 (Option Blk)
abbrev H2 := N16 H1
abbrev H3 := N16 H2
abbrev H4 := N16 H3
structure HA where
  get : H4 → Option Blk
  put : H4 → Option Blk → H4
noncomputable def ha (b : Nat) : HA := fN (Nat.mod b 256) fun d0 => fN (Nat.div b 256) fun d2 =>
  Q2.rec (motive := fun _ => HA) (fun g p => Q2.rec (motive := fun _ => HA) (fun g2 p2 => ⟨fun h => g (g2 h), fun h v => p2 h (p (g2 h) v)⟩) (q2 d2)) (q2 d0)
noncomputable def heap0 : H4 := rep (rep (rep (rep none)))

structure AH where
  t : H4
  next : Nat

noncomputable def AH.get (h : AH) (b : Nat) : Option Blk := iB (Nat.blt b 65536) ((ha b).get h.t) none
noncomputable def AH.put (h : AH) (b : Nat) (x : Option Blk) : AH := ⟨(ha b).put h.t x, h.next⟩

/-- The capacity that is not known: this, and an element's size. -/
noncomputable def unk : Nat := 18446744073709551616
/-- The block of an empty slice of which it is not known where it lies. -/
noncomputable def nob : Nat := 1099511627776

/-- a new block -/
noncomputable def AH.new {β : Sort _} (h : AH) (x : Blk) (full : β) (k : Nat → AH → β) : β :=
  fN h.next fun n => iB (Nat.ble 65000 n) full (k n ⟨(ha n).put h.t (some x), Nat.succ n⟩)

noncomputable def quick {α : Type} (P : Program) : Sem α → Option α
  | .pure x => some x
  | .program k => quick P (k P)
  | _ => none

section values

noncomputable def nth (l : List Value) (i : Nat) : Option Value :=
  List.rec (motive := fun _ => Nat → Option Value) (fun _ => none) (fun v _ ih i => Nat.rec (motive := fun _ => Option Value) (some v) (fun m _ => ih m) i) l i

noncomputable def takeN (n : Nat) (l : List Value) : Option (List Value) :=
  Nat.rec (motive := fun _ => List Value → Option (List Value)) (fun _ => some [])
    (fun _ ih l => List.rec (motive := fun _ => Option (List Value)) none (fun v t _ => Option.rec (motive := fun _ => Option (List Value)) none (fun r => some (v :: r)) (ih t)) l) n l

noncomputable def dropN (n : Nat) (l : List Value) : Option (List Value) :=
  Nat.rec (motive := fun _ => List Value → Option (List Value)) (fun l => some l)
    (fun _ ih l => List.rec (motive := fun _ => Option (List Value)) none (fun _ t _ => ih t) l) n l

/-- n cells from off on -/
noncomputable def cut (cs : List Value) (off n : Nat) : Option (List Value) := oB (dropN off cs) none (takeN n)

/-- cells that are laid over the first ones -/
noncomputable def over (vs l : List Value) : Option (List Value) :=
  List.rec (motive := fun _ => List Value → Option (List Value)) (fun l => some l)
    (fun v _ ih l => List.rec (motive := fun _ => Option (List Value)) none (fun _ t _ => Option.rec (motive := fun _ => Option (List Value)) none (fun r => some (v :: r)) (ih t)) l) vs l

/-- cells that are laid over those from off on -/
noncomputable def patch (vs l : List Value) (off : Nat) : Option (List Value) :=
  Nat.rec (motive := fun _ => List Value → Option (List Value)) (fun l => over vs l)
    (fun _ ih l => List.rec (motive := fun _ => Option (List Value)) none (fun v t _ => Option.rec (motive := fun _ => Option (List Value)) none (fun r => some (v :: r)) (ih t)) l) off l

/-- how many there are, and i more -/
noncomputable def lenL (l : List Value) (i : Nat) : Nat :=
  List.rec (motive := fun _ => Nat → Nat) (fun i => i) (fun _ _ ih i => fN i fun i => ih (Nat.succ i)) l i

/-- so many cells from i on -/
noncomputable def vcut (t : V3) (i n : Nat) : List Value :=
  Nat.rec (motive := fun _ => Nat → List Value) (fun _ => []) (fun _ ih i => fN i fun i => (va i).get t :: ih (Nat.succ i)) n i
/-- cells laid from i on -/
noncomputable def vput (t : V3) (i : Nat) (l : List Value) : V3 :=
  List.rec (motive := fun _ => Nat → V3 → V3) (fun _ t => t) (fun v _ ih i t => fN i fun i => ih (Nat.succ i) ((va i).put t v)) l i t

/-- a block's cell -/
noncomputable def bget (b : Blk) (i : Nat) : Option Value :=
  Blk.rec (motive := fun _ => Option Value) (fun cs => nth cs i) (fun t n => iB (Nat.blt i n) (fN i fun i => some ((va i).get t)) none)
    (fun t n => iB (Nat.blt i n) (fN i fun i => some ((va i).get t)) none) (fun _ => none) b
/-- so many of a block's cells -/
noncomputable def bcut (b : Blk) (off n : Nat) : Option (List Value) :=
  Blk.rec (motive := fun _ => Option (List Value)) (fun cs => cut cs off n) (fun t m => iB (Nat.ble (off + n) m) (some (vcut t off n)) none)
    (fun t m => iB (Nat.ble (off + n) m) (some (vcut t off n)) none) (fun _ => none) b
/-- cells laid over a block's, from off on -/
noncomputable def bput (b : Blk) (off : Nat) (vs : List Value) : Option Blk :=
  Blk.rec (motive := fun _ => Option Blk) (fun cs => oB (patch vs cs off) none fun cs' => some (.cells cs'))
    (fun t n => iB (Nat.ble (off + lenL vs 0) n) (some (.vec (vput t off vs) n)) none) (fun _ _ => none) (fun _ => none) b
/-- a block of cells -/
noncomputable def bnew (cs : List Value) : Option Blk := fN (lenL cs 0) fun n => iB (Nat.blt n 24) (some (.cells cs)) (iB (Nat.blt n 4000) (some (.vec (vput vec0 0 cs) n)) none)
/-- a block that append makes -/
noncomputable def bapp (cs : List Value) : Option Blk := fN (lenL cs 0) fun n => iB (Nat.blt n 4000) (some (.vec (vput vec0 0 cs) n)) none
/-- a block of which the cells up to m are kept, and others come behind them -/
noncomputable def bgrow (b : Blk) (m : Nat) (new : List Value) : Option Blk :=
  Blk.rec (motive := fun _ => Option Blk) (fun _ => none)
    (fun t n => iB (Nat.ble m n) (fN (m + lenL new 0) fun k => iB (Nat.blt k 4000) (some (.vec (vput t m new) k)) none) none) (fun _ _ => none) (fun _ => none) b

/-- a value of one cell? -/
def flat : Value → Bool
  | .agg _ => false
  | .tuple _ => false
  | _ => true
/-- a value of one cell, without an address -/
def const1 : Value → Bool
  | .bool _ | .int _ _ | .float _ _ | .string _ | .pointer none | .slice none _ _ | .map none | .nilFunc | .nilIface => true
  | _ => false
noncomputable def constL (l : List Value) : Bool := List.rec (motive := fun _ => Bool) true (fun v _ ih => iB (const1 v) ih false) l
noncomputable def constV : Value → Bool
  | .agg ⟨l⟩ => constL l
  | v => const1 v
/-- what an operation of the model makes of values, where it looks at nothing but the program -/
noncomputable def quickC (P : Program) (s : Sem Value) : Option Value := oB (quick P s) none fun v => iB (constV v) (some v) none
/-- a value's cells -/
noncomputable def cellsL : Value → Option (List Value)
  | .agg ⟨l⟩ => some l
  | .tuple _ => none
  | v => some [v]

noncomputable def repl (z : List Value) (n : Nat) : List Value := Nat.rec (motive := fun _ => List Value) [] (fun _ ih => z ++ ih) n

/-- free of addresses and functions -/
noncomputable def plain1 : Value → Bool
  | .bool _ | .int _ _ | .float _ _ | .string _ | .nilIface => true
  | _ => false
noncomputable def plainL (l : List Value) : Bool := List.rec (motive := fun _ => Bool) true (fun v _ ih => iB (plain1 v) ih false) l

noncomputable def mkB (b : Bool) : Option Value := iB b (some (.bool true)) (some (.bool false))

noncomputable def fI (k : IntKind) (n : Int) : Option Value :=
  Int.rec (motive := fun _ => Option Value) (fun m => fN m fun m => some (.int k (.ofNat m))) (fun m => fN m fun m => some (.int k (.negSucc m))) n

/-- the least number that a kind does not hold -/
noncomputable def lim (k : IntKind) : Nat :=
  IntKind.rec (motive := fun _ => Nat) 128 32768 2147483648 9223372036854775808 256 65536 4294967296 18446744073709551616 k

/-- a number within its kind -/
noncomputable def wrapF (k : IntKind) (n : Int) : Option Value :=
  Int.rec (motive := fun _ => Option Value) (fun m => fN m fun m => iB (Nat.blt m (lim k)) (some (.int k (.ofNat m))) (fI k (k.wrap (.ofNat m))))
    (fun m => fN m fun m => iB (Nat.blt m 9223372036854775808) (negF k m) (fI k (k.wrap (.negSucc m)))) n
  where
  /-- below nought: of an int as it stands -/
  negF (k : IntKind) (m : Nat) : Option Value :=
    IntKind.rec (motive := fun _ => Option Value) (fI k (k.wrap (.negSucc m))) (fI k (k.wrap (.negSucc m))) (fI k (k.wrap (.negSucc m))) (some (.int k (.negSucc m)))
      (fI k (k.wrap (.negSucc m))) (fI k (k.wrap (.negSucc m))) (fI k (k.wrap (.negSucc m))) (fI k (k.wrap (.negSucc m))) k

noncomputable def eqI (a b : Int) : Bool :=
  Int.rec (motive := fun _ => Bool) (fun x => Int.rec (motive := fun _ => Bool) (fun y => Nat.beq x y) (fun _ => false) b)
    (fun x => Int.rec (motive := fun _ => Bool) (fun _ => false) (fun y => Nat.beq x y) b) a
noncomputable def ltI (a b : Int) : Bool :=
  Int.rec (motive := fun _ => Bool) (fun x => Int.rec (motive := fun _ => Bool) (fun y => Nat.blt x y) (fun _ => false) b)
    (fun x => Int.rec (motive := fun _ => Bool) (fun _ => true) (fun y => Nat.blt y x) b) a

noncomputable def kn (k : IntKind) : Nat := IntKind.rec (motive := fun _ => Nat) 0 1 2 3 4 5 6 7 k
noncomputable def kB (a b : IntKind) : Bool := Nat.beq (kn a) (kn b)

/-- a sum, a difference -/
noncomputable def addI (a b : Int) : Int :=
  Int.rec (motive := fun _ => Int) (fun x => Int.rec (motive := fun _ => Int) (fun y => .ofNat (Nat.add x y)) (fun _ => a + b) b) (fun _ => a + b) a
noncomputable def subI (a b : Int) : Int :=
  Int.rec (motive := fun _ => Int) (fun x => Int.rec (motive := fun _ => Int) (fun y => iB (Nat.ble y x) (.ofNat (Nat.sub x y)) (a - b)) (fun _ => a - b) b) (fun _ => a - b) a

/-- an operator that has no way of its own here -/
noncomputable def intQ (P : Program) (op : BinOp) (t : TypeId) (k : IntKind) (a : Int) (k' : IntKind) (b : Int) : Option Value :=
  match quick P (binOp op t (.int k a) (.int k' b)) with
  | some (.int k n) => fI k n
  | _ => none

/-- what an operator makes of two numbers -/
noncomputable def intF (P : Program) (op : BinOp) (t : TypeId) (k : IntKind) (a : Int) (k' : IntKind) (b : Int) : Option Value :=
  match op with
  | .add => iB (kB k k') (wrapF k (addI a b)) none
  | .sub => iB (kB k k') (wrapF k (subI a b)) none
  | .mul => iB (kB k k') (wrapF k (a * b)) none
  | .eql => iB (kB k k') (mkB (eqI a b)) none
  | .neq => iB (kB k k') (mkB (!eqI a b)) none
  | .lss => iB (kB k k') (mkB (ltI a b)) none
  | .leq => iB (kB k k') (mkB (!ltI b a)) none
  | .gtr => iB (kB k k') (mkB (ltI b a)) none
  | .geq => iB (kB k k') (mkB (!ltI a b)) none
  | .quo => match a, b with
    | .ofNat x, .ofNat (.succ y) => iB (kB k k') (wrapF k (.ofNat (x / Nat.succ y))) none
    | a, b => intQ P .quo t k a k' b
  | .rem => match a, b with
    | .ofNat x, .ofNat (.succ y) => iB (kB k k') (fI k (.ofNat (x % Nat.succ y))) none
    | a, b => intQ P .rem t k a k' b
  | .shl => match a, b with
    | .ofNat x, .ofNat y => match Nat.blt y (k.bits + 1) with
      | true => wrapF k (.ofNat (x * 2 ^ y))
      | false => intQ P .shl t k (.ofNat x) k' (.ofNat y)
    | a, b => intQ P .shl t k a k' b
  | .shr => match a, b with
    | .ofNat x, .ofNat y => match Nat.blt y (k.bits + 1) with
      | true => fI k (.ofNat (x / 2 ^ y))
      | false => intQ P .shr t k (.ofNat x) k' (.ofNat y)
    | a, b => intQ P .shr t k a k' b
  | .and => match a, b with
    | .ofNat x, .ofNat y => match kB k k', Nat.blt x (lim k), Nat.blt y (lim k) with
      | true, true, true => fI k (.ofNat (Nat.land x y))
      | _, _, _ => none
    | a, b => intQ P .and t k a k' b
  | .or => match a, b with
    | .ofNat x, .ofNat y => match kB k k', Nat.blt x (lim k), Nat.blt y (lim k) with
      | true, true, true => fI k (.ofNat (Nat.lor x y))
      | _, _, _ => none
    | a, b => intQ P .or t k a k' b
  | op => intQ P op t k a k' b

end values
end Go.Ab
/- The evaluator's operations: what each operation of the translated program does to the values and blocks of the evaluator. -/
namespace Go.Ab
open Go

/-- What an operation comes to. -/
inductive AN where
  | val (v : Value) (h : AH)
  | call (f : FuncId) (args : List Value) (h : AH)
  | defer (d : Deferred) (h : AH)
  | panic (v : Value) (h : AH)
  | stuck

section ops
variable (P : Program)

noncomputable def zeroOf (t : TypeId) : Option Value := match P.info? t with
  | some i => match i.zero with
    | some v => iB (constV v) (some v) none
    | none => none
  | none => none
noncomputable def zeroL (t : TypeId) : Option (List Value) := match zeroOf P t with
  | some v => cellsL v
  | none => none
noncomputable def aggB (t : TypeId) : Option Bool := match P.underlying t with
  | some (.struct _) => some true
  | some (.array _ _) => some true
  | some _ => some false
  | none => none
noncomputable def fieldOf (s : TypeId) (f : Nat) : Option Field := match P.underlying s with
  | some (.struct fs) => fs.toList[f]?
  | _ => none
noncomputable def elemT (t : TypeId) : Option TypeId := match P.underlying t with
  | some (.slice e) => some e
  | _ => none
/-- the size of a type that the program knows -/
noncomputable def szOf (t : TypeId) : Option Nat := match P.info? t with
  | some i => some i.size
  | none => none

/-- a variable's value: of one cell, or of n as one -/
noncomputable def loadS (agg : Bool) (n : Nat) (h : AH) : Value → Option Value
  | .pointer (some ⟨b, off, none⟩) => oB (h.get b) none fun k => iB agg (oB (bcut k off n) none fun l => some (.agg ⟨l⟩)) (bget k off)
  | _ => none

noncomputable def storeC (h : AH) (b off : Nat) (vs : List Value) : Option AH := oB (h.get b) none fun k => oB (bput k off vs) none fun k' => some (h.put b (some k'))

noncomputable def storeS (n : Nat) (h : AH) (a v : Value) : Option AH := match a with
  | .pointer (some ⟨b, off, none⟩) => oB (cellsL v) none fun vs => iB (Nat.beq (lenL vs 0) n) (storeC h b off vs) none
  | _ => none

noncomputable def newB (h : AH) (b : Option Blk) (k : Addr → Value) : AN := match b with
  | some b => h.new b AN.stuck fun b h' => .val (k ⟨b, 0, none⟩) h'
  | none => .stuck
noncomputable def newCells (h : AH) (cs : List Value) (k : Addr → Value) : AN := newB h (bnew cs) k

noncomputable def boxA (h : AH) (x : Value) : AN := oB (cellsL x) AN.stuck fun l => newCells h l fun a => .pointer (some a)

noncomputable def addrAdd (a : Addr) (n : Nat) : Addr := ⟨a.block, a.off + n, none⟩

/-- parts, each laid over the cells from its place on -/
noncomputable def fillA (cells : List Value) : List ((Nat × Nat) × Value) → Option (List Value)
  | [] => some cells
  | ((off, size), v) :: rest => oB (cellsL v) none fun vs => iB (Nat.beq (lenL vs 0) size) (oB (patch vs cells off) none fun cs => fillA cs rest) none

/-- where a struct's fields lie: place and size -/
noncomputable def plL : List Field → Option (List (Nat × Nat))
  | [] => some []
  | f :: fs => match szOf P f.type, plL fs with
    | some n, some l => some ((f.offset, n) :: l)
    | _, _ => none

/-- where the parts of a type lie: place and size -/
noncomputable def placeOf (t : TypeId) (i : Nat) : Option (Nat × Nat) := match P.underlying t with
  | some (.struct fields) => match plL P fields.toList with
    | some l => l[i]?
    | none => none
  | some (.array _ e) => match szOf P e with
    | some n => some (i * n, n)
    | none => none
  | _ => none

/-- is it known where each part of the type lies? -/
noncomputable def buildB (t : TypeId) : Bool := match P.underlying t with
  | some (.struct fields) => (plL P fields.toList).isSome
  | some (.array _ e) => (szOf P e).isSome
  | _ => false

noncomputable def placesOf (pl : Nat → Option (Nat × Nat)) : List (Nat × Operand) → Option (List ((Nat × Nat) × Operand))
  | [] => some []
  | (i, x) :: l => match pl i, placesOf pl l with
    | some p, some l' => some ((p, x) :: l')
    | _, _ => none

noncomputable def placesB (t : TypeId) (l : List (Nat × Operand)) : Option (List ((Nat × Nat) × Operand)) := match buildB P t with
  | true => placesOf (placeOf P t) l
  | false => none

/-- an element's zero: as long as an element is -/
noncomputable def zeroE (e : TypeId) : Option (List Value) := match P.info? e, zeroL P e with
  | some i, some z => match Nat.beq (lenL z 0) i.size, Nat.ble i.bytes 1000000 with
    | true, true => some z
    | _, _ => none
  | _, _ => none

noncomputable def natIn (v : Value) (y : Nat) : Option Nat := match v with
  | .int _ (.ofNat n) => match Nat.ble n y with
    | true => some n
    | false => none
  | _ => none

noncomputable def natInO (v : Option Value) (y d : Nat) : Option Nat := match v with
  | none => some d
  | some v => natIn v y

noncomputable def takeB (n : Nat) (l : List UInt8) : List UInt8 :=
  Nat.rec (motive := fun _ => List UInt8 → List UInt8) (fun _ => []) (fun _ ih l => List.rec (motive := fun _ => List UInt8) [] (fun v t _ => v :: ih t) l) n l
noncomputable def dropB (n : Nat) (l : List UInt8) : List UInt8 :=
  Nat.rec (motive := fun _ => List UInt8 → List UInt8) (fun l => l) (fun _ ih l => List.rec (motive := fun _ => List UInt8) [] (fun _ t _ => ih t) l) n l
noncomputable def lenB (i : Nat) (l : List UInt8) : Nat :=
  List.rec (motive := fun _ => Nat → Nat) (fun i => i) (fun _ _ ih i => fN i fun i => ih (Nat.succ i)) l i

noncomputable def sliceStr (s : ByteArray) (lo hi : Option Value) : Option Value :=
  match s with
  | ⟨⟨b⟩⟩ => fN (lenB 0 b) fun n => oB (natInO hi n n) none fun h => oB (natInO lo h 0) none fun l => some (.string ⟨⟨takeB (h - l) (dropB l b)⟩⟩)

noncomputable def eqB (a b : List UInt8) : Bool :=
  List.rec (motive := fun _ => List UInt8 → Bool) (fun b => List.rec (motive := fun _ => Bool) true (fun _ _ _ => false) b)
    (fun x _ ih b => List.rec (motive := fun _ => Bool) false (fun y t _ => iB (Nat.beq x.toNat y.toNat) (ih t) false) b) a b
noncomputable def catB (a b : List UInt8) : List UInt8 := List.rec (motive := fun _ => List UInt8) b (fun x _ ih => x :: ih) a

noncomputable def strA (P : Program) (op : BinOp) (t : TypeId) (x y : ByteArray) : Option Value := match x, y with
  | ⟨⟨a⟩⟩, ⟨⟨b⟩⟩ => match op with
    | .eql => mkB (eqB a b)
    | .neq => mkB (!eqB a b)
    | .add => match Nat.blt (lenB 0 a + lenB 0 b) 1000000 with
      | true => some (.string ⟨⟨catB a b⟩⟩)
      | false => none
    | op => quickC P (binOp op t (.string ⟨⟨a⟩⟩) (.string ⟨⟨b⟩⟩))

/-- of a slice whose capacity is known -/
noncomputable def sliceKnown (sz : Nat) (a : Addr) (len cap : Nat) (lo hi mx : Option Value) : Option Value :=
  iB (Nat.blt cap unk) (oB (natInO mx cap cap) none fun m => oB (natInO hi m len) none fun h => oB (natInO lo h 0) none fun l =>
    some (.slice (some (iB (Nat.beq m l) a (addrAdd a (l * sz)))) (h - l) (m - l))) none

/-- of a slice whose capacity is not known -/
noncomputable def sliceUnk (sz : Nat) (a : Addr) (len : Nat) (lo hi mx : Option Value) : Option Value :=
  iB (Nat.beq a.block nob)
    (oB (natInO mx 0 0) none fun _ => oB (natInO hi 0 0) none fun _ => oB (natInO lo 0 0) none fun _ => some (.slice (some ⟨nob, 0, none⟩) 0 (unk + sz)))
    (match mx with
    | some m => oB (natIn m len) none fun m => iB (Nat.blt m unk) (oB (natInO hi m len) none fun h => oB (natInO lo h 0) none fun l =>
        some (.slice (some (iB (Nat.beq m l) a (addrAdd a (l * sz)))) (h - l) (m - l))) none
    | none => oB (natInO hi len len) none fun h => oB (natInO lo h 0) none fun l =>
        iB (Nat.beq l 0) (some (.slice (some a) h (unk + sz)))
          (iB (Nat.blt l len) (some (.slice (some (addrAdd a (l * sz))) (h - l) (unk + sz))) (some (.slice (some ⟨nob, 0, none⟩) 0 (unk + sz)))))

/-- what is sliced -/
inductive SK where
  | str
  | sl (sz : Nat)
  | ptr (n sz : Nat)     -- (a pointer to an array, which may be nil)
  | arr (n sz : Nat)     -- (an array's address)
  | no

noncomputable def skOf (t : TypeId) : SK := match P.underlying t with
  | some .string => .str
  | some (.slice e) => match szOf P e with
    | some n => .sl n
    | none => .no
  | some (.pointer arr) => match P.underlying arr with
    | some (.array n e) => match szOf P e with
      | some z => .ptr n z
      | none => .no
    | _ => .no
  | some (.array n e) => match szOf P e with
    | some z => .arr n z
    | none => .no
  | _ => .no

noncomputable def sliceA (k : SK) (x : Value) (lo hi mx : Option Value) : Option Value :=
  match hi, mx with
  | none, some _ => none
  | _, _ => sliceB k x lo hi mx
  where
  sliceB (k : SK) (x : Value) (lo hi mx : Option Value) : Option Value := match k, x with
  | .str, .string s => match mx with
    | some _ => none
    | none => sliceStr s lo hi
  | .sl _, .slice none len cap => match natInO mx cap cap with
    | none => none
    | some m => match natInO hi m len with
      | none => none
      | some h => match natInO lo h 0 with
        | none => none
        | some l => some (.slice none (h - l) (m - l))
  | .sl sz, .slice (some a) len cap => iB (Nat.blt cap unk) (sliceKnown sz a len cap lo hi mx) (iB (Nat.beq cap (unk + sz)) (sliceUnk sz a len lo hi mx) none)
  | .ptr n sz, .pointer (some a) => sliceKnown sz a n n lo hi mx
  | .arr n sz, .pointer (some a) => sliceKnown sz a n n lo hi mx
  | _, _ => none

inductive XK where
  | sl (sz : Nat)
  | arr (n sz : Nat)
  | no
noncomputable def xkOf (t : TypeId) : XK := match P.underlying t with
  | some (.slice e) => match szOf P e with
    | some n => .sl n
    | none => .no
  | some (.array n e) => match szOf P e with
    | some z => .arr n z
    | none => .no
  | _ => .no

noncomputable def indexAddrA (k : XK) (x i : Value) : Option Value :=
  match i with
  | .int _ (.ofNat n) => match k with
    | .sl sz => match x with
      | .slice (some a) len _ => match Nat.blt n len with
        | true => some (.pointer (some (addrAdd a (n * sz))))
        | false => none
      | _ => none
    | .arr len sz => match x with
      | .pointer (some a) => match Nat.blt n len with
        | true => some (.pointer (some (addrAdd a (n * sz))))
        | false => none
      | _ => none
    | .no => none
  | _ => none

/-- a part of a value of several cells -/
noncomputable def partS (agg : Bool) (n : Nat) (cs : List Value) (off : Nat) : Option Value := match agg with
  | true => match cut cs off n with
    | some l => some (.agg ⟨l⟩)
    | none => none
  | false => nth cs off

inductive IK where
  | arr (len n : Nat) (agg : Bool)
  | str
  | no
noncomputable def ikOf (t : TypeId) : IK := match P.underlying t with
  | some (.array len e) => match szOf P e, aggB P e with
    | some n, some b => .arr len n b
    | _, _ => .no
  | some .string => .str
  | _ => .no

noncomputable def nthB (l : List UInt8) (i : Nat) : Option UInt8 :=
  List.rec (motive := fun _ => Nat → Option UInt8) (fun _ => none) (fun v _ ih i => Nat.rec (motive := fun _ => Option UInt8) (some v) (fun m _ => ih m) i) l i

noncomputable def indexA (k : IK) (x i : Value) : Option Value :=
  match i with
  | .int _ (.ofNat n) => match k, x with
    | .arr len sz agg, .agg ⟨cs⟩ => match Nat.blt n len with
      | true => partS agg sz cs (n * sz)
      | false => none
    | .str, .string ⟨⟨s⟩⟩ => match nthB s n with
      | some b => fN b.toNat fun m => some (.int .u8 (.ofNat m))
      | none => none
    | _, _ => none
  | _ => none

/-- a field: where it lies, its size, is it of several cells? -/
noncomputable def fkOf (t : TypeId) (f : Nat) : Option (Nat × Nat × Bool) := match fieldOf P t f with
  | some fl => match szOf P fl.type, aggB P fl.type with
    | some n, some b => some (fl.offset, n, b)
    | _, _ => none
  | none => none

noncomputable def fieldA (k : Option (Nat × Nat × Bool)) (x : Value) : Option Value :=
  match k, x with
  | some (off, n, agg), .agg ⟨cs⟩ => partS agg n cs off
  | _, _ => none

noncomputable def fieldAddrA (k : Option (Nat × Nat × Bool)) (x : Value) : Option Value :=
  match k, x with
  | some (off, n, _), .pointer (some a) => match n with
    | 0 => none
    | _ + 1 => some (.pointer (some (addrAdd a off)))
  | _, _ => none

/-- are two plain keys the same? -/
noncomputable def sameCells : List Value → List Value → Option Bool
  | [], [] => some true
  | .int j a :: l, .int k b :: m => match kB j k with
    | true => match eqI a b with
      | true => sameCells l m
      | false => match sameCells l m with
        | some _ => some false
        | none => none
    | false => none
  | _, _ => none

/-- a key's cells: of a number; of a struct or an array of numbers -/
noncomputable def keyL (wide : Bool) (v : Value) : Option (List Value) := match wide with
  | false => match v with
    | .int k n => some [.int k n]
    | _ => none
  | true => match v with
    | .agg ⟨l⟩ => some l
    | _ => none

/-- n numbers? -/
noncomputable def intsN : Nat → List Value → Bool
  | 0, [] => true
  | n + 1, .int _ _ :: l => intsN n l
  | _, _ => false

noncomputable def findA (wide : Bool) (k : List Value) : List (Value × Value) → Option (Option Value)
  | [] => some none
  | (x, v) :: es => match keyL wide x with
    | some c => match sameCells k c with
      | some true => some (some v)
      | some false => findA wide k es
      | none => none
    | none => none

noncomputable def setA (wide : Bool) (k : List Value) (key v : Value) : List (Value × Value) → List (Value × Value)
  | [] => [(key, v)]
  | (x, u) :: es => match keyL wide x with
    | some c => match sameCells k c with
      | some true => (key, v) :: es
      | _ => (x, u) :: setA wide k key v es
    | none => (x, u) :: setA wide k key v es

/-- may a type be a map's key here: a number, or a struct or an array of numbers? -/
noncomputable def intT (t : TypeId) : Bool := match P.underlying t with
  | some (.int _) => true
  | _ => false
noncomputable def fieldsI : Nat → List Field → Bool
  | _, [] => true
  | i, f :: fs => match intT P f.type, Nat.beq f.offset i, f.name == "_" with
    | true, true, false => fieldsI (i + 1) fs
    | _, _, _ => false
noncomputable def keyT (t : TypeId) : Option (Bool × Nat) := match P.underlying t with
  | some (.int _) => some (false, 1)
  | some (.array n e) => match intT P e, szOf P e with
    | true, some 1 => some (true, n)
    | _, _ => none
  | some (.struct fs) => match fieldsI P 0 fs.toList, P.stoodInHeld t with
    | true, false => fN fs.toList.length fun n => some (true, n)
    | _, _ => none
  | _ => none

noncomputable def mapOf (h : AH) : Value → Option (List (Value × Value))
  | .map none => some []
  | .map (some r) => match h.get r with
    | some (.map es) => some es
    | _ => none
  | _ => none

/-- a map's types: what its keys are; the zero of its elements -/
structure MK where
  wide : Bool
  n : Nat
  z : Value
noncomputable def mkOf (t : TypeId) : Option MK := match P.underlying t with
  | some (.map k e) => match keyT P k, zeroOf P e with
    | some (b, n), some z => some ⟨b, n, z⟩
    | _, _ => none
  | _ => none

noncomputable def keyC (m : MK) (i : Value) : Option (List Value) := match keyL m.wide i with
  | some c => match intsN m.n c with
    | true => some c
    | false => none
  | none => none

noncomputable def lookupA (m : Option MK) (h : AH) (x i : Value) (ok : Bool) : Option Value :=
  match m, mapOf h x with
  | some m, some es => match keyC m i with
    | none => none
    | some c => match findA m.wide c es with
      | none => none
      | some (some v) => match ok with
        | true => some (.tuple ⟨[v, .bool true]⟩)
        | false => some v
      | some none => match ok with
        | true => some (.tuple ⟨[m.z, .bool false]⟩)
        | false => some m.z
  | _, _ => none

noncomputable def mapUpdateA (m : Option MK) (h : AH) (x k v : Value) : Option AH :=
  match m, x with
  | some m, .map (some r) => match h.get r with
    | some (.map es) => match keyC m k with
      | some c => match findA m.wide c es with
        | some _ => some (h.put r (some (.map (setA m.wide c k v es))))
        | none => none
      | none => none
    | _ => none
  | _, _ => none

/-- bytes as values -/
noncomputable def bytesV (l : List UInt8) : List Value := List.rec (motive := fun _ => List Value) [] (fun b _ ih => .int .u8 (.ofNat b.toNat) :: ih) l

/-- the first n elements' cells of what is appended or copied -/
noncomputable def firstA (h : AH) (size n : Nat) : Value → Option (List Value)
  | .slice none _ _ => match n with
    | 0 => some []
    | _ + 1 => none
  | .slice (some ⟨b, off, none⟩) _ _ => match n * size with
    | 0 => some []
    | m + 1 => match h.get b with
      | some k => bcut k off (m + 1)
      | none => none
  | .string ⟨⟨s⟩⟩ => match size with
    | 1 => some (bytesV (takeB n s))
    | _ => none
  | _ => none

noncomputable def lenN : Value → Option Nat
  | .slice _ n _ => some n
  | .string ⟨⟨s⟩⟩ => some (lenB 0 s)
  | _ => none

/-- what append knows of its types: an element's size, its zero if so many zeros are appended -/
noncomputable def akOf (ts : List TypeId) : Option (Nat × Option (List Value)) := match ts with
  | [sT, xT] => match elemT P sT with
    | some e => match szOf P e, zeroE P e, P.underlying xT with
      | some n, some z, some (.int _) => some (n, some z)
      | some n, some _, some _ => some (n, none)
      | _, _, _ => none
    | none => none
  | _ => none

noncomputable def newOf (h : AH) (size : Nat) (z : Option (List Value)) (x : Value) : Option (Nat × List Value) := match z with
  | some z => match x with
    | .int _ (.ofNat n) => some (n, repl z n)
    | _ => none
  | none => match lenN x with
    | none => none
    | some n => match firstA h size n x with
      | some l => some (n, l)
      | none => none

/-- append to a slice of which it is not known whether there is room: the block that it lies in goes, and a new one comes -/
noncomputable def growA (size : Nat) (h : AH) (b off sLen n : Nat) (new : List Value) : AN :=
  oB (h.get b) AN.stuck fun k => iB (Nat.beq off 0)
    (newB (h.put b none) (bgrow k (sLen * size) new) fun a => .slice (some a) (sLen + n) (unk + size))
    (oB (bcut k off (sLen * size)) AN.stuck fun old => iB (isVec k) (newB (h.put b none) (bapp (old ++ new)) fun a => .slice (some a) (sLen + n) (unk + size)) AN.stuck)
  where
  isVec : Blk → Bool
    | .vec _ _ => true
    | _ => false

noncomputable def appendA (k : Option (Nat × Option (List Value))) (h : AH) (s x : Value) : AN :=
  match k, s with
  | some (size, z), .slice base sLen sCap => match newOf h size z x with
    | none => .stuck
    | some (n, new) => iB (Nat.blt (sLen + n) 100000) (match n with
        | 0 => iB (Nat.ble sLen sCap) (.val (.slice base sLen sCap) h) .stuck
        | n' + 1 => match base with
          | none => iB (Nat.beq sCap 0) (iB (Nat.beq sLen 0) (newB h (bapp new) fun a => .slice (some a) (n' + 1) (unk + size)) .stuck) .stuck
          | some ⟨b, off, none⟩ => iB (Nat.blt sCap unk)
              (iB (Nat.ble (sLen + (n' + 1)) sCap)
                (match storeC h b (off + sLen * size) new with
                  | some h' => .val (.slice base (sLen + (n' + 1)) sCap) h'
                  | none => .stuck)
                (match sLen * size with
                  | 0 => newB h (bapp new) fun a => .slice (some a) (sLen + (n' + 1)) (unk + size)
                  | m + 1 => match h.get b with
                    | some k => match bcut k off (m + 1) with
                      | some old => newB h (bapp (old ++ new)) fun a => .slice (some a) (sLen + (n' + 1)) (unk + size)
                      | none => .stuck
                    | none => .stuck))
              (iB (Nat.beq sCap (unk + size)) (growA size h b off sLen (n' + 1) new) .stuck)
          | _ => .stuck) .stuck
  | _, _ => .stuck

noncomputable def ckOf (ts : List TypeId) : Option Nat := match ts with
  | dT :: _ => match elemT P dT with
    | some e => szOf P e
    | none => none
  | _ => none

noncomputable def copyA (k : Option Nat) (h : AH) (d src : Value) : AN :=
  match k, d, lenN src with
  | some size, .slice base dLen _, some m => match firstA h size (Nat.min m dLen) src with
    | none => .stuck
    | some l => match base with
      | none => .val (.int .i64 (.ofNat (Nat.min m dLen))) h
      | some ⟨b, off, none⟩ => match l with
        | [] => .val (.int .i64 (.ofNat (Nat.min m dLen))) h
        | _ :: _ => match storeC h b off l with
          | some h' => .val (.int .i64 (.ofNat (Nat.min m dLen))) h'
          | none => .stuck
      | _ => .stuck
  | _, _, _ => .stuck

/-- clear of a slice: the zero of its elements -/
noncomputable def clOf (ts : List TypeId) : Option (List Value) := match ts with
  | t :: _ => match elemT P t with
    | some e => zeroE P e
    | none => none
  | _ => none

noncomputable def clearA (z : Option (List Value)) (h : AH) (x : Value) : AN :=
  match z, x with
  | some _, .slice none _ _ => .val (.tuple ⟨[]⟩) h
  | some z, .slice (some ⟨b, off, none⟩) n _ => match n with
    | 0 => .val (.tuple ⟨[]⟩) h
    | _ + 1 => match storeC h b off (repl z n) with
      | some h' => .val (.tuple ⟨[]⟩) h'
      | none => .stuck
  | _, _ => .stuck

noncomputable def ofO (h : AH) (v : Option Value) : AN := match v with
  | some v => .val v h
  | none => .stuck

noncomputable def lenA (k : Nat) (h : AH) (x : Value) : AN := match k, x with
  | 1, .slice _ n _ => .val (.int .i64 (.ofNat n)) h
  | 0, .string ⟨⟨s⟩⟩ => fN (lenB 0 s) fun n => .val (.int .i64 (.ofNat n)) h
  | 2, .map none => .val (.int .i64 (.ofNat 0)) h
  | 2, .map (some r) => match h.get r with
    | some (.map es) => .val (.int .i64 (.ofNat es.length)) h
    | _ => .stuck
  | _, _ => .stuck

/-- len of the types that are served -/
noncomputable def lnB (ts : List TypeId) : Option Nat := match ts with
  | t :: _ => match P.underlying t with
    | some .string => some 0
    | some (.slice _) => some 1
    | some (.map _ _) => some 2
    | _ => none
  | _ => none
noncomputable def cpB (ts : List TypeId) : Bool := match ts with
  | t :: _ => match P.underlying t with
    | some (.slice _) => true
    | _ => false
  | _ => false

/-- the greatest, or the least, of some numbers -/
noncomputable def foldMM (mx : Bool) (k : IntKind) (a : Int) : List Value → Option Int
  | [] => some a
  | .int k' b :: l => match kB k k' with
    | true => match mx with
      | true => match ltI a b with
        | true => foldMM mx k b l
        | false => foldMM mx k a l
      | false => match ltI b a with
        | true => foldMM mx k b l
        | false => foldMM mx k a l
    | false => none
  | _ => none

noncomputable def builtinA (b : Builtin) (ts : Array TypeId) (typ : TypeId) (h : AH) (args : List Value) : AN :=
  match b with
  | .len => match lnB P ts.toList, args with
    | some k, [x] => lenA k h x
    | _, _ => .stuck
  | .cap => match cpB P ts.toList, args with
    | true, [.slice _ _ c] => iB (Nat.blt c unk) (.val (.int .i64 (.ofNat c)) h) .stuck
    | _, _ => .stuck
  | .append => match args with
    | [s, x] => appendA (akOf P ts.toList) h s x
    | _ => .stuck
  | .copy => match args with
    | [d, s] => copyA (ckOf P ts.toList) h d s
    | _ => .stuck
  | .clear => match args with
    | [x] => clearA (clOf P ts.toList) h x
    | _ => .stuck
  | .panic => match args with
    | [.iface t v] => .panic (.iface t v) h
    | _ => .stuck
  | .min => match args with
    | .int k a :: l => match foldMM false k a l with
      | some n => .val (.int k n) h
      | none => .stuck
    | _ => .stuck
  | .max => match args with
    | .int k a :: l => match foldMM true k a l with
      | some n => .val (.int k n) h
      | none => .stuck
    | _ => .stuck
  | _ => .stuck

/-- a value of a kind of addresses: which kind, and is it nil? -/
noncomputable def nv : Value → Option (Nat × Bool)
  | .pointer none => some (0, true)
  | .pointer (some _) => some (0, false)
  | .slice none _ _ => some (1, true)
  | .slice (some _) _ _ => some (1, false)
  | .map none => some (2, true)
  | .map (some _) => some (2, false)
  | .nilFunc => some (3, true)
  | .func _ _ _ => some (3, false)
  | .nilIface => some (4, true)
  | .iface _ _ => some (4, false)
  | _ => none
noncomputable def nk : TypeDesc → Nat
  | .pointer _ => 0
  | .slice _ => 1
  | .map _ _ => 2
  | .func _ _ _ => 3
  | .interface _ => 4
  | _ => 5

noncomputable def nilEq (t : TypeId) (x y : Value) : Option Bool := match P.underlying t with
  | some d => match nv x, nv y with
    | some (k, b), some (l, c) => iB (Nat.beq k (nk d)) (iB (Nat.beq l (nk d)) (match b, c with
      | true, c => some c
      | false, true => some false
      | false, false => none) none) none
    | _, _ => none
  | none => none

noncomputable def constOp : Operand → Bool
  | .const _ => true
  | _ => false

noncomputable def eqOf (op : BinOp) (b : Option Bool) : Option Value := match b with
  | some b => match op with
    | .eql => mkB b
    | .neq => mkB (!b)
    | _ => none
  | none => none

noncomputable def binA (op : BinOp) (t : TypeId) (c : Bool) (x y : Value) : Option Value :=
  match x, y with
  | .int k a, .int k' b => intF P op t k a k' b
  | .string a, .string b => strA P op t a b
  | .bool _, .bool _ | .float _ _, .float _ _ => quickC P (binOp op t x y)
  | .agg ⟨a⟩, .agg ⟨b⟩ => match plainL a && plainL b && !P.eqGuardType P.depth t with
    | true => quickC P (binOp op t x y)
    | false => none
  | .nilIface, .nilIface => match c with
    | true => eqOf op (nilEq P t x y)
    | false => none
  | _, _ => eqOf op (nilEq P t x y)

noncomputable def unA (op : UnOp) (x : Value) : Option Value := match plain1 x with
  | true => match op, x with
    | .not, .bool b => mkB (!b)
    | _, _ => quickC P (Op.unary op x)
  | false => none

/-- what is converted -/
inductive CK where
  | bytes (sz : Nat)     -- a string to bytes
  | str                  -- bytes to a string
  | same                 -- bytes to bytes
  | int (k : IntKind)
  | other
  | no
noncomputable def u8T (t : TypeId) : Bool := match P.underlying t with
  | some (.int .u8) => true
  | _ => false
noncomputable def ckindOf (src dst : TypeId) : CK := match P.underlying src, P.underlying dst with
  | some (.int _), some (.int k) => .int k
  | some .string, some (.slice e) => match u8T P e, szOf P e with
    | true, some 1 => .bytes 1
    | _, _ => .no
  | some (.slice e), some .string => match u8T P e with
    | true => .str
    | false => .no
  | some (.slice _), some (.slice e) => match u8T P e, Nat.beq src dst with
    | true, true => .same
    | _, _ => .no
  | some .string, some .string => .other
  | some (.int _), some (.float _) => .other
  | _, _ => .no

noncomputable def bytesOfCells : List Value → Option (List UInt8)
  | [] => some []
  | .int .u8 n :: l => match bytesOfCells l with
    | some l' => some (UInt8.ofNat n.toNat :: l')
    | none => none
  | _ :: _ => none

noncomputable def convA (k : CK) (src dst : TypeId) (h : AH) (x : Value) : AN :=
  match k with
  | .int k => match x with
    | .int _ n => ofO h (wrapF k n)
    | _ => .stuck
  | .bytes sz => match x with
    | .string ⟨⟨s⟩⟩ => fN (lenB 0 s) fun n => newB h (bapp (bytesV s)) fun a => .slice (some a) n (unk + sz)
    | _ => .stuck
  | .str => match x with
    | .slice none _ _ => .val (.string ⟨⟨[]⟩⟩) h
    | .slice (some ⟨b, off, none⟩) n _ => match n with
      | 0 => .val (.string ⟨⟨[]⟩⟩) h
      | _ + 1 => match h.get b with
        | some k => match bcut k off n with
          | some l => match bytesOfCells l with
            | some bs => .val (.string ⟨⟨bs⟩⟩) h
            | none => .stuck
          | none => .stuck
        | none => .stuck
    | _ => .stuck
  | .same => match x with
    | .slice (some ⟨b, off, none⟩) n c => match h.get b with
      | some (.cells _) => .val (.slice (some ⟨b, off, none⟩) n c) h
      | some (.vec _ _) => .val (.slice (some ⟨b, off, none⟩) n c) h
      | _ => .stuck
    | _ => .stuck
  | .other => match plain1 x with
    | true => ofO h (quickC P (convert src dst x))
    | false => .stuck
  | .no => .stuck

noncomputable def callA (h : AH) (f : Value) (args : List Value) : AN :=
  match f with
  | .func (.func g) ⟨first⟩ ⟨captured⟩ => .call g (first ++ (args ++ captured)) h
  | _ => .stuck

/-- a type that a value may be made an interface value of -/
noncomputable def concB (t : TypeId) : Bool := match P.underlying t with
  | some (.interface _) => false
  | some _ => true
  | none => false

noncomputable def assertA (asserted : TypeId) (z : Option Value) (ok : Bool) (x : Value) : Option Value :=
  match x with
  | .iface t v => match Nat.beq t asserted with
    | true => match ok with
      | true => some (.tuple ⟨[v, .bool true]⟩)
      | false => some v
    | false => match ok, z with
      | true, some z => some (.tuple ⟨[z, .bool false]⟩)
      | _, _ => none
  | .nilIface => match ok, z with
      | true, some z => some (.tuple ⟨[z, .bool false]⟩)
      | _, _ => none
  | _ => none

noncomputable def zipV (ρ : Operand → Value) : List ((Nat × Nat) × Operand) → List ((Nat × Nat) × Value)
  | [] => []
  | (p, x) :: l => (p, ρ x) :: zipV ρ l

noncomputable def buildA (z : Option (List Value)) (pl : Option (List ((Nat × Nat) × Operand))) (ρ : Operand → Value) : Option Value :=
  match z, pl with
  | some z, some pl => match fillA z (zipV ρ pl) with
    | some l => some (.agg ⟨l⟩)
    | none => none
  | _, _ => none

/-- a slice's elements: their size, and so many zeros -/
noncomputable def bsOf (t : TypeId) (len : Nat) : Option (Nat × List Value) := match elemT P t with
  | some e => match szOf P e, zeroL P e with
    | some n, some z => match Nat.blt (len * n) 100000, Nat.beq (lenL z 0) n, Nat.blt len 100000 with
      | true, true, true => some (n, repl z len)
      | _, _, _ => none
    | _, _ => none
  | none => none

noncomputable def buildSliceA (k : Option (Nat × List Value)) (pl : Option (List ((Nat × Nat) × Operand))) (len : Nat) (ρ : Operand → Value) (h : AH) : AN :=
  match k, pl with
  | some (_, z), some pl => match fillA z (zipV ρ pl) with
    | some cs => newCells h cs fun a => .slice (some a) len len
    | none => .stuck
  | _, _ => .stuck

noncomputable def makeSliceA (z : Option (List Value)) (l c : Value) (h : AH) : AN := match z, l, c with
  | some z, .int _ (.ofNat l), .int _ (.ofNat c) => match Nat.ble l c, Nat.blt c 100000 with
    | true, true => newCells h (repl z c) fun a => .slice (some a) l c
    | _, _ => .stuck
  | _, _, _ => .stuck

noncomputable def nilCheckA (x : Value) : Option Value := match x with
  | .pointer (some a) => some (.pointer (some a))
  | .func (.func f) a b => some (.func (.func f) a b)
  | _ => none

noncomputable def pickA (c a b : Value) : Option Value := match c with
  | .bool true => some a
  | .bool false => some b
  | _ => none

noncomputable def deferA (h : AH) (f : Value) (args : List Value) : AN := match f with
  | .func fn ⟨first⟩ captured => .defer { target := .fn fn captured, args := ⟨first ++ args⟩ } h
  | _ => .stuck

noncomputable def panicA (h : AH) (x : Value) : AN := match x with
  | .iface t v => .panic (.iface t v) h
  | _ => .stuck

noncomputable def extractA (x : Value) (i : Nat) : Option Value := match x with
  | .tuple ⟨l⟩ => nth l i
  | _ => none

noncomputable def mapL (ρ : Operand → Value) : List Operand → List Value
  | [] => []
  | x :: l => ρ x :: mapL ρ l

noncomputable def opA (typ : TypeId) (ρ : Operand → Value) (h : AH) : Op → AN
  | .move x => .val (ρ x) h
  | .assign x => .val (ρ x) h
  | .pick c a b => ofO h (pickA (ρ c) (ρ a) (ρ b))
  | .alloc e => match zeroL P e with
    | some z => newCells h z fun a => .pointer (some a)
    | none => .stuck
  | .box _ x => boxA h (ρ x)
  | .build t parts => ofO h (buildA (zeroL P t) (placesB P t parts.toList) ρ)
  | .buildSlice t len parts => buildSliceA (bsOf P t len) (match bsOf P t len with | some (n, _) => placesOf (fun i => some (i * n, n)) parts.toList | none => none) len ρ h
  | .load t a => match aggB P t, szOf P t with
    | some b, some n => ofO h (loadS b n h (ρ a))
    | _, _ => .stuck
  | .store t a x => match szOf P t with
    | some n => match storeS n h (ρ a) (ρ x) with
      | some h' => .val undef h'
      | none => .stuck
    | none => .stuck
  | .nilCheck x => ofO h (nilCheckA (ρ x))
  | .binOp op t x y _ => ofO h (binA P op t (constOp x || constOp y) (ρ x) (ρ y))
  | .unOp op _ x => ofO h (unA P op (ρ x))
  | .convert s d x => convA P (ckindOf P s d) s d h (ρ x)
  | .makeInterface t x => match concB P t with
    | true => .val (.iface t (ρ x)) h
    | false => .stuck
  | .makeFunc fn first captured => .val (.func fn ⟨mapL ρ first.toList⟩ ⟨mapL ρ captured.toList⟩) h
  | .makeMap _ none => h.new (.map []) AN.stuck fun b h' => .val (.map (some b)) h'
  | .makeSlice t l c => makeSliceA (match elemT P t with | some e => zeroE P e | none => none) (ρ l) (ρ c) h
  | .slice t x lo hi mx => ofO h (sliceA (skOf P t) (ρ x) (lo.map ρ) (hi.map ρ) (mx.map ρ))
  | .fieldAddr s x f => ofO h (fieldAddrA (fkOf P s f) (ρ x))
  | .field t x f => ofO h (fieldA (fkOf P t f) (ρ x))
  | .indexAddr t x i => ofO h (indexAddrA (xkOf P t) (ρ x) (ρ i))
  | .index t x i => ofO h (indexA (ikOf P t) (ρ x) (ρ i))
  | .lookup t x i ok => ofO h (lookupA (mkOf P t) h (ρ x) (ρ i) ok)
  | .mapUpdate t m k v => match mapUpdateA (mkOf P t) h (ρ m) (ρ k) (ρ v) with
    | some h' => .val undef h'
    | none => .stuck
  | .extract t i => ofO h (extractA (ρ t) i)
  | .typeAssert x _ asserted ok => match concB P asserted with
    | true => ofO h (assertA asserted (zeroOf P asserted) ok (ρ x))
    | false => .stuck
  | .call c => match c.callee with
    | .value f => callA h (ρ f) (mapL ρ c.args.toList)
    | .builtin b => builtinA P b c.argTypes typ h (mapL ρ c.args.toList)
    | _ => .stuck
  | .defer c => match c.callee with
    | .value f => deferA h (ρ f) (mapL ρ c.args.toList)
    | _ => .stuck
  | .panic x => panicA h (ρ x)
  | _ => .stuck
end ops
end Go.Ab
/- The evaluator's control: regions, code, deferred calls, calls. -/
namespace Go.Ab
open Go

inductive R where
  | norm (e : Env) (d : List Deferred) (h : AH)
  | exit (id : Nat) (e : Env) (d : List Deferred) (h : AH)
  | ret (e : Env) (d : List Deferred) (h : AH)
  | pan (v : Value) (e : Env) (d : List Deferred) (h : AH)
  | stuck

inductive C where
  | ret (v : Value) (h : AH)
  | pan (v : Value) (h : AH)
  | stuck

abbrev Rec := FuncId → List Value → AH → C

noncomputable def evalE (e : Env) : Operand → Value
  | .tmp t => (ea t).get e
  | .const v => v
  | .global g => .pointer (some ⟨g, 0, none⟩)
  | .func f => .func (.func f) ⟨[]⟩ ⟨[]⟩

noncomputable def putD (e : Env) (d : Option Tmp) (v : Value) : Env := match d with
  | some t => (ea t).put e v
  | none => e

/-- the guard of an operation: the slot of the one that it hangs on -/
noncomputable def guardOf (all : List Oper) (o : Oper) : Option (Option Tmp × Bool) := match o.guard with
  | none => none
  | some (j, want) => match all[j]? with
    | some oj => some (oj.dst, want)
    | none => some (none, want)

noncomputable def wantG (g : Option (Option Tmp × Bool)) (e : Env) : Bool := match g with
  | none => true
  | some (some t, w) => match (ea t).get e with
    | .bool b => match b, w with
      | true, true => true
      | false, false => true
      | _, _ => false
    | _ => false
  | some (none, _) => false

/-- the same value, of one cell -/
noncomputable def same1 (x y : Value) : Bool := match x with
  | .bool a => match y with
    | .bool b => a == b
    | _ => false
  | .int j a => match y with
    | .int k b => iB (kB j k) (eqI a b) false
    | _ => false
  | .string ⟨⟨a⟩⟩ => match y with
    | .string ⟨⟨b⟩⟩ => eqB a b
    | _ => false
  | .pointer none => match y with
    | .pointer none => true
    | _ => false
  | .pointer (some ⟨a, i, none⟩) => match y with
    | .pointer (some ⟨b, j, none⟩) => iB (Nat.beq a b) (Nat.beq i j) false
    | _ => false
  | .slice none i j => match y with
    | .slice none k l => iB (Nat.beq i k) (Nat.beq j l) false
    | _ => false
  | .slice (some ⟨a, i, none⟩) m c => match y with
    | .slice (some ⟨b, j, none⟩) n d => iB (Nat.beq a b) (iB (Nat.beq i j) (iB (Nat.beq m n) (Nat.beq c d) false) false) false
    | _ => false
  | .map none => match y with
    | .map none => true
    | _ => false
  | .map (some a) => match y with
    | .map (some b) => Nat.beq a b
    | _ => false
  | .nilIface => match y with
    | .nilIface => true
    | _ => false
  | .func (.func f) ⟨[]⟩ ⟨[]⟩ => match y with
    | .func (.func g) ⟨[]⟩ ⟨[]⟩ => Nat.beq f g
    | _ => false
  | .nilFunc => match y with
    | .nilFunc => true
    | _ => false
  | _ => false
noncomputable def sameL (a b : List Value) : Bool :=
  List.rec (motive := fun _ => List Value → Bool) (fun b => List.rec (motive := fun _ => Bool) true (fun _ _ _ => false) b)
    (fun x _ ih b => List.rec (motive := fun _ => Bool) false (fun y t _ => iB (same1 x y) (ih t) false) b) a b
/-- the same value -/
noncomputable def sameV (x y : Value) : Bool := match x with
  | .agg ⟨a⟩ => match y with
    | .agg ⟨b⟩ => sameL a b
    | _ => false
  | x => same1 x y

/-- a region's steps: an operation with its guard; a look whether one that reads would read the same now -/
inductive Stp where
  | op (g : Option (Option Tmp × Bool)) (o : Oper)
  | eff (g : Option (Option Tmp × Bool)) (o : Oper)     -- one that makes a change, among others whose order is open
  | chk (g : Option (Option Tmp × Bool)) (o : Oper)

section run
variable (P : Program)

noncomputable def opsA (call : Rec) : List Stp → Env → List Deferred → AH → R
  | [], e, d, h => .norm e d h
  | .op g o :: rest, e, d, h => match wantG g e with
    | true => match opA P o.type (evalE e) h o.op with
      | .val v h' => opsA call rest (putD e o.dst v) d h'
      | .call f args h' => match call f args h' with
        | .ret v h'' => opsA call rest (putD e o.dst v) d h''
        | .pan v h'' => .pan v e d h''
        | .stuck => .stuck
      | .defer x h' => opsA call rest (putD e o.dst undef) (x :: d) h'
      | .panic v h' => .pan v e d h'
      | .stuck => .stuck
    | false => opsA call rest (putD e o.dst undef) d h
  | .eff g o :: rest, e, d, h => match wantG g e with
    | true => match opA P o.type (evalE e) h o.op with
      | .val v h' => opsA call rest (putD e o.dst v) d h'
      | .call f args h' => match call f args h' with
        | .ret v h'' => opsA call rest (putD e o.dst v) d h''
        | .pan v h'' => match d with
          | [] => .pan v e [] h''
          | _ :: _ => .stuck
        | .stuck => .stuck
      | _ => .stuck
    | false => opsA call rest (putD e o.dst undef) d h
  | .chk g o :: rest, e, d, h => match wantG g e with
    | true => match opA P o.type (evalE e) h o.op with
      | .val v _ => match o.dst with
        | some t => match sameV v ((ea t).get e) with
          | true => opsA call rest e d h
          | false => .stuck
        | none => .stuck
      | _ => .stuck
    | false => opsA call rest e d h

/-! What a region that draws its order asks for. -/

/-- 0: it only reckons · 1: it reads · 2: it makes a block · 3: any other · 4: not served -/
noncomputable def clsOf : Op → Nat
  | .move _ | .assign _ | .pick .. | .build .. | .nilCheck _ | .binOp .. | .unOp .. | .makeInterface .. | .makeFunc .. | .slice .. | .fieldAddr .. | .field .. | .indexAddr .. | .index .. | .typeAssert .. | .extract .. => 0
  | .load .. | .lookup .. => 1
  | .alloc _ | .box .. | .buildSlice .. | .makeSlice .. | .makeMap .. => 2
  | .convert s d _ => match ckindOf P s d with
    | .int _ | .other => 0
    | .str => 1
    | .bytes _ => 2
    | _ => 3
  | .call c => match c.callee with
    | .value _ => 3
    | .builtin b => match b with
      | .len => 1
      | .cap | .min | .max => 0
      | .append | .copy | .clear => 3
      | _ => 4
    | _ => 4
  | .store .. | .mapUpdate .. => 3
  | _ => 4

noncomputable def tmpsOf (o : Oper) : List Tmp := o.op.operands.toList.filterMap fun | .tmp t => some t | _ => none

/-- an operation and what is known of it: its number, its class, whom it comes behind (a bit each), the slots that it names, its own -/
structure OI where
  i : Nat
  c : Nat
  anc : Nat
  names : List Tmp
  o : Oper
  g : Option (Option Tmp × Bool)

noncomputable def ancOf (l : List OI) (es : List Edge) : Nat := match es with
  | [] => 0
  | x :: es => match Region.binds .any x with
    | true => (match l.find? (fun q => Nat.beq q.i x.on) with | some q => Nat.lor (Nat.lor (2 ^ x.on) q.anc) (ancOf l es) | none => Nat.lor (2 ^ x.on) (ancOf l es))
    | false => ancOf l es

noncomputable def infos (all : List Oper) : Nat → List Oper → List OI → List OI
  | _, [], acc => acc.reverse
  | i, o :: l, acc => fN (ancOf acc o.after.toList) fun a =>
      let g := guardOf all o
      infos all (i + 1) l ({ i, c := clsOf P o.op, anc := a, names := (match g with | some (some t, _) => t :: tmpsOf o | _ => tmpsOf o), o, g } :: acc)

/-- the order in which it is done here: what makes no change ahead of what does, as early as may be -/
noncomputable def greedy : Nat → Nat → List OI → List OI → List OI
  | 0, _, _, acc => acc.reverse
  | n + 1, done, left, acc =>
    match left.find? (fun q => Nat.blt q.c 3 && Nat.beq (Nat.land q.anc done) q.anc) with
    | some q => fN (Nat.lor done (2 ^ q.i)) fun m => greedy n m (left.filter fun x => !Nat.beq x.i q.i) (q :: acc)
    | none => match left.find? (fun q => Nat.beq (Nat.land q.anc done) q.anc) with
      | some q => fN (Nat.lor done (2 ^ q.i)) fun m => greedy n m (left.filter fun x => !Nat.beq x.i q.i) (q :: acc)
      | none => acc.reverse

/-- is it behind the last one that made a change? -/
noncomputable def lastOk (last : Option Nat) (q : OI) : Bool := match last with
  | none => true
  | some i => Nat.testBit q.anc i

/-- the one that made a change last -/
noncomputable def lastOf (last : Option Nat) (q : OI) : Option Nat := match q.c with
  | 3 => some q.i
  | _ => last

/-- an order that is allowed: whom each comes behind has come; all behind a change come behind it. Which ones have come. -/
noncomputable def checkP : Nat → Option Nat → List OI → Option Nat
  | done, _, [] => some done
  | done, last, q :: l => match Nat.blt q.c 4 && Nat.beq (Nat.land q.anc done) q.anc && lastOk last q && !Nat.testBit done q.i with
    | true => fN (Nat.lor done (2 ^ q.i)) fun done => checkP done (lastOf last q) l
    | false => none

/-- the steps: behind a change, a look at each that read ahead of it and need not have -/
noncomputable def stepsOf : List OI → List OI → List Stp
  | _, [] => []
  | reads, q :: l => match q.c with
    | 1 => .op q.g q.o :: stepsOf (q :: reads) l
    | 3 => .eff q.g q.o :: (((reads.filter fun r => !Nat.testBit q.anc r.i).map fun r => .chk r.g r.o) ++ stepsOf reads l)
    | _ => .op q.g q.o :: stepsOf reads l

/-- a slot that an operation writes: no other writes it; one that names it comes behind (or, if it does not read memory, ahead) -/
noncomputable def slotOk (x y : OI) (d : Tmp) : Bool := match Nat.beq x.i y.i with
  | true => !(Nat.beq y.c 1 && y.names.any fun t => Nat.beq t d)
  | false => (match y.o.dst with | some t => !Nat.beq t d | none => true) &&
      (!(y.names.any fun t => Nat.beq t d) || Nat.testBit y.anc x.i || (Nat.testBit x.anc y.i && !Nat.beq y.c 1))
noncomputable def slotsOk (l : List OI) : Bool := l.all fun x => match x.o.dst with
  | none => true
  | some d => l.all fun y => slotOk x y d

noncomputable def planOf (ops : List Oper) (draw : Bool) : Option (List Stp) := match draw with
  | false => some (ops.map fun o => .op (guardOf ops o) o)
  | true => let l := infos P ops 0 ops []
    match slotsOk l with
    | true => let s := greedy ops.length 0 l []
      match checkP 0 none s with
      | some dn => match Nat.beq dn (2 ^ ops.length - 1) with
        | true => some (stepsOf [] s)
        | false => none
      | none => none
    | false => none

noncomputable def iterA (body : Env → List Deferred → AH → R) : Nat → Env → List Deferred → AH → R
  | 0, _, _, _ => .stuck
  | n + 1, e, d, h => match body e d h with
    | .norm e' d' h' => iterA body n e' d' h'
    | r => r

noncomputable def codeA (call : Rec) : Code → Env → List Deferred → AH → R
  | .skip, e, d, h => .norm e d h
  | .label _, e, d, h => .norm e d h
  | .region _ ops draw, e, d, h => match planOf P ops.toList draw with
    | some s => opsA P call s e d h
    | none => .stuck
  | .seq a b, e, d, h => match codeA call a e d h with
    | .norm e' d' h' => codeA call b e' d' h'
    | r => r
  | .cond c x y, e, d, h => match evalE e c with
    | .bool true => codeA call x e d h
    | .bool false => codeA call y e d h
    | _ => .stuck
  | .block id c, e, d, h => match codeA call c e d h with
    | .exit i e' d' h' => match Nat.beq i id with
      | true => .norm e' d' h'
      | false => .exit i e' d' h'
    | r => r
  | .loop c, e, d, h => iterA (codeA call c) 100000 e d h
  | .scope c, e, d, h => codeA call c e d h
  | .exit id, e, d, h => .exit id e d h
  | .ret, e, d, h => .ret e d h
  | _, _, _, _ => .stuck

/-- what a deferred call comes to: as code does, and the panic of its caller that is under way (recovered or not) -/
inductive RD where
  | mk (r : R) (p : Option (Value × Bool))

noncomputable def opsD (all : List Oper) : List Oper → Env → List Deferred → AH → Option (Value × Bool) → RD
  | [], e, d, h, p => .mk (.norm e d h) p
  | o :: rest, e, d, h, p => match wantG (guardOf all o) e with
    | true => match o.op with
      | .call { callee := .builtin .recover, .. } => match p with
        | some (v, false) => opsD all rest (putD e o.dst v) d h (some (v, true))
        | p => opsD all rest (putD e o.dst .nilIface) d h p
      | op => match opA P o.type (evalE e) h op with
        | .val v h' => opsD all rest (putD e o.dst v) d h' p
        | _ => .mk .stuck p
    | false => opsD all rest (putD e o.dst undef) d h p

noncomputable def hasRecover (ops : List Oper) : Bool := ops.any fun o => match o.op with
  | .call { callee := .builtin .recover, .. } => true
  | _ => false

noncomputable def codeD (call : Rec) : Code → Env → List Deferred → AH → Option (Value × Bool) → RD
  | .seq a b, e, d, h, p => match codeD call a e d h p with
    | .mk (.norm e' d' h') p' => codeD call b e' d' h' p'
    | r => r
  | .cond c x y, e, d, h, p => match evalE e c with
    | .bool true => codeD call x e d h p
    | .bool false => codeD call y e d h p
    | _ => .mk .stuck p
  | .region id ops draw, e, d, h, p => match hasRecover ops.toList with
    | true => match draw with
      | false => opsD P ops.toList ops.toList e d h p
      | true => .mk .stuck p
    | false => .mk (codeA P call (.region id ops draw) e d h) p
  | c, e, d, h, p => .mk (codeA P call c e d h) p

noncomputable def envFrom : Nat → List Value → Env → Env
  | _, [], e => e
  | i, v :: l, e => envFrom (i + 1) l ((ea i).put e v)

noncomputable def resOf (e : Env) (h : AH) : List ResultVar → Option (List Value)
  | [] => some []
  | .tmp t :: l => match resOf e h l with
    | some r => some ((ea t).get e :: r)
    | none => none
  | .cell a t :: l => match aggB P t, szOf P t with
    | some b, some n => match loadS b n h ((ea a).get e), resOf e h l with
      | some v, some r => some (v :: r)
      | _, _ => none
    | _, _ => none

noncomputable def resA (rs : List ResultVar) (e : Env) (h : AH) : Option Value := match resOf P e h rs with
  | some [v] => some v
  | some l => some (.tuple ⟨l⟩)
  | none => none

/-- an operand of a function of n slots; g: how many variables the program has -/
noncomputable def opdOk (n g : Nat) : Operand → Bool
  | .tmp t => Nat.blt t n
  | .const v => constV v
  | .global x => Nat.blt x g
  | .func _ => true
/-- a function's code, if it is served: its slots are few enough, and those that it names are its own -/
noncomputable def opOk (n g : Nat) (o : Oper) : Bool :=
  o.op.operands.toList.all (opdOk n g) && (match o.dst with | some t => Nat.blt t n | none => true)
noncomputable def codeOk (n g : Nat) : Code → Bool
  | .region _ ops _ => ops.toList.all (opOk n g)
  | .seq a b => codeOk n g a && codeOk n g b
  | .cond c a b => opdOk n g c && codeOk n g a && codeOk n g b
  | .block _ c => codeOk n g c
  | .loop c => codeOk n g c
  | .scope c => codeOk n g c
  | _ => true
noncomputable def resOk (n : Nat) (l : List ResultVar) : Bool := l.all fun
  | .tmp t => Nat.blt t n
  | .cell t _ => Nat.blt t n

structure FB where
  n : Nat
  code : Code
  res : List ResultVar

noncomputable def bodyOf (f : FuncId) : Option FB := match P.funcs.toList[f]? with
  | some fn => match fn.body with
    | some c => match Nat.ble fn.ntmps 240 && codeOk fn.ntmps P.globals.size c && resOk fn.ntmps fn.results.toList && fn.name != "runtime.NumGoroutine" with
      | true => some ⟨fn.ntmps, c, fn.results.toList⟩
      | false => none
    | none => none
  | none => none

/-- the deferred calls; p: a panic that is under way -/
noncomputable def leaveA (call : Rec) (rs : List ResultVar) (e : Env) : List Deferred → Option Value → AH → C
  | [], none, h => match resA P rs e h with
    | some v => .ret v h
    | none => .stuck
  | [], some v, h => .pan v h
  | x :: ds, p, h => match x.target with
    | .fn (.func f) ⟨captured⟩ => match bodyOf P f with
      | some b => match Nat.ble ((x.args.toList ++ captured).length) b.n with
        | true => match codeD P call b.code (envFrom 0 (x.args.toList ++ captured) env0) [] h (match p with | some v => some (v, false) | none => none) with
          | .mk r p' => match r with
            | .norm e' [] h' => match resA P b.res e' h' with
              | some _ => leaveA call rs e ds (match p' with | some (v, false) => some v | _ => none) h'
              | none => .stuck
            | .ret e' [] h' => match resA P b.res e' h' with
              | some _ => leaveA call rs e ds (match p' with | some (v, false) => some v | _ => none) h'
              | none => .stuck
            | _ => .stuck
        | false => .stuck
      | none => .stuck
    | _ => .stuck

inductive XF where
  | indexByte
  | count
  | bits
  | unbits
  | no

noncomputable def externOf (f : FuncId) : XF := match P.funcs.toList[f]? with
  | some fn => match fn.body with
    | none => if fn.origin != "" then .no
      else if fn.name == "internal/bytealg.IndexByteString" then .indexByte
      else if fn.name == "internal/bytealg.CountString" then .count
      else if fn.name == "math.Float64bits" then .bits
      else if fn.name == "math.Float64frombits" then .unbits
      else .no
    | some _ => .no
  | none => .no

noncomputable def ofQ (h : AH) (v : Option Value) : C := match v with
  | some v => .ret v h
  | none => .stuck

noncomputable def findB (c : Nat) : List UInt8 → Nat → Option Nat
  | [], _ => none
  | b :: l, i => match Nat.beq b.toNat c with
    | true => some i
    | false => fN i fun i => findB c l (Nat.succ i)

noncomputable def countB (c : Nat) : List UInt8 → Nat → Nat
  | [], i => i
  | b :: l, i => match Nat.beq b.toNat c with
    | true => countB c l (i + 1)
    | false => countB c l i

noncomputable def externA (x : XF) (args : List Value) (h : AH) : C := match x, args with
  | .indexByte, [.string ⟨⟨b⟩⟩, .int .u8 (.ofNat c)] => match Nat.blt c 256 with
    | true => match findB c b 0 with
      | some i => .ret (.int .i64 (.ofNat i)) h
      | none => .ret (.int .i64 (.negSucc 0)) h
    | false => .stuck
  | .count, [.string ⟨⟨b⟩⟩, .int .u8 (.ofNat c)] => match Nat.blt c 256 with
    | true => .ret (.int .i64 (.ofNat (countB c b 0))) h
    | false => .stuck
  | .bits, [.float .f64 n] => .ret (.int .u64 n) h
  | .unbits, [.int .u64 (.ofNat n)] => .ret (.float .f64 n) h
  | _, _ => .stuck

noncomputable def callB (rec : Rec) (f : FuncId) (args : List Value) (h : AH) : C := match bodyOf P f with
  | some b => match Nat.ble args.length b.n with
    | true => match codeA P rec b.code (envFrom 0 args env0) [] h with
      | .norm e d h' => leaveA P rec b.res e d none h'
      | .ret e d h' => leaveA P rec b.res e d none h'
      | .pan v e d h' => leaveA P rec b.res e d (some v) h'
      | _ => .stuck
    | false => .stuck
  | none => externA (externOf P f) args h

noncomputable def callF : Nat → Rec
  | 0 => fun _ _ _ => .stuck
  | n + 1 => fun f args h => callB P (callF n) f args h
end run
end Go.Ab
/- The evaluator, in stages: what hangs on the program's text alone is worked out once; what is left is one closed function an operation. Where it is not stuck, it comes to what the evaluator comes to. -/
namespace Go.Ab
open Go

structure T where
  run : Rec → Env → List Deferred → AH → R
structure OV where
  get : Env → Value
structure DA where
  put : Env → Value → Env
structure OLs where
  get : Env → List Value

/-! ## What a value is -/

noncomputable def bR (b : Bool) (x y : R) : R := Bool.rec (motive := fun _ => R) y x b
/-- a number, worked out -/
noncomputable def fR (n : Nat) (k : Nat → R) : R := Nat.rec (motive := fun _ => R) (k 0) (fun m _ => k (Nat.succ m)) n

/-- a number that is not below nought, or else -/
noncomputable def onInt (v : Value) : (IntKind → Nat → R) → R → R :=
  Value.rec (motive_1 := fun _ => (IntKind → Nat → R) → R → R) (motive_2 := fun _ => Unit) (motive_3 := fun _ => Unit)
    (fun _ _ s => s) (fun k i => Int.rec (motive := fun _ => (IntKind → Nat → R) → R → R) (fun n f _ => f k n) (fun _ _ s => s) i) (fun _ _ _ s => s) (fun _ _ _ _ s => s) (fun _ _ s => s) (fun _ _ s => s)
    (fun _ _ _ _ s => s) (fun _ _ s => s) (fun _ _ s => s) (fun _ _ _ _ _ _ s => s) (fun _ s => s) (fun _ _ _ _ s => s) (fun _ s => s) (fun _ _ _ s => s) (fun _ _ _ s => s) (fun _ _ => ()) () (fun _ _ _ _ => ()) v
noncomputable def onNat (v : Value) : (Nat → R) → R :=
  Value.rec (motive_1 := fun _ => (Nat → R) → R) (motive_2 := fun _ => Unit) (motive_3 := fun _ => Unit)
    (fun _ _ => R.stuck) (fun _ i => Int.rec (motive := fun _ => (Nat → R) → R) (fun n f => f n) (fun _ _ => R.stuck) i) (fun _ _ _ => R.stuck) (fun _ _ _ _ => R.stuck) (fun _ _ => R.stuck) (fun _ _ => R.stuck)
    (fun _ _ _ _ => R.stuck) (fun _ _ => R.stuck) (fun _ _ => R.stuck) (fun _ _ _ _ _ _ => R.stuck) (fun _ => R.stuck) (fun _ _ _ _ => R.stuck) (fun _ => R.stuck) (fun _ _ _ => R.stuck) (fun _ _ _ => R.stuck) (fun _ _ => ()) () (fun _ _ _ _ => ()) v
noncomputable def onBool (v : Value) : R → R → R → R :=
  Value.rec (motive_1 := fun _ => R → R → R → R) (motive_2 := fun _ => Unit) (motive_3 := fun _ => Unit)
    (fun b => Bool.rec (motive := fun _ => R → R → R → R) (fun _ y _ => y) (fun x _ _ => x) b) (fun _ _ _ _ s => s) (fun _ _ _ _ s => s) (fun _ _ _ _ _ s => s) (fun _ _ _ s => s) (fun _ _ _ s => s)
    (fun _ _ _ _ _ s => s) (fun _ _ _ s => s) (fun _ _ _ s => s) (fun _ _ _ _ _ _ _ s => s) (fun _ _ s => s) (fun _ _ _ _ _ s => s) (fun _ _ s => s) (fun _ _ _ _ s => s) (fun _ _ _ _ s => s) (fun _ _ => ()) () (fun _ _ _ _ => ()) v
noncomputable def onAddr (a : Addr) (k : Nat → Nat → R) : R :=
  Addr.rec (motive := fun _ => (Nat → Nat → R) → R) (fun b o f => Option.rec (motive := fun _ => (Nat → Nat → R) → R) (fun k => k b o) (fun _ _ => R.stuck) f) a k
/-- an address, or else -/
noncomputable def onPtr (v : Value) : (Nat → Nat → R) → R → R :=
  Value.rec (motive_1 := fun _ => (Nat → Nat → R) → R → R) (motive_2 := fun _ => Unit) (motive_3 := fun _ => Unit)
    (fun _ _ s => s) (fun _ _ _ s => s) (fun _ _ _ s => s) (fun _ _ _ _ s => s) (fun _ _ s => s) (fun a => Option.rec (motive := fun _ => (Nat → Nat → R) → R → R) (fun _ s => s) (fun a k _ => onAddr a k) a)
    (fun _ _ _ _ s => s) (fun _ _ s => s) (fun _ _ s => s) (fun _ _ _ _ _ _ s => s) (fun _ s => s) (fun _ _ _ _ s => s) (fun _ s => s) (fun _ _ _ s => s) (fun _ _ _ s => s) (fun _ _ => ()) () (fun _ _ _ _ => ()) v
/-- a slice: its address, or none, and its length -/
noncomputable def onSl (v : Value) : (Option Addr → Nat → R) → R :=
  Value.rec (motive_1 := fun _ => (Option Addr → Nat → R) → R) (motive_2 := fun _ => Unit) (motive_3 := fun _ => Unit)
    (fun _ _ => R.stuck) (fun _ _ _ => R.stuck) (fun _ _ _ => R.stuck) (fun _ _ _ _ => R.stuck) (fun _ _ => R.stuck) (fun _ _ => R.stuck)
    (fun a n _ k => k a n) (fun _ _ => R.stuck) (fun _ _ => R.stuck) (fun _ _ _ _ _ _ => R.stuck) (fun _ => R.stuck) (fun _ _ _ _ => R.stuck) (fun _ => R.stuck) (fun _ _ _ => R.stuck) (fun _ _ _ => R.stuck) (fun _ _ => ()) () (fun _ _ _ _ => ()) v
noncomputable def onOA (a : Option Addr) (k : Nat → Nat → R) : R := Option.rec (motive := fun _ => (Nat → Nat → R) → R) (fun _ => R.stuck) (fun a k => onAddr a k) a k
/-- is a value of one cell, or else -/
noncomputable def onFlat (v : Value) : R → R → R :=
  Value.rec (motive_1 := fun _ => R → R → R) (motive_2 := fun _ => Unit) (motive_3 := fun _ => Unit)
    (fun _ x _ => x) (fun _ _ x _ => x) (fun _ _ x _ => x) (fun _ _ _ x _ => x) (fun _ x _ => x) (fun _ x _ => x)
    (fun _ _ _ x _ => x) (fun _ x _ => x) (fun _ x _ => x) (fun _ _ _ _ _ x _ => x) (fun x _ => x) (fun _ _ _ x _ => x) (fun x _ => x) (fun _ _ _ s => s) (fun _ _ _ s => s) (fun _ _ => ()) () (fun _ _ _ _ => ()) v

/-! ## Cells -/

noncomputable def nthK (cs : List Value) : Nat → (Value → R) → R :=
  List.rec (motive := fun _ => Nat → (Value → R) → R) (fun _ _ => R.stuck) (fun v _ ih i k => Nat.rec (motive := fun _ => R) (k v) (fun m _ => ih m k) i) cs
noncomputable def vK (t : V3) (n i : Nat) (k : Value → R) : R := bR (Nat.blt i n) (fR i fun i => k ((va i).get t)) R.stuck
/-- a block's cell -/
noncomputable def cellK (b : Blk) : Nat → (Value → R) → R :=
  Blk.rec (motive := fun _ => Nat → (Value → R) → R) nthK vK vK (fun _ _ _ => R.stuck) b
noncomputable def hget (h : AH) (b : Nat) : Option Blk := Bool.rec (motive := fun _ => Option Blk) none ((ha b).get h.t) (Nat.blt b 65536)
noncomputable def onBlk (x : Option Blk) (k : Blk → R) : R := Option.rec (motive := fun _ => (Blk → R) → R) (fun _ => R.stuck) (fun b k => k b) x k
noncomputable def hputK (h : AH) (b : Nat) (x : Blk) : AH := ⟨(ha b).put h.t (some x), h.next⟩
/-- a new block -/
noncomputable def hnewK (h : AH) (x : Blk) (k : Nat → AH → R) : R := fR h.next fun n => bR (Nat.ble 65000 n) R.stuck (k n ⟨(ha n).put h.t (some x), Nat.succ n⟩)

section stage
variable (P : Program)

noncomputable def ovOf : Operand → OV
  | .tmp t => EA.rec (motive := fun _ => OV) (fun g _ => ⟨g⟩) (ea t)
  | .const v => ⟨fun _ => v⟩
  | .global g => ⟨fun _ => .pointer (some ⟨g, 0, none⟩)⟩
  | .func f => ⟨fun _ => .func (.func f) ⟨[]⟩ ⟨[]⟩⟩

noncomputable def daOf : Option Tmp → DA
  | some t => EA.rec (motive := fun _ => DA) (fun _ p => ⟨p⟩) (ea t)
  | none => ⟨fun e _ => e⟩

noncomputable def olOf : List Operand → OLs
  | [] => ⟨fun _ => []⟩
  | x :: l => OV.rec (motive := fun _ => OLs) (fun g => OLs.rec (motive := fun _ => OLs) (fun gl => ⟨fun e => g e :: gl e⟩) (olOf l)) (ovOf x)

/-! ## What goes on behind an operation -/

noncomputable def kO (v : Option Value) (k : Value → R) : R := Option.rec (motive := fun _ => (Value → R) → R) (fun _ => R.stuck) (fun v k => k v) v k
noncomputable def kH (v : Option AH) (k : AH → R) : R := Option.rec (motive := fun _ => (AH → R) → R) (fun _ => R.stuck) (fun v k => k v) v k
noncomputable def kC (r : C) (k q : Value → AH → R) : R := C.rec (motive := fun _ => R) k q R.stuck r
noncomputable def kV (a : AN) (k : Value → AH → R) : R :=
  AN.rec (motive := fun _ => (Value → AH → R) → R) (fun v h k => k v h) (fun _ _ _ _ => R.stuck) (fun _ _ _ => R.stuck) (fun _ _ _ => R.stuck) (fun _ => R.stuck) a k
/-- any outcome -/
noncomputable def kA (a : AN) (k : Value → AH → R) (call : FuncId → List Value → AH → R) (df : Deferred → AH → R) (pn : Value → AH → R) : R :=
  AN.rec (motive := fun _ => R) k call df pn R.stuck a
/-- a panic among operations whose order is open -/
noncomputable def panE (v : Value) (e : Env) (d : List Deferred) (h : AH) : R := match d with
  | [] => R.pan v e [] h
  | _ :: _ => .stuck

noncomputable def tEnd : T := ⟨fun _ e d h => R.norm e d h⟩
noncomputable def tStuck : T := ⟨fun _ _ _ _ => R.stuck⟩

abbrev F := Rec → Env → List Deferred → AH → R
/- an operation of none, one, two, three operands: what is done, of what goes on behind it -/
noncomputable def o0 (f : (Env → Value → Env) → F → F) (y : DA) (rest : T) : T :=
  DA.rec (motive := fun _ => T) (fun p => T.rec (motive := fun _ => T) (fun r => ⟨f p r⟩) rest) y
noncomputable def o1 (f : (Env → Value) → (Env → Value → Env) → F → F) (x : OV) (y : DA) (rest : T) : T :=
  OV.rec (motive := fun _ => T) (fun g => o0 (f g) y rest) x
noncomputable def o2 (f : (Env → Value) → (Env → Value) → (Env → Value → Env) → F → F) (x z : OV) (y : DA) (rest : T) : T :=
  OV.rec (motive := fun _ => T) (fun g => o1 (f g) z y rest) x
noncomputable def o3 (f : (Env → Value) → (Env → Value) → (Env → Value) → (Env → Value → Env) → F → F) (x z u : OV) (y : DA) (rest : T) : T :=
  OV.rec (motive := fun _ => T) (fun g => o2 (f g) z u y rest) x
noncomputable def oL (f : (Env → List Value) → (Env → Value → Env) → F → F) (l : OLs) (y : DA) (rest : T) : T :=
  OLs.rec (motive := fun _ => T) (fun g => o0 (f g) y rest) l

/-- an operation that has no way of its own here -/
noncomputable def tGen (ty : TypeId) (op : Op) : DA → T → T := o0 fun p r c e d h => kA (opA P ty (evalE e) h op) (fun v h => r c (p e v) d h)
    (fun f args h => kC (c f args h) (fun v h => r c (p e v) d h) (fun v h => R.pan v e d h)) (fun x h => r c (p e undef) (x :: d) h) (fun v h => R.pan v e d h)
noncomputable def tEff (ty : TypeId) (op : Op) : DA → T → T := o0 fun p r c e d h => kA (opA P ty (evalE e) h op) (fun v h => r c (p e v) d h)
    (fun f args h => kC (c f args h) (fun v h => r c (p e v) d h) (fun v h => panE v e d h)) (fun _ _ => R.stuck) (fun _ _ => R.stuck)
noncomputable def tCallF (f : FuncId) : OLs → DA → T → T := oL fun g p r c e d h => kC (c f (g e) h) (fun v h => r c (p e v) d h) (fun v h => R.pan v e d h)
noncomputable def tCallE (f : FuncId) : OLs → DA → T → T := oL fun g p r c e d h => kC (c f (g e) h) (fun v h => r c (p e v) d h) (fun v h => panE v e d h)

noncomputable def tMove : OV → DA → T → T := o1 fun g p r c e d h => r c (p e (g e)) d h

/-- a binary operator -/
noncomputable def tBin (op : BinOp) (t : TypeId) (b : Bool) : OV → OV → DA → T → T := o2 fun g g' p r c e d h => kO (binA P op t b (g e) (g' e)) fun v => r c (p e v) d h
/-- of two numbers of one kind: what is made of them, or the way of all -/
noncomputable def two (x y : Value) (f : IntKind → Nat → Nat → R → R) (s : R) : R :=
  onInt x (fun k a => onInt y (fun k' b => bR (kB k k') (f k a b s) s) s) s
noncomputable def fAdd (k : Value → R) (q : IntKind) (a b : Nat) (s : R) : R := bR (Nat.blt (Nat.add a b) (lim q)) (fR (Nat.add a b) fun n => k (.int q (.ofNat n))) s
noncomputable def fSub (k : Value → R) (q : IntKind) (a b : Nat) (s : R) : R := bR (Nat.ble b a) (bR (Nat.blt a (lim q)) (fR (Nat.sub a b) fun n => k (.int q (.ofNat n))) s) s
noncomputable def fB (k : Value → R) (b : Bool) : R := bR b (k (.bool true)) (k (.bool false))
noncomputable def fLss (k : Value → R) (_ : IntKind) (a b : Nat) (_ : R) : R := fB k (Nat.blt a b)
noncomputable def fLeq (k : Value → R) (_ : IntKind) (a b : Nat) (_ : R) : R := fB k (Nat.ble a b)
noncomputable def fGtr (k : Value → R) (_ : IntKind) (a b : Nat) (_ : R) : R := fB k (Nat.blt b a)
noncomputable def fGeq (k : Value → R) (_ : IntKind) (a b : Nat) (_ : R) : R := fB k (Nat.ble b a)
noncomputable def fEql (k : Value → R) (_ : IntKind) (a b : Nat) (_ : R) : R := fB k (Nat.beq a b)
noncomputable def fNeq (k : Value → R) (_ : IntKind) (a b : Nat) (_ : R) : R := bR (Nat.beq a b) (k (.bool false)) (k (.bool true))
noncomputable def fAnd (k : Value → R) (q : IntKind) (a b : Nat) (s : R) : R := bR (Nat.blt a (lim q)) (bR (Nat.blt b (lim q)) (fR (Nat.land a b) fun n => k (.int q (.ofNat n))) s) s
noncomputable def fQuo (k : Value → R) (q : IntKind) (a b : Nat) (s : R) : R := bR (Nat.blt a (lim q)) (bR (Nat.blt 0 b) (fR (Nat.div a b) fun n => k (.int q (.ofNat n))) s) s
noncomputable def fRem (k : Value → R) (q : IntKind) (a b : Nat) (s : R) : R := bR (Nat.blt 0 b) (fR (Nat.mod a b) fun n => k (.int q (.ofNat n))) s
noncomputable def tTwo (f : (Value → R) → IntKind → Nat → Nat → R → R) (op : BinOp) (t : TypeId) (b : Bool) (x z : OV) (y : DA) (rest : T) : T :=
  T.rec (motive := fun _ => T) (fun s => o2 (fun g g' p r c e d h => two (g e) (g' e) (f fun v => r c (p e v) d h) (s c e d h)) x z y rest) (tBin P op t b x z y rest)
/-- a shift: the kinds may part -/
noncomputable def fShr (k : Value → R) (q : IntKind) (a b : Nat) (s : R) : R := bR (Nat.blt b (k0 q)) (fR (Nat.div a (Nat.pow 2 b)) fun n => k (.int q (.ofNat n))) s
  where k0 (q : IntKind) : Nat := IntKind.rec (motive := fun _ => Nat) 9 17 33 65 9 17 33 65 q
noncomputable def tShr (t : TypeId) (b : Bool) (x z : OV) (y : DA) (rest : T) : T :=
  T.rec (motive := fun _ => T) (fun s => o2 (fun g g' p r c e d h => onInt (g e) (fun q a => onInt (g' e) (fun _ b => fShr (fun v => r c (p e v) d h) q a b (s c e d h)) (s c e d h)) (s c e d h)) x z y rest) (tBin P .shr t b x z y rest)
noncomputable def tBinOp (op : BinOp) (t : TypeId) (b : Bool) (x z : OV) (y : DA) (rest : T) : T := match op with
  | .add => tTwo P fAdd .add t b x z y rest
  | .sub => tTwo P fSub .sub t b x z y rest
  | .lss => tTwo P fLss .lss t b x z y rest
  | .leq => tTwo P fLeq .leq t b x z y rest
  | .gtr => tTwo P fGtr .gtr t b x z y rest
  | .geq => tTwo P fGeq .geq t b x z y rest
  | .eql => tTwo P fEql .eql t b x z y rest
  | .neq => tTwo P fNeq .neq t b x z y rest
  | .and => tTwo P fAnd .and t b x z y rest
  | .quo => tTwo P fQuo .quo t b x z y rest
  | .rem => tTwo P fRem .rem t b x z y rest
  | .shr => tShr P t b x z y rest
  | op => tBin P op t b x z y rest

/- values of values -/
noncomputable def t0 (f : AH → AN) : DA → T → T := o0 fun p r c e d h => kV (f h) fun v h => r c (p e v) d h
noncomputable def t1 (f : AH → Value → Option Value) : OV → DA → T → T := o1 fun g p r c e d h => kO (f h (g e)) fun v => r c (p e v) d h
noncomputable def t2 (f : AH → Value → Value → Option Value) : OV → OV → DA → T → T := o2 fun g g' p r c e d h => kO (f h (g e) (g' e)) fun v => r c (p e v) d h
noncomputable def t3 (f : Value → Value → Value → Option Value) : OV → OV → OV → DA → T → T := o3 fun g g' g'' p r c e d h => kO (f (g e) (g' e) (g'' e)) fun v => r c (p e v) d h
/- that make a block, or look at the heap and answer a value -/
noncomputable def n1 (f : AH → Value → AN) : OV → DA → T → T := o1 fun g p r c e d h => kV (f h (g e)) fun v h => r c (p e v) d h
noncomputable def n2 (f : AH → Value → Value → AN) : OV → OV → DA → T → T := o2 fun g g' p r c e d h => kV (f h (g e) (g' e)) fun v h => r c (p e v) d h
/- that write -/
noncomputable def w2 (f : AH → Value → Value → Option AH) : OV → OV → DA → T → T := o2 fun g g' p r c e d h => kH (f h (g e) (g' e)) fun h => r c (p e undef) d h
noncomputable def w3 (f : AH → Value → Value → Value → Option AH) : OV → OV → OV → DA → T → T := o3 fun g g' g'' p r c e d h => kH (f h (g e) (g' e) (g'' e)) fun h => r c (p e undef) d h
/- of a list of values -/
noncomputable def nL (f : AH → List Value → AN) : OLs → DA → T → T := oL fun g p r c e d h => kV (f h (g e)) fun v h => r c (p e v) d h

/- the commonest ones, in short -/
noncomputable def tLoad1 : OV → DA → T → T := o1 fun g p r c e d h => onPtr (g e) (fun b o => onBlk (hget h b) fun x => cellK x o fun v => r c (p e v) d h) R.stuck
noncomputable def tStore1 (s : OV → OV → DA → T → T) (x z : OV) (y : DA) (rest : T) : T :=
  T.rec (motive := fun _ => T) (fun s => o2 (fun g g' p r c e d h => onFlat (g' e) (onPtr (g e) (fun b o => onBlk (hget h b) fun x => onBlk (bput x o [g' e]) fun x' => r c (p e undef) d (hputK h b x')) R.stuck) (s c e d h)) x z y rest) (s x z y rest)
noncomputable def tFieldAddr (off : Nat) : OV → DA → T → T := o1 fun g p r c e d h => onPtr (g e) (fun b o => r c (p e (.pointer (some ⟨b, Nat.add o off, none⟩))) d h) R.stuck
noncomputable def tIndexSl (sz : Nat) : OV → OV → DA → T → T := o2 fun g g' p r c e d h =>
  onSl (g e) fun a len => onNat (g' e) fun n => bR (Nat.blt n len) (onOA a fun b o => r c (p e (.pointer (some ⟨b, Nat.add o (Nat.mul n sz), none⟩))) d h) R.stuck
noncomputable def tLenSl : OV → DA → T → T := o1 fun g p r c e d h => onSl (g e) fun _ n => r c (p e (.int .i64 (.ofNat n))) d h
noncomputable def tNil (s : OV → DA → T → T) (x : OV) (y : DA) (rest : T) : T :=
  T.rec (motive := fun _ => T) (fun s => o1 (fun g p r c e d h => onPtr (g e) (fun b o => r c (p e (.pointer (some ⟨b, o, none⟩))) d h) (s c e d h)) x y rest) (s x y rest)
noncomputable def tPick : OV → OV → OV → DA → T → T := o3 fun g g' g'' p r c e d h => onBool (g e) (r c (p e (g' e)) d h) (r c (p e (g'' e)) d h) R.stuck
noncomputable def tAlloc (z : Blk) : DA → T → T := o0 fun p r c e d h => hnewK h z fun b h => r c (p e (.pointer (some ⟨b, 0, none⟩))) d h
noncomputable def tBox (s : OV → DA → T → T) (x : OV) (y : DA) (rest : T) : T :=
  T.rec (motive := fun _ => T) (fun s => o1 (fun g p r c e d h => onFlat (g e) (hnewK h (.cells [g e]) fun b h => r c (p e (.pointer (some ⟨b, 0, none⟩))) d h) (s c e d h)) x y rest) (s x y rest)

/-- the value of what is known ahead, or nothing -/
noncomputable def tO {α : Type} (x : Option α) (f : α → T) : T := match x with
  | some a => f a
  | none => tStuck

/-- a value's parts with their places, of a list of values -/
noncomputable def zipL : List ((Nat × Nat) × Operand) → List Value → List ((Nat × Nat) × Value)
  | (p, _) :: l, v :: vs => (p, v) :: zipL l vs
  | _, _ => []

/-- an operation that only makes a value, if it is one of those -/
noncomputable def tOpV (da : DA) (rest : T) : Op → Option T
  | .move x => some (tMove (ovOf x) da rest)
  | .assign x => some (tMove (ovOf x) da rest)
  | .pick c a b => some (tPick (ovOf c) (ovOf a) (ovOf b) da rest)
  | .alloc e => some (tO (zeroL P e) fun z => tO (bnew z) fun b => tAlloc b da rest)
  | .box _ x => some (tBox (n1 boxA) (ovOf x) da rest)
  | .build t parts => some (tO (zeroL P t) fun z => tO (placesB P t parts.toList) fun pl =>
      nL (fun h vs => ofO h (match fillA z (zipL pl vs) with | some l => some (.agg ⟨l⟩) | none => none)) (olOf (pl.map (·.2))) da rest)
  | .load t a => some (tO (aggB P t) fun b => tO (szOf P t) fun n => match b with
    | false => tLoad1 (ovOf a) da rest
    | true => t1 (loadS true n) (ovOf a) da rest)
  | .store t a x => some (tO (szOf P t) fun n => match n with
    | 1 => tStore1 (w2 (storeS 1)) (ovOf a) (ovOf x) da rest
    | n => w2 (storeS n) (ovOf a) (ovOf x) da rest)
  | .nilCheck x => some (tNil (t1 (fun _ => nilCheckA)) (ovOf x) da rest)
  | .binOp op t x z _ => some (tBinOp P op t (constOp x || constOp z) (ovOf x) (ovOf z) da rest)
  | .unOp op _ x => some (t1 (fun _ => unA P op) (ovOf x) da rest)
  | .convert s t x => some (n1 (convA P (ckindOf P s t) s t) (ovOf x) da rest)
  | .makeMap _ none => some (t0 (fun h => h.new (.map []) AN.stuck fun b h' => .val (.map (some b)) h') da rest)
  | .fieldAddr s x f => some (match fkOf P s f with
    | some (off, _ + 1, _) => fN off fun off => tFieldAddr off (ovOf x) da rest
    | _ => tStuck)
  | .field t x f => some (t1 (fun _ => fieldA (fkOf P t f)) (ovOf x) da rest)
  | .indexAddr t x i => some (match xkOf P t with
    | .sl sz => tIndexSl sz (ovOf x) (ovOf i) da rest
    | k => t2 (fun _ => indexAddrA k) (ovOf x) (ovOf i) da rest)
  | .index t x i => some (t2 (fun _ => indexA (ikOf P t)) (ovOf x) (ovOf i) da rest)
  | .lookup t x i ok => some (t2 (fun h x i => lookupA (mkOf P t) h x i ok) (ovOf x) (ovOf i) da rest)
  | .mapUpdate t m k v => some (w3 (mapUpdateA (mkOf P t)) (ovOf m) (ovOf k) (ovOf v) da rest)
  | .extract t i => some (t1 (fun _ x => extractA x i) (ovOf t) da rest)
  | .makeSlice t l c => some (tO (elemT P t) fun e => tO (zeroE P e) fun z => n2 (fun h l c => makeSliceA (some z) l c h) (ovOf l) (ovOf c) da rest)
  | .slice t x none none none => some (t1 (fun _ x => sliceA (skOf P t) x none none none) (ovOf x) da rest)
  | .slice t x (some lo) none none => some (t2 (fun _ x lo => sliceA (skOf P t) x (some lo) none none) (ovOf x) (ovOf lo) da rest)
  | .slice t x none (some hi) none => some (t2 (fun _ x hi => sliceA (skOf P t) x none (some hi) none) (ovOf x) (ovOf hi) da rest)
  | .slice t x (some lo) (some hi) none => some (t3 (fun x lo hi => sliceA (skOf P t) x (some lo) (some hi) none) (ovOf x) (ovOf lo) (ovOf hi) da rest)
  | .call c => match c.callee with
    | .builtin b => match b, c.args.toList with
      | .len, [x] => some (tO (lnB P c.argTypes.toList) fun k => match k with
        | 1 => tLenSl (ovOf x) da rest
        | k => n1 (lenA k) (ovOf x) da rest)
      | .append, [s, x] => some (n2 (appendA (akOf P c.argTypes.toList)) (ovOf s) (ovOf x) da rest)
      | .copy, [s, x] => some (n2 (copyA (ckOf P c.argTypes.toList)) (ovOf s) (ovOf x) da rest)
      | _, _ => none
    | _ => none
  | _ => none

noncomputable def tOp (ty : TypeId) (da : DA) (rest : T) (op : Op) : T := match tOpV P da rest op with
  | some t => t
  | none => match op with
    | .call c => match c.callee with
      | .value (.func f) => tCallF f (olOf c.args.toList) da rest
      | _ => tGen P ty (.call c) da rest
    | op => tGen P ty op da rest
noncomputable def tOpE (ty : TypeId) (da : DA) (rest : T) (op : Op) : T := match tOpV P da rest op with
  | some t => t
  | none => match op with
    | .call c => match c.callee with
      | .value (.func f) => tCallE f (olOf c.args.toList) da rest
      | _ => tEff P ty (.call c) da rest
    | op => tEff P ty op da rest

noncomputable def tGuard (w : Bool) (a : T) (x : OV) (y : DA) (rest : T) : T :=
  T.rec (motive := fun _ => T) (fun a => o1 (Bool.rec (motive := fun _ => (Env → Value) → (Env → Value → Env) → F → F)
      (fun g p r c e d h => onBool (g e) (r c (p e undef) d h) (a c e d h) (r c (p e undef) d h))
      (fun g p r c e d h => onBool (g e) (a c e d h) (r c (p e undef) d h) (r c (p e undef) d h)) w) x y rest) a

noncomputable def tG (g : Option (Option Tmp × Bool)) (a : T) (da : DA) (rest : T) : T := match g with
  | none => a
  | some (some t, w) => tGuard w a (ovOf (.tmp t)) da rest
  | some (none, _) => o0 (fun p r c e d h => r c (p e undef) d h) da rest

/-- a look: would it read the same now? -/
noncomputable def tChk (g : Option (Option Tmp × Bool)) (o : Oper) (rest : T) : T :=
  T.rec (motive := fun _ => T) (fun r => ⟨fun c e d h => match wantG g e with
  | true => match opA P o.type (evalE e) h o.op with
    | .val v _ => match o.dst with
      | some t => match sameV v ((ea t).get e) with
        | true => r c e d h
        | false => .stuck
      | none => .stuck
    | _ => .stuck
  | false => r c e d h⟩) rest

noncomputable def tSteps (rest : T) : List Stp → T
  | [] => rest
  | .op g o :: l => tG g (tOp P o.type (daOf o.dst) (tSteps rest l) o.op) (daOf o.dst) (tSteps rest l)
  | .eff g o :: l => tG g (tOpE P o.type (daOf o.dst) (tSteps rest l) o.op) (daOf o.dst) (tSteps rest l)
  | .chk g o :: l => tChk P g o (tSteps rest l)

noncomputable def onR (r : R) (k : Env → List Deferred → AH → R) (x : Nat → Env → List Deferred → AH → R) : R :=
  R.rec (motive := fun _ => R) k x (fun e d h => R.ret e d h) (fun v e d h => R.pan v e d h) R.stuck r

noncomputable def tCond (x : OV) (a b : T) : T :=
  OV.rec (motive := fun _ => T) (fun g => T.rec (motive := fun _ => T) (fun a => T.rec (motive := fun _ => T) (fun b => ⟨fun c e d h => onBool (g e) (a c e d h) (b c e d h) R.stuck⟩) b) a) x
noncomputable def tIter (a : F) (c : Rec) (n : Nat) : Env → List Deferred → AH → R :=
  Nat.rec (motive := fun _ => Env → List Deferred → AH → R) (fun _ _ _ => R.stuck) (fun _ ih e d h => onR (a c e d h) ih R.exit) n

/-- where an exit leads -/
abbrev Exs := List (Nat × T)
noncomputable def exT (id : Nat) : Exs → T
  | [] => ⟨fun _ e d h => R.exit id e d h⟩
  | (i, t) :: l => match Nat.beq id i with
    | true => t
    | false => exT id l
/-- an exit out of a loop -/
structure XT where
  run : Rec → Nat → Env → List Deferred → AH → R
noncomputable def exL : Exs → XT
  | [] => ⟨fun _ i e d h => R.exit i e d h⟩
  | (j, t) :: l => T.rec (motive := fun _ => XT) (fun t => XT.rec (motive := fun _ => XT) (fun x => ⟨fun c i e d h => bR (Nat.beq i j) (t c e d h) (x c i e d h)⟩) (exL l)) t
noncomputable def tLoop (a k : T) (x : XT) : T :=
  T.rec (motive := fun _ => T) (fun a => T.rec (motive := fun _ => T) (fun _ => XT.rec (motive := fun _ => T) (fun x => ⟨fun c e d h => onR (tIter a c 100000 e d h) (fun _ _ _ => R.stuck) (fun i e d h => x c i e d h)⟩) x) k) a

noncomputable def tCode : Code → T → Exs → T
  | .skip, k, _ => k
  | .label _, k, _ => k
  | .region _ ops draw, k, _ => match planOf P ops.toList draw with
    | some s => tSteps P k s
    | none => tStuck
  | .seq a b, k, x => tCode a (tCode b k x) x
  | .cond c a b, k, x => tCond (ovOf c) (tCode a k x) (tCode b k x)
  | .block id c, k, x => tCode c k ((id, k) :: x)
  | .loop c, k, x => tLoop (tCode c tEnd []) k (exL x)
  | .scope c, k, x => tCode c k x
  | .exit id, _, x => exT id x
  | .ret, _, _ => ⟨fun _ e d h => R.ret e d h⟩
  | _, _, _ => tStuck

/-- a function, worked out -/
structure FT where
  run : Rec → List Value → AH → C

noncomputable def onRC (r : R) (k : Env → List Deferred → AH → C) (q : Value → Env → List Deferred → AH → C) : C :=
  R.rec (motive := fun _ => C) k (fun _ _ _ _ => C.stuck) k q C.stuck r

/- arguments, up to eight; more than those, one by one -/
noncomputable def ev8 (x0 x1 x2 x3 x4 x5 x6 x7 : Value) (l : List Value) : Env := envFrom 8 l { env0 with a0 := ⟨x0, x1, x2, x3, x4, x5, x6, x7⟩ }
noncomputable def ev7 (x0 x1 x2 x3 x4 x5 x6 : Value) (l : List Value) : Env := List.rec (motive := fun _ => Env) ⟨⟨x0, x1, x2, x3, x4, x5, x6, undef⟩, l80, l80, l80, l80, l80, m80, m80, m80⟩ (fun x t _ => ev8 x0 x1 x2 x3 x4 x5 x6 x t) l
noncomputable def ev6 (x0 x1 x2 x3 x4 x5 : Value) (l : List Value) : Env := List.rec (motive := fun _ => Env) ⟨⟨x0, x1, x2, x3, x4, x5, undef, undef⟩, l80, l80, l80, l80, l80, m80, m80, m80⟩ (fun x t _ => ev7 x0 x1 x2 x3 x4 x5 x t) l
noncomputable def ev5 (x0 x1 x2 x3 x4 : Value) (l : List Value) : Env := List.rec (motive := fun _ => Env) ⟨⟨x0, x1, x2, x3, x4, undef, undef, undef⟩, l80, l80, l80, l80, l80, m80, m80, m80⟩ (fun x t _ => ev6 x0 x1 x2 x3 x4 x t) l
noncomputable def ev4 (x0 x1 x2 x3 : Value) (l : List Value) : Env := List.rec (motive := fun _ => Env) ⟨⟨x0, x1, x2, x3, undef, undef, undef, undef⟩, l80, l80, l80, l80, l80, m80, m80, m80⟩ (fun x t _ => ev5 x0 x1 x2 x3 x t) l
noncomputable def ev3 (x0 x1 x2 : Value) (l : List Value) : Env := List.rec (motive := fun _ => Env) ⟨⟨x0, x1, x2, undef, undef, undef, undef, undef⟩, l80, l80, l80, l80, l80, m80, m80, m80⟩ (fun x t _ => ev4 x0 x1 x2 x t) l
noncomputable def ev2 (x0 x1 : Value) (l : List Value) : Env := List.rec (motive := fun _ => Env) ⟨⟨x0, x1, undef, undef, undef, undef, undef, undef⟩, l80, l80, l80, l80, l80, m80, m80, m80⟩ (fun x t _ => ev3 x0 x1 x t) l
noncomputable def ev1 (x0 : Value) (l : List Value) : Env := List.rec (motive := fun _ => Env) ⟨⟨x0, undef, undef, undef, undef, undef, undef, undef⟩, l80, l80, l80, l80, l80, m80, m80, m80⟩ (fun x t _ => ev2 x0 x t) l
noncomputable def ev0 (l : List Value) : Env := List.rec (motive := fun _ => Env) env0 (fun x t _ => ev1 x t) l

/-- how many, at most so many? -/
noncomputable def leL (l : List Value) : Nat → Bool :=
  List.rec (motive := fun _ => Nat → Bool) (fun _ => true) (fun _ _ ih n => Nat.rec (motive := fun _ => Bool) false (fun m _ => ih m) n) l

/-- a function's results -/
structure RT where
  get : Env → AH → C
noncomputable def rtOf (rs : List ResultVar) : RT := match rs with
  | [.tmp t] => EA.rec (motive := fun _ => RT) (fun g _ => ⟨fun e h => .ret (g e) h⟩) (ea t)
  | [.tmp t, .tmp u] => EA.rec (motive := fun _ => RT) (fun g _ => EA.rec (motive := fun _ => RT) (fun g' _ => ⟨fun e h => .ret (.tuple ⟨[g e, g' e]⟩) h⟩) (ea u)) (ea t)
  | rs => ⟨fun e h => match resA P rs e h with
    | some v => .ret v h
    | none => .stuck⟩

noncomputable def fRun (b : FB) (t : T) : FT :=
  T.rec (motive := fun _ => FT) (fun t => RT.rec (motive := fun _ => FT) (fun rt => ⟨fun c args h => Bool.rec (motive := fun _ => C) .stuck
    (onRC (t c (ev0 args) [] h) (fun e d h' => List.rec (motive := fun _ => C) (rt e h') (fun _ _ _ => leaveA P c b.res e d none h') d) (fun v e d h' => List.rec (motive := fun _ => C) (.pan v h') (fun _ _ _ => leaveA P c b.res e d (some v) h') d))
    (leL args b.n)⟩) (rtOf P b.res)) t

noncomputable def ftOf (f : FuncId) : FT := match bodyOf P f with
  | some b => fN b.n fun n => fRun P ⟨n, b.code, b.res⟩ (tCode P b.code tEnd [])
  | none => ⟨fun _ args h => externA (externOf P f) args h⟩

noncomputable def callT (n : Nat) : Rec := Nat.rec (motive := fun _ => Rec) (fun _ _ _ => .stuck) (fun _ ih f args h => (ftOf P f).run ih args h) n
end stage
end Go.Ab
