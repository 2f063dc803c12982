/- THE EVALUATOR IS SOUND, part 2: operations, regions, code, calls. -/
import Derived.Test.YtoboobobndefgaaGreatDoorSoundA
import Derived.Laws.BytesString
import Derived.Orders
import Derived.Recover
import Derived.Scope
import Derived.Laws.StandIn
import Derived.Lib.Bytealg
set_option linter.all false
/- Each of the evaluator's operations against the model's: conversions. -/
namespace Go.Ab
open Go Go.RowKit

section
variable {P : Program} {B : Nat} {w0 : World} {β : Beta} {h : AH} {w : World}

theorem ckind_int {s d : TypeId} {k : IntKind} (hk : ckindOf P s d = .int k) : (∃ q, P.underlying s = some (.int q)) ∧ P.underlying d = some (.int k) := by
  unfold ckindOf at hk
  split at hk <;> first | (cases hk; exact ⟨⟨_, by assumption⟩, by assumption⟩) | (split at hk <;> cases hk; done) | (cases hk; done) | skip
  all_goals (split at hk <;> cases hk)

theorem ckind_bytes {s d : TypeId} {n : Nat} (hk : ckindOf P s d = .bytes n) : P.underlying s = some .string ∧ n = 1 ∧ ∃ e, P.underlying d = some (.slice e) ∧ P.underlying e = some (.int .u8) ∧ szOf P e = some 1 := by
  unfold ckindOf at hk
  split at hk
  · cases hk
  · rename_i e h1 h2
    split at hk
    · rename_i h3 h4
      cases hk
      exact ⟨h1, rfl, e, h2, u8T_eq h3, h4⟩
    · cases hk
  all_goals first | (cases hk; done) | (split at hk <;> cases hk)

theorem ckind_str {s d : TypeId} (hk : ckindOf P s d = .str) : P.underlying d = some .string ∧ ∃ e, P.underlying s = some (.slice e) ∧ P.underlying e = some (.int .u8) := by
  unfold ckindOf at hk
  split at hk
  · cases hk
  · split at hk <;> cases hk
  · rename_i e h1 h2
    split at hk
    · rename_i h3
      exact ⟨h2, e, h1, u8T_eq h3⟩
    · cases hk
  all_goals first | (cases hk; done) | (split at hk <;> cases hk)

theorem ckind_same {s d : TypeId} (hk : ckindOf P s d = .same) : s = d ∧ ∃ e, P.underlying d = some (.slice e) ∧ P.underlying e = some (.int .u8) := by
  unfold ckindOf at hk
  split at hk
  · cases hk
  · split at hk <;> cases hk
  · split at hk <;> cases hk
  · rename_i e0 e h1 h2
    split at hk
    · rename_i h3 h4
      rw [beq_t] at h4
      exact ⟨h4, e, h2, u8T_eq h3⟩
    · cases hk
  all_goals (cases hk)

theorem bytesOfCells_eq : ∀ {l : List Value} {bs : List UInt8}, bytesOfCells l = some bs → ∃ ns : List Int, l = ns.map (Value.int .u8) ∧ bs = ns.map fun n => UInt8.ofNat n.toNat
  | [], bs, hb => by cases hb; exact ⟨[], rfl, rfl⟩
  | v :: l, bs, hb => by
    unfold bytesOfCells at hb
    split at hb
    · cases hb; exact ⟨[], by assumption, rfl⟩
    · rename_i n l2 heq
      cases heq
      split at hb
      · rename_i l' hl
        cases hb
        obtain ⟨ns, h1, h2⟩ := bytesOfCells_eq hl
        exact ⟨n :: ns, by simp [h1], by simp [h2]⟩
      · exact nomatch hb
    · exact nomatch hb

theorem plain_u8 : ∀ ns : List Int, plainL (ns.map (Value.int .u8)) = true
  | [] => rfl
  | _ :: ns => plain_u8 ns

theorem push_bytes : ∀ (ns : List Int) (l : List UInt8), ns.foldl (fun (r : ByteArray) n => r.push (UInt8.ofNat n.toNat)) ⟨⟨l⟩⟩ = ⟨⟨l ++ ns.map fun n => UInt8.ofNat n.toNat⟩⟩
  | [], l => by simp
  | n :: ns, l => by
    have : (⟨⟨l⟩⟩ : ByteArray).push (UInt8.ofNat n.toNat) = ⟨⟨l ++ [UInt8.ofNat n.toNat]⟩⟩ := by
      show (⟨(⟨l⟩ : Array UInt8).push _⟩ : ByteArray) = _
      congr 1
      apply Array.ext'
      simp
    rw [List.foldl_cons, this, push_bytes ns]
    simp

theorem freeze_alloc (w : World) (full : Array Value) (e : TypeId) : (w.alloc (.cells full e)).freeze ⟨w.heap.size, full.size, none⟩ 1 = w.alloc (.cells full e (full.size, full.size + 1)) := by
  simp only [World.freeze]
  rw [if_neg (by decide)]
  simp only [World.alloc]
  congr 1
  apply Array.ext'
  apply List.ext_getElem?
  intro i
  simp only [Array.getElem?_toList, Array.getElem?_modify, Array.getElem?_push]
  by_cases c : w.heap.size = i
  · subst c
    simp
  · rw [if_neg c, if_neg (by omega), if_neg (by omega)]

theorem convA_sound (r : Rel B w0 β h w) {s d : TypeId} {x x' : Value} (hx : VRel β x x') :
    OpOK P B w0 β h w ((do pure (Next.value (← convert s d x')) : Sem Next).run P w) (convA P (ckindOf P s d) s d h x) := by
  unfold convA
  split
  · rename_i k hk
    obtain ⟨⟨q, h1⟩, h2⟩ := ckind_int hk
    split
    · rename_i q' n
      refine .ofO r fun v hv => ?_
      cases hx
      have := wrapF_eq hv
      subst this
      exact ⟨_, run_v (by simp [convert, run_underlying h1, run_underlying h2, Conv.intToInt]), .int _ _⟩
    · exact trivial
  · rename_i n hk
    obtain ⟨h1, rfl, e, h2, h3, h4⟩ := ckind_bytes hk
    split
    · rename_i l
      cases hx
      rw [fN_eq, lenB_eq, Nat.zero_add]
      have hg := le_grownCap w l.length 0 e
      let el : Array Value := (⟨l⟩ : Array UInt8).map fun b => Value.int .u8 (Int.ofNat b.toNat)
      let full : Array Value := el ++ Array.replicate (grownCap w l.length 0 e - l.length) (.int .u8 0)
      have hes : el.size = l.length := by simp [el]
      have hfs : full.size = grownCap w l.length 0 e := by simp only [full, Array.size_append, Array.size_replicate, hes]; omega
      have het : el.toList = bytesV l := by rw [bytesV_eq]; simp [el]
      obtain ⟨b1, b2⟩ := bytes_rel (β := β) l
      have hbl : (bytesV l).length = l.length := by rw [bytesV_eq]; simp
      refine newF_sound (Sim.drew r) (.app _) full e (full.size, full.size + 1) (.inr (Nat.le_refl _)) (by omega) (fun j hj => ⟨b2 j hj, ?_⟩) (fun a => .slice (some a) l.length (unk + 1))
        (v' := .slice (some ⟨w.heap.size, 0, none⟩) l.length (grownCap w l.length 0 e)) (run_v ?_) (fun β' hb _ => ?_)
      · have : full.getD j undef = el.getD j undef := by
          simp only [full, Array.getD_eq_getD_getElem?]
          rw [Array.getElem?_append_left (by omega)]
        rw [this, getD_toList, het]
        exact b1.2 j hj
      · have hsh : (w.drew.alloc (.cells full e)).shape? w.heap.size = some (e, full.size) := by
          unfold World.shape?
          rw [alloc_heap, if_pos (show w.heap.size = w.drew.heap.size from rfl)]
        have hfz := freeze_alloc w.drew full e
        have hstr : (Conv.stringToBytes e ⟨⟨l⟩⟩).run P w = .ok (.slice (some ⟨w.heap.size, 0, none⟩) l.length (grownCap w l.length 0 e)) (w.drew.alloc (.cells full e (full.size, full.size + 1))) := by
          rw [← hfz]
          unfold Conv.stringToBytes
          simp only [Sem.run_bind, run_choose_drew, Question.forced, Bool.false_eq_true, if_false, Result.andThen_ok, newRow, run_newObj_alloc, Sem.run_pure, markStringish, run_shape]
          show ((Sem.run P (match (w.drew.alloc (.cells full e)).shape? w.heap.size with | some (_, n) => freeze ⟨w.heap.size, n, none⟩ 1 | _ => pure ()) (w.drew.alloc (.cells full e))).andThen _) = _
          rw [hsh]
          rfl
        simp [convert, run_underlying h1, run_underlying h2, run_underlying h3, hstr]
      · have := VRel.slU (o := 0) (n := l.length) (z := 1) (cap := grownCap w l.length 0 e) hb hg (by simp only [Nat.zero_add, hfs, Nat.mul_one]; exact Nat.le_refl _)
        exact this
    · exact trivial
  · rename_i hk
    obtain ⟨h2, e, h1, h3⟩ := ckind_str hk
    have go : ∀ (b : Addr) (n cap : Nat) (ns : List Int), x' = .slice (some b) n cap → (loadCells b n).run P w = .ok (ns.map (Value.int .u8)).toArray w →
        (convert s d x').run P w = .ok (.string ⟨⟨ns.map fun n => UInt8.ofNat n.toNat⟩⟩) w := by
      intro b n cap ns hx' hl
      subst hx'
      have h4 := run_bytesToString w b n cap ns hl
      rw [show ByteArray.empty = (⟨⟨[]⟩⟩ : ByteArray) from rfl, push_bytes, List.nil_append] at h4
      simp [convert, run_underlying h1, run_underlying h2, run_underlying h3, h4]
    split
    · cases hx
      exact .same r (run_v (by simp [convert, run_underlying h1, run_underlying h2, run_underlying h3, Conv.bytesToString]; rfl)) (.string _)
    · rename_i b off n c
      split
      · have : ∃ a cap, x' = .slice (some a) 0 cap := by cases hx <;> exact ⟨_, _, rfl⟩
        obtain ⟨a, cap, hx'⟩ := this
        exact .same r (run_v (go a 0 cap [] hx' rfl)) (.string _)
      · rename_i n'
        split
        · rename_i k hb
          split
          · rename_i l hl
            split
            · rename_i bs hbs
              obtain ⟨ns, rfl, rfl⟩ := bytesOfCells_eq hbs
              obtain ⟨l', f1, f2, f3, f4⟩ := firstA_sound (P := P) (size := 1) (n := n' + 1) (m := n' + 1) r hx rfl (Nat.le_refl _) (l := ns.map (Value.int .u8)) (by simp only [firstA, Nat.mul_one, hb, hl])
              have e1 := f2.plain (plain_u8 ns)
              have : ∃ a cap, x' = .slice (some a) (n' + 1) cap := by cases hx <;> exact ⟨_, _, rfl⟩
              obtain ⟨a, cap, hx'⟩ := this
              have f1 := f1 w rfl
              rw [hx'] at f1
              simp only [Builtin.firstCells, Nat.mul_one] at f1
              refine .same r (run_v (go a _ cap ns hx' ?_)) (.string _)
              rw [f1]
              congr 1
              apply Array.ext'
              simpa using e1
            · exact trivial
          · exact trivial
        · exact trivial
    · exact trivial
  · rename_i hk
    obtain ⟨rfl, e, h2, h3⟩ := ckind_same hk
    split
    · rename_i b off n c
      have go : ∀ k, h.get b = some k → BM k → ¬ isMap k → OpOK P B w0 β h w ((do pure (Next.value (← convert s s x')) : Sem Next).run P w) (.val (.slice (some ⟨b, off, none⟩) n c) h) := by
        intro k hb hm hmap
        cases hx with
        | sl c1 c2 =>
          rename_i be
          obtain ⟨w', q1, q2⟩ := Sim.freeze (P := P) (off := be.s + off) r hb c2 hm hmap
          exact ⟨_, β, w', .inl (run_v (by simp [convert, run_underlying h2, run_underlying h3, q1])), q2, .sl c1 c2⟩
        | slU c1 c2 c3 =>
          rename_i be
          obtain ⟨w', q1, q2⟩ := Sim.freeze (P := P) (off := be.s + off) r hb c1 hm hmap
          exact ⟨_, β, w', .inl (run_v (by simp [convert, run_underlying h2, run_underlying h3, q1])), q2, .slU c1 c2 c3⟩
        | slE a => have := AH.get_lt hb; simp [nob] at this
      split
      · rename_i cs hb; exact go _ hb trivial (fun x => x)
      · rename_i t m hb; exact go _ hb trivial (fun x => x)
      · exact trivial
    · exact trivial
  · split
    · rename_i hp
      refine .ofO r fun v hv => ?_
      have := hx.plain1 hp
      subst this
      obtain ⟨k1, k2⟩ := quickC_eq hv w
      exact ⟨v, run_v k1, .constV k2⟩
    · exact trivial
  · exact trivial
end
end Go.Ab
/- One theorem for all of the evaluator's operations. -/
namespace Go.Ab
open Go Go.RowKit

section
variable {P : Program} {B : Nat} {w0 : World} {β : Beta} {h : AH} {w : World}

theorem map_o {ρ ρ' : Operand → Value} (x : Option Operand) (hx : ∀ y, x = some y → VRel β (ρ y) (ρ' y)) : ORel β (x.map ρ) (x.map ρ') := by
  cases x with
  | none => trivial
  | some y => exact hx y rfl

theorem builtinA_sound (r : Rel B w0 β h w) {b : Builtin} {ts : Array TypeId} {ty : TypeId} {consts : Array Bool} {args : List Value} {args' : Array Value} (ha : LRel β args args'.toList) :
    OpOK P B w0 β h w ((builtin b ts ty consts args').run P w) (builtinA P b ts ty h args) := by
  obtain ⟨args'⟩ := args'
  replace ha : LRel β args args' := ha
  cases b <;> simp only [builtinA] <;> try exact trivial
  case len =>
    split
    · rename_i hk
      obtain ⟨x', m', rfl, h1, h2⟩ := ha.inv_cons
      have := h2.inv_nil
      subst this
      exact lenA_sound r hk h1
    · exact trivial
  case cap =>
    split
    · rename_i hk
      obtain ⟨x', m', rfl, h1, h2⟩ := ha.inv_cons
      have := h2.inv_nil
      subst this
      exact capA_sound r hk h1
    · exact trivial
  case clear =>
    split
    · obtain ⟨x', m', rfl, h1, h2⟩ := ha.inv_cons
      have := h2.inv_nil
      subst this
      exact clearA_sound r h1
    · exact trivial
  case copy =>
    split
    · obtain ⟨x', m', rfl, h1, h2⟩ := ha.inv_cons
      obtain ⟨y', m', rfl, h3, h4⟩ := h2.inv_cons
      have := h4.inv_nil
      subst this
      exact copyA_sound r h1 h3
    · exact trivial
  case append =>
    split
    · rename_i s x _
      obtain ⟨x', m', rfl, h1, h2⟩ := ha.inv_cons
      obtain ⟨y', m', rfl, h3, h4⟩ := h2.inv_cons
      have := h4.inv_nil
      subst this
      obtain ⟨ts⟩ := ts
      rcases ts with _ | ⟨t1, _ | ⟨t2, _ | ⟨t3, ts⟩⟩⟩
      · exact trivial
      · exact trivial
      · exact appendA_sound r h1 h3
      · exact trivial
    · exact trivial
  case panic =>
    split
    · obtain ⟨x', m', rfl, h1, h2⟩ := ha.inv_cons
      have := h2.inv_nil
      subst this
      exact panicA_sound h1
    · exact trivial
  case max =>
    split
    · rename_i k a l _
      obtain ⟨x', m', rfl, h1, h2⟩ := ha.inv_cons
      cases h1
      split
      · rename_i n hn
        exact .same r (run_v (by simp only [Builtin.max_]; exact fold_max _ _ m' _ n h2 hn)) (.int _ _)
      · exact trivial
    · exact trivial
  case min =>
    split
    · rename_i k a l _
      obtain ⟨x', m', rfl, h1, h2⟩ := ha.inv_cons
      cases h1
      split
      · rename_i n hn
        exact .same r (run_v (by simp only [Builtin.min_]; exact fold_min _ _ m' _ n h2 hn)) (.int _ _)
      · exact trivial
    · exact trivial

theorem opA_sound (r : Rel B w0 β h w) {ρ ρ' : Operand → Value} (o : Oper) (hρ : ∀ x ∈ o.op.operands.toList, VRel β (ρ x) (ρ' x)) : OpOK P B w0 β h w ((execOp ρ' o).run P w) (opA P o.type ρ h o.op) := by
  unfold execOp
  generalize ho : o.op = op at hρ
  have two : ∀ {a b : Operand} {l : List Operand}, l = [a, b] → (∀ x ∈ l, VRel β (ρ x) (ρ' x)) → VRel β (ρ a) (ρ' a) ∧ VRel β (ρ b) (ρ' b) := fun e hl => by subst e; exact ⟨hl _ (by simp), hl _ (by simp)⟩
  cases op with
  | move x => exact .same r rfl (hρ x (by simp [Op.operands]))
  | assign x => exact .same r rfl (hρ x (by simp [Op.operands]))
  | pick c a b =>
    refine .ofO r fun v hv => ?_
    obtain ⟨t, h1, h2⟩ := pickA_sound (hρ c (by simp [Op.operands])) (hρ a (by simp [Op.operands])) (hρ b (by simp [Op.operands])) hv
    exact ⟨_, by simp [h1, asBool], h2⟩
  | alloc e =>
    simp only [opA]
    split
    · rename_i z hz; exact alloc_sound r hz
    · exact trivial
  | box e x => exact boxA_sound r (hρ x (by simp [Op.operands]))
  | load t a =>
    simp only [opA]
    split
    · rename_i b n ha hn
      refine .ofO r fun v hv => ?_
      obtain ⟨ad, v', h0, h1, h2⟩ := loadS_sound (P := P) r ha hn (hρ a (by simp [Op.operands])) hv
      exact ⟨v', run_v (by simp [Instr.loadAt, Instr.sureAddr, h0, h1]), h2⟩
    · exact trivial
  | build t ps =>
    refine .ofO r fun v hv => ?_
    obtain ⟨v', h1, h2⟩ := buildA_sound (P := P) (w := w) (ρ := ρ) (ρ' := ρ') (fun p hp => hρ p.2 (by simp only [Op.operands, List.mem_map]; exact ⟨p, hp, rfl⟩)) hv
    exact ⟨v', run_v h1, h2⟩
  | buildSlice t len ps => exact buildSliceA_sound r fun p hp => hρ p.2 (by simp only [Op.operands, List.mem_map]; exact ⟨p, hp, rfl⟩)
  | store t a x =>
    simp only [opA]
    split
    · rename_i n hn
      split
      · rename_i h' hs
        obtain ⟨w', h1, h2⟩ := storeS_sound (P := P) r hn (hρ a (by simp [Op.operands])) (hρ x (by simp [Op.operands])) hs
        exact ⟨undef, β, w', .inr ⟨by simp [h1], rfl⟩, h2, .tuple rfl fun i hi => absurd hi (Nat.not_lt_zero _)⟩
      · exact trivial
    · exact trivial
  | binOp op t x y e =>
    refine .ofO r fun v hv => ?_
    obtain ⟨h1, h2⟩ := binA_sound (hρ x (by simp [Op.operands])) (hρ y (by simp [Op.operands])) hv w
    exact ⟨v, run_v h1, h2⟩
  | unOp op t x =>
    refine .ofO r fun v hv => ?_
    obtain ⟨h1, h2⟩ := unA_sound (hρ x (by simp [Op.operands])) hv w
    exact ⟨v, run_v h1, h2⟩
  | convert s d x => exact convA_sound r (hρ x (by simp [Op.operands]))
  | makeInterface t x =>
    simp only [opA]
    split
    · rename_i hc
      exact .same r (run_v (makeInterface_run hc _)) (.iface _ (hρ x (by simp [Op.operands])))
    · exact trivial
  | makeFunc fn a c =>
    exact .same r rfl (makeFunc_rel fn (fun x hx => hρ x (by simp [Op.operands]; left; simpa using hx)) (fun x hx => hρ x (by simp [Op.operands]; right; simpa using hx)))
  | makeSlice t l c => exact makeSliceA_sound r (hρ l (by simp [Op.operands])) (hρ c (by simp [Op.operands]))
  | fieldAddr s x f =>
    refine .ofO r fun v hv => ?_
    obtain ⟨v', h1, h2⟩ := fieldAddrA_sound (P := P) (w := w) (hρ x (by simp [Op.operands])) hv
    exact ⟨v', run_v h1, h2⟩
  | field t x f =>
    refine .ofO r fun v hv => ?_
    obtain ⟨v', h1, h2⟩ := fieldA_sound (P := P) (w := w) (hρ x (by simp [Op.operands])) hv
    exact ⟨v', run_v h1, h2⟩
  | indexAddr t x i =>
    refine .ofO r fun v hv => ?_
    obtain ⟨v', h1, h2⟩ := indexAddrA_sound (P := P) (w := w) (hρ x (by simp [Op.operands])) (hρ i (by simp [Op.operands])) hv
    exact ⟨v', run_v h1, h2⟩
  | index t x i =>
    refine .ofO r fun v hv => ?_
    obtain ⟨v', h1, h2⟩ := indexA_sound (P := P) (w := w) (hρ x (by simp [Op.operands])) (hρ i (by simp [Op.operands])) hv
    exact ⟨v', run_v h1, h2⟩
  | lookup t x i ok =>
    refine .ofO r fun v hv => ?_
    obtain ⟨v', h1, h2⟩ := lookupA_sound (P := P) r (hρ x (by simp [Op.operands])) (hρ i (by simp [Op.operands])) hv
    exact ⟨v', run_v h1, h2⟩
  | mapUpdate t m k v =>
    simp only [opA]
    split
    · rename_i h' hs
      obtain ⟨w', h1, h2⟩ := mapUpdateA_sound (P := P) r (hρ m (by simp [Op.operands])) (hρ k (by simp [Op.operands])) (hρ v (by simp [Op.operands])) hs
      exact ⟨undef, β, w', .inr ⟨by simp [h1], rfl⟩, h2, .tuple rfl fun i hi => absurd hi (Nat.not_lt_zero _)⟩
    · exact trivial
  | extract t i =>
    refine .ofO r fun v hv => ?_
    obtain ⟨v', h1, h2⟩ := extractA_sound (P := P) (w := w) (hρ t (by simp [Op.operands])) hv
    exact ⟨v', run_v h1, h2⟩
  | typeAssert x xt a ok =>
    simp only [opA]
    split
    · rename_i hc
      refine .ofO r fun v hv => ?_
      obtain ⟨v', h1, h2⟩ := assertA_sound (P := P) (w := w) hc (hρ x (by simp [Op.operands])) hv
      exact ⟨v', run_v h1, h2⟩
    · exact trivial
  | panic x => exact panicA_sound (hρ x (by simp [Op.operands]))
  | nilCheck x =>
    refine .ofO r fun v hv => ?_
    have hx := hρ x (by simp [Op.operands])
    rcases nilCheckA_sound hx hv with ⟨rfl, a, e⟩ | ⟨rfl, f, a, b, e⟩
    · exact ⟨_, by simp only [e]; rfl, by rw [← e]; exact hx⟩
    · exact ⟨_, by simp only [e]; rfl, by rw [← e]; exact hx⟩
  | makeMap t hint =>
    cases hint with
    | none => exact makeMap_sound r
    | some _ => exact trivial
  | slice t x lo hi mx =>
    refine .ofO r fun v hv => ?_
    obtain ⟨v', h1, h2⟩ := sliceA_sound (P := P) r (hρ x (by simp [Op.operands])) (map_o lo fun y hy => hρ y (by simp [Op.operands, hy])) (map_o hi fun y hy => hρ y (by simp [Op.operands, hy])) (map_o mx fun y hy => hρ y (by simp [Op.operands, hy])) hv
    exact ⟨v', run_v h1, h2⟩
  | call c =>
    have hargs : LRel β (mapL ρ c.args.toList) (c.args.toList.map ρ') := mapL_rel _ fun x hx => hρ x (by simp only [Op.operands, Call.operands, Array.toList_append, List.mem_append]; exact .inr hx)
    simp only [opA]
    split
    · rename_i f hf
      exact callA_sound r (hρ f (by simp [Op.operands, Call.operands, hf])) hargs hf rfl
    · rename_i b hb
      have hb' := builtinA_sound (P := P) r (b := b) (ts := c.argTypes) (ty := o.type) (consts := c.args.map fun | .const _ => true | _ => false) (args' := c.args.map ρ') (args := mapL ρ c.args.toList) (by simpa using hargs)
      simp only [resolve, hb, Sem.run_bind, Sem.run_pure, Result.andThen_ok, invoke]
      exact hb'
    · exact trivial
  | defer c =>
    have hargs : LRel β (mapL ρ c.args.toList) (c.args.toList.map ρ') := mapL_rel _ fun x hx => hρ x (by simp only [Op.operands, Call.operands, Array.toList_append, List.mem_append]; exact .inr hx)
    simp only [opA]
    split
    · rename_i f hf
      exact deferA_sound (hρ f (by simp [Op.operands, Call.operands, hf])) hargs hf rfl
    · exact trivial
  | _ => exact trivial
end
end Go.Ab
/- The evaluator's control against the model's: frames, operands, guards, regions whose order is fixed. -/
namespace Go.Ab
open Go Go.RowKit

section
variable {P : Program} {B : Nat} {w0 : World} {β : Beta} {h : AH} {w : World}

theorem VRel.undef : VRel β Go.undef Go.undef := .tuple rfl fun i hi => absurd hi (Nat.not_lt_zero _)

/-- a frame of n slots, on both sides -/
def ERel (β : Beta) (n : Nat) (e : Env) (a : Array Value) : Prop := a.size = n ∧ ∀ t, t < n → VRel β ((ea t).get e) (a.getD t undef)
/-- the program's variables lie where they lie -/
def GRel (g : Nat) (β : Beta) : Prop := ∀ x, x < g → ∃ n, β x = some ⟨x, 0, n⟩
inductive DsRel (β : Beta) : List Deferred → List Deferred → Prop
  | nil : DsRel β [] []
  | cons {d d' : Deferred} {l l' : List Deferred} : DRel β d d' → DsRel β l l' → DsRel β (d :: l) (d' :: l')

theorem ERel.mono {β' : Beta} {n : Nat} {e : Env} {a : Array Value} (hβ : BLe β β') (r : ERel β n e a) : ERel β' n e a := ⟨r.1, fun t ht => (r.2 t ht).mono hβ⟩
theorem GRel.mono {β' : Beta} {g : Nat} (hβ : BLe β β') (r : GRel g β) : GRel g β' := fun x hx => let ⟨n, hn⟩ := r x hx; ⟨n, hβ _ _ hn⟩
theorem DRel.mono {β' : Beta} {d d' : Deferred} (hβ : BLe β β') (r : DRel β d d') : DRel β' d d' :=
  let ⟨fn, c, c', h1, h2, h3, h4⟩ := r; ⟨fn, c, c', h1, h2, h3.mono hβ, h4.mono hβ⟩
theorem DsRel.mono {β' : Beta} {d d' : List Deferred} (hβ : BLe β β') (r : DsRel β d d') : DsRel β' d d' := by
  induction r with
  | nil => exact .nil
  | cons h1 _ ih => exact .cons (h1.mono hβ) ih

theorem Act.put_tmps (a : Act) (d : Option Tmp) (v : Value) : (a.put d v).tmps = match d with | some t => a.tmps.setIfInBounds t v | none => a.tmps := by
  cases d <;> rfl
theorem Act.put_ds (a : Act) (d : Option Tmp) (v : Value) : (a.put d v).defers = a.defers := by cases d <;> rfl

theorem ERel.put {n : Nat} {e : Env} {a : Act} (hn : n ≤ 240) (r : ERel β n e a.tmps) {d : Option Tmp} (hd : ∀ t : Nat, d = some t → t < n) {v v' : Value} (hv : VRel β v v') :
    ERel β n (putD e d v) (a.put d v').tmps := by
  cases d with
  | none => exact r
  | some t =>
    have ht := hd t rfl
    refine ⟨by simp [Act.put, r.1], fun u hu => ?_⟩
    simp only [putD, Act.put]
    rw [getD_set _ _ _ _ (by rw [r.1]; exact ht)]
    by_cases hut : u = t
    · subst hut
      rw [if_pos rfl, ea_same u e v (by omega)]
      exact hv
    · rw [if_neg hut, ea_other u t e v (by omega) (by omega) hut]
      exact r.2 u hu

theorem evalE_rel {n g : Nat} {e : Env} {a : Act} (r : ERel β n e a.tmps) (hg : GRel g β) {x : Operand} (hx : opdOk n g x = true) : VRel β (evalE e x) (a.eval x) := by
  cases x with
  | tmp t => exact r.2 t (blt_t.1 hx)
  | const v => exact .constV hx
  | global x =>
    obtain ⟨m, hm⟩ := hg x (blt_t.1 hx)
    exact VRel.ptr (o := 0) hm
  | func f => exact .func (.func f) rfl (fun i hi => absurd hi (Nat.not_lt_zero _)) rfl (fun i hi => absurd hi (Nat.not_lt_zero _))

theorem VRel.bool_iff {v v' : Value} (r : VRel β v v') (b : Bool) : v = .bool b ↔ v' = .bool b := by
  cases r <;> first | exact Iff.rfl | simp

theorem opOk_dst {n g : Nat} {o : Oper} (h : opOk n g o = true) : ∀ t : Nat, o.dst = some t → t < n := fun t ht => by
  unfold opOk at h
  rw [ht, Bool.and_eq_true] at h
  exact blt_t.1 h.2
theorem opOk_opd {n g : Nat} {o : Oper} (h : opOk n g o = true) : ∀ x ∈ o.op.operands.toList, opdOk n g x = true := fun x hx => by
  unfold opOk at h
  rw [Bool.and_eq_true, List.all_eq_true] at h
  exact h.1 x hx

/-- A guard, on both sides. -/
theorem wantG_eq {ops : Array Oper} {n : Nat} {e : Env} {a : Array Value} (hok : ∀ o ∈ ops.toList, ∀ t : Nat, o.dst = some t → t < n) (r : ERel β n e a) (o : Oper) :
    wantG (guardOf ops.toList o) e = Region.wanted o (yielded ops a) := by
  unfold guardOf Region.wanted
  cases o.guard with
  | none => rfl
  | some jw =>
    obtain ⟨j, want⟩ := jw
    simp only [yielded]
    rw [Array.getElem?_toList]
    cases hj : ops[j]? with
    | none => rfl
    | some oj =>
      simp only [Option.bind_some]
      cases hd : oj.dst with
      | none => rfl
      | some t =>
        have ht := hok oj (by rw [Array.mem_toList_iff]; exact Array.mem_of_getElem? hj) t hd
        have hv := r.2 t ht
        have hs : a[t]? = some (a.getD t undef) := by
          rw [Array.getD_eq_getD_getElem?]
          have : t < a.size := by rw [r.1]; exact ht
          simp [this]
        simp only [Option.bind_some, hs]
        simp only [wantG]
        generalize (ea t).get e = v at hv ⊢
        generalize a.getD t undef = v' at hv ⊢
        cases hv <;> first | rfl | skip
        rename_i b
        cases b <;> cases want <;> rfl

/-- How a run goes on: the evaluator's slots, deferred calls and heap, and the model's. -/
def GoOn (B : Nat) (w0 : World) (n : Nat) (β : Beta) (h : AH) (w : World) (e : Env) (d : List Deferred) (h' : AH) (a : Act) (w' : World) : Prop :=
  ∃ β', Sim B w0 β h w β' h' w' ∧ ERel β' n e a.tmps ∧ DsRel β' d a.defers

/-- The evaluator's end and the model's. -/
def QR (B : Nat) (w0 : World) (n : Nat) (β : Beta) (h : AH) (w : World) : R → Exit → Act → World → Prop
  | .norm e d h', .normal, a, w' => GoOn B w0 n β h w e d h' a w'
  | .exit i e d h', .exit j, a, w' => i = j ∧ GoOn B w0 n β h w e d h' a w'
  | .ret e d h', .ret, a, w' => GoOn B w0 n β h w e d h' a w'
  | .pan v e d h', .panic chain, a, w' => ∃ v' β', chain = [{ v := v', recovered := false }] ∧ VRel β' v v' ∧ Sim B w0 β h w β' h' w' ∧ (d = [] ∨ ERel β' n e a.tmps) ∧ DsRel β' d a.defers
  | _, _, _, _ => False

/-- What a call comes to, on both sides. -/
def CallOK (P : Program) (G : Nat) (rec : Rec) : Prop := ∀ (f : FuncId) (args : List Value) (h : AH) (B : Nat) (w0 : World) (β : Beta) (w : World) (args' : List Value),
  Rel B w0 β h w → GRel G β → LRel β args args' → match rec f args h with
    | .ret v h' => (∃ v' β' w', (callFunc f ⟨args'⟩).run P w = .ok (.value v') w' ∧ Sim B w0 β h w β' h' w' ∧ VRel β' v v') ∨
        ((callFunc f ⟨args'⟩).run P w = .ok (.enter f ⟨args'⟩) w ∧ Calls P f ⟨args'⟩ w fun e w' => ∃ v' β', e = .returned v' ∧ Sim B w0 β h w β' h' w' ∧ VRel β' v v')
    | .pan v h' => (callFunc f ⟨args'⟩).run P w = .ok (.enter f ⟨args'⟩) w ∧
        Calls P f ⟨args'⟩ w fun e w' => ∃ v' β', e = .panicked [{ v := v', recovered := false }] ∧ Sim B w0 β h w β' h' w' ∧ VRel β' v v'
    | .stuck => True

/-- AN OPERATION that is carried out: what the evaluator makes of it, and what the model asks. -/
theorem oper_sound {G n : Nat} {call : Rec} (hcall : CallOK P G call) (hn : n ≤ 240) {o : Oper} (ho : opOk n G o = true) {e : Env} {a : Act} {d : List Deferred} (r : Rel B w0 β h w) (he : ERel β n e a.tmps) (hg : GRel G β)
    (hd : DsRel β d a.defers) {next : Act → World → Prop} {Q : Exit → Act → World → Prop}
    (hnext : ∀ e' d' h' a' w' β', Sim B w0 β h w β' h' w' → ERel β' n e' a'.tmps → DsRel β' d' a'.defers →
      (match opA P o.type (evalE e) h o.op with
        | .val v h1 => e' = putD e o.dst v ∧ d' = d ∧ h' = h1
        | .call f args h1 => ∃ v h2, call f args h1 = .ret v h2 ∧ e' = putD e o.dst v ∧ d' = d ∧ h' = h2
        | .defer x h1 => e' = putD e o.dst undef ∧ d' = x :: d ∧ h' = h1
        | _ => False) → next a' w')
    (hpan : ∀ v v' h' w' β', Sim B w0 β h w β' h' w' → VRel β' v v' → ERel β' n e a.tmps → DsRel β' d a.defers →
      (match opA P o.type (evalE e) h o.op with
        | .call f args h1 => call f args h1 = .pan v h'
        | .panic u h1 => u = v ∧ h' = h1
        | _ => False) → Q (.panic [{ v := v', recovered := false }]) a w')
    (hok : match opA P o.type (evalE e) h o.op with
      | .call f args h1 => call f args h1 ≠ .stuck
      | .stuck => False
      | _ => True) : o.wp P a w next Q := by
  have hop := opA_sound (P := P) r (ρ := evalE e) (ρ' := a.eval) o fun x hx => evalE_rel he hg (opOk_opd ho x hx)
  unfold Oper.wp
  generalize hA : opA P o.type (evalE e) h o.op = A at hop hnext hpan hok
  generalize (execOp a.eval o).run P w = R at hop
  cases A with
  | val v h' =>
    obtain ⟨v', β', w', hR, hs, hv⟩ := hop
    have hput := ERel.put hn (he.mono hs.ext) (opOk_dst ho) hv
    rcases hR with rfl | ⟨rfl, rfl⟩
    · exact hnext _ _ _ _ _ β' hs hput (by rw [Act.put_ds]; exact hd.mono hs.ext) ⟨rfl, rfl, rfl⟩
    · exact hnext _ _ _ _ _ β' hs hput (by rw [Act.put_ds]; exact hd.mono hs.ext) ⟨rfl, rfl, rfl⟩
  | call f args h' =>
    obtain ⟨rfl, args', hl, rfl⟩ := hop
    have hc := hcall f args h' B w0 β w args' r hg hl
    simp only at hok hnext hpan
    cases hrec : call f args h' with
    | ret v h2 =>
      rw [hrec] at hc
      rcases hc with ⟨v', β', w', hR, hs, hv⟩ | ⟨hR, hcalls⟩
      · rw [hR]
        exact hnext _ _ _ _ _ β' hs (ERel.put hn (he.mono hs.ext) (opOk_dst ho) hv) (by rw [Act.put_ds]; exact hd.mono hs.ext) ⟨v, h2, hrec, rfl, rfl, rfl⟩
      · rw [hR]
        refine Calls.mono hcalls fun e' w' ⟨v', β', he', hs, hv⟩ => ?_
        subst he'
        exact hnext _ _ _ _ _ β' hs (ERel.put hn (he.mono hs.ext) (opOk_dst ho) hv) (by rw [Act.put_ds]; exact hd.mono hs.ext) ⟨v, h2, hrec, rfl, rfl, rfl⟩
    | pan v h2 =>
      rw [hrec] at hc
      obtain ⟨hR, hcalls⟩ := hc
      rw [hR]
      refine Calls.mono hcalls fun e' w' ⟨v', β', he', hs, hv⟩ => ?_
      subst he'
      exact hpan v v' h2 w' β' hs hv (he.mono hs.ext) (hd.mono hs.ext) hrec
    | stuck => exact absurd hrec hok
  | defer x h' =>
    obtain ⟨rfl, x', hx, rfl⟩ := hop
    refine hnext _ _ _ _ _ β (.refl r) (ERel.put hn (a := { a with defers := x' :: a.defers }) he (opOk_dst ho) .undef) ?_ ⟨rfl, rfl, rfl⟩
    rw [Act.put_ds]
    exact .cons hx hd
  | panic v h' =>
    obtain ⟨rfl, v', hv, rfl⟩ := hop
    exact hpan v v' h' w β (.refl r) hv he hd ⟨rfl, rfl⟩
  | stuck => exact hok.elim

theorem Sim.rel' {β' : Beta} {h' : AH} {w' : World} (s : Sim B w0 β h w β' h' w') : Rel B w0 β' h' w' := s.rel

/-- OPERATIONS IN THE ORDER OF THE TEXT. -/
theorem opsA_seq {G n : Nat} {call : Rec} (hcall : CallOK P G call) (hn : n ≤ 240) {ops : Array Oper} (hops : ∀ o ∈ ops.toList, opOk n G o = true) (hr0 : Rel B w0 β h w) (hg : GRel G β) :
    ∀ (l : List Oper) (k : Nat), (∀ j, l[j]? = ops[k + j]?) → ∀ (e : Env) (d : List Deferred) (h1 : AH) (a : Act) (w1 : World) (β1 : Beta),
      Sim B w0 β h w β1 h1 w1 → ERel β1 n e a.tmps → DsRel β1 d a.defers →
      opsA P call (l.map fun o => .op (guardOf ops.toList o) o) e d h1 ≠ .stuck →
      wpOps P ops (QR B w0 n β h w (opsA P call (l.map fun o => .op (guardOf ops.toList o) o) e d h1)) (List.range' k l.length) a w1 := by
  intro l
  induction l with
  | nil => intro k _ e d h1 a w1 β1 hs he hd _; exact ⟨β1, hs, he, hd⟩
  | cons o l ih =>
    intro k hl e d h1 a w1 β1 hs he hd hne
    have h0 : ops[k]? = some o := by simpa using (hl 0).symm
    have hl' : ∀ j, l[j]? = ops[k + 1 + j]? := fun j => by have := hl (j + 1); simpa [Nat.add_assoc, Nat.add_comm 1 j] using this
    have hmem : o ∈ ops.toList := by rw [Array.mem_toList_iff]; exact Array.mem_of_getElem? h0
    have hw := wantG_eq (ops := ops) (fun o ho => opOk_dst (hops o ho)) he o
    simp only [List.map_cons, List.length_cons, List.range'_succ]
    rw [wpOps_cons]
    unfold wpOp
    simp only [h0]
    simp only [List.map_cons] at hne
    rw [← hw]
    cases hg' : wantG (guardOf ops.toList o) e with
    | false =>
      rw [if_neg (by simp)]
      have e1 : opsA P call (Stp.op (guardOf ops.toList o) o :: l.map fun o => .op (guardOf ops.toList o) o) e d h1 = opsA P call (l.map fun o => .op (guardOf ops.toList o) o) (putD e o.dst undef) d h1 := by
        simp only [opsA, hg']
      rw [e1] at hne ⊢
      exact ih _ hl' _ _ _ _ _ _ hs (ERel.put hn he (opOk_dst (hops o hmem)) .undef) (by rw [Act.put_ds]; exact hd) hne
    | true =>
      rw [if_pos rfl]
      refine .inl ?_
      simp only [opsA, hg'] at hne ⊢
      refine oper_sound hcall hn (hops o hmem) hs.rel he (hg.mono hs.ext) hd (fun e' d' h' a' w' β' hs' he' hd' hm => ?_) (fun v v' h' w' β' hs' hv he' hd' hm => ?_) ?_
      · generalize opA P o.type (evalE e) h1 o.op = A at hm hne ⊢
        cases A with
        | val v h2 =>
          obtain ⟨rfl, rfl, rfl⟩ := hm
          exact ih _ hl' _ _ _ _ _ _ (hs.trans hs') he' hd' hne
        | call f args h2 =>
          obtain ⟨v, h3, hc, rfl, rfl, rfl⟩ := hm
          simp only [hc] at hne ⊢
          exact ih _ hl' _ _ _ _ _ _ (hs.trans hs') he' hd' hne
        | defer x h2 =>
          obtain ⟨rfl, rfl, rfl⟩ := hm
          exact ih _ hl' _ _ _ _ _ _ (hs.trans hs') he' hd' hne
        | panic v h2 => exact hm.elim
        | stuck => exact hm.elim
      · generalize opA P o.type (evalE e) h1 o.op = A at hm hne ⊢
        cases A with
        | call f args h2 =>
          simp only at hm
          simp only [hm]
          exact ⟨v', β', rfl, hv, hs.trans hs', .inr he', hd'⟩
        | panic u h2 =>
          obtain ⟨rfl, rfl⟩ := hm
          exact ⟨v', β', rfl, hv, hs.trans hs', .inr he', hd'⟩
        | _ => exact hm.elim
      · generalize opA P o.type (evalE e) h1 o.op = A at hne ⊢
        cases A with
        | call f args h2 =>
          simp only at hne ⊢
          intro hc
          simp only [hc] at hne
          exact hne rfl
        | stuck => exact hne rfl
        | _ => trivial
end
end Go.Ab
/- The evaluator's control against the model's: code, results, deferred calls, calls. -/
namespace Go.Ab
open Go Go.RowKit

section
variable {P : Program} {B : Nat} {w0 : World} {β : Beta} {h : AH} {w : World}

/-- A REGION THAT DRAWS ITS ORDER is served (proved in a text of its own). -/
def DrawOK (P : Program) (G n : Nat) (call : Rec) : Prop := ∀ (id : Nat) (ops : Array Oper) (s : List Stp) (B : Nat) (w0 : World) (β β1 : Beta) (h h1 : AH) (w w1 : World) (e : Env) (d : List Deferred) (a : Act),
  (∀ o ∈ ops.toList, opOk n G o = true) → planOf P ops.toList true = some s → GRel G β → Sim B w0 β h w β1 h1 w1 → ERel β1 n e a.tmps → DsRel β1 d a.defers →
  opsA P call s e d h1 ≠ .stuck → (Code.region id ops true).wp P (QR B w0 n β h w (opsA P call s e d h1)) a w1

theorem QR.not_goto {r : R} {n l : Nat} {a : Act} {w' : World} (q : QR B w0 n β h w r (.goto l) a w') : False := by cases r <;> exact q
theorem QR.not_out {r : R} {n : Nat} {a : Act} {w' : World} (q : QR B w0 n β h w r .outgrown a w') : False := by cases r <;> exact q

theorem codeA_sound {G n : Nat} {call : Rec} (hcall : CallOK P G call) (hdraw : DrawOK P G n call) (hn : n ≤ 240) (hr0 : Rel B w0 β h w) (hg : GRel G β) :
    ∀ (c : Code), codeOk n G c = true → ∀ (e : Env) (d : List Deferred) (h1 : AH) (a : Act) (w1 : World) (β1 : Beta),
      Sim B w0 β h w β1 h1 w1 → ERel β1 n e a.tmps → DsRel β1 d a.defers → codeA P call c e d h1 ≠ .stuck →
      c.wp P (QR B w0 n β h w (codeA P call c e d h1)) a w1 := by
  intro c
  induction c with
  | skip => intro _ e d h1 a w1 β1 hs he hd _; exact wp_skip ⟨β1, hs, he, hd⟩
  | label l => intro _ e d h1 a w1 β1 hs he hd _; exact wp_label ⟨β1, hs, he, hd⟩
  | exit id => intro _ e d h1 a w1 β1 hs he hd _; exact wp_exit ⟨rfl, β1, hs, he, hd⟩
  | ret => intro _ e d h1 a w1 β1 hs he hd _; exact wp_ret ⟨β1, hs, he, hd⟩
  | goto l => intro _ e d h1 a w1 β1 hs he hd hne; exact absurd rfl hne
  | refuse s => intro _ e d h1 a w1 β1 hs he hd hne; exact absurd rfl hne
  | rangeFunc f ps x y => intro _ e d h1 a w1 β1 hs he hd hne; exact absurd rfl hne
  | region id ops draw =>
    intro hok e d h1 a w1 β1 hs he hd hne
    have hops : ∀ o ∈ ops.toList, opOk n G o = true := by
      have : ops.toList.all (opOk n G) = true := hok
      exact List.all_eq_true.1 this
    simp only [codeA] at hne ⊢
    cases hp : planOf P ops.toList draw with
    | none => rw [hp] at hne; exact absurd rfl hne
    | some s =>
      rw [hp] at hne
      simp only at hne ⊢
      cases draw with
      | true => exact hdraw id ops s B w0 β β1 h h1 w w1 e d a hops hp hg hs he hd hne
      | false =>
        simp only [planOf, Option.some.injEq] at hp
        subst hp
        have := opsA_seq hcall hn hops hr0 hg ops.toList 0 (fun j => by simp) e d h1 a w1 β1 hs he hd hne
        rw [Array.length_toList, ← List.range_eq_range'] at this
        exact wp_region this
  | seq x y ihx ihy =>
    intro hok e d h1 a w1 β1 hs he hd hne
    simp only [codeOk, Bool.and_eq_true] at hok
    simp only [codeA] at hne ⊢
    have hx : codeA P call x e d h1 ≠ .stuck := fun hx => by rw [hx] at hne; exact hne rfl
    refine wp_seq (wp_mono (ihx hok.1 e d h1 a w1 β1 hs he hd hx) fun ex a' w' q => ?_)
    generalize codeA P call x e d h1 = r at q hne
    cases r with
    | norm e' d' h' =>
      cases ex <;> first | exact q.elim | skip
      obtain ⟨β', hs', he', hd'⟩ := q
      exact ihy hok.2 e' d' h' a' w' β' hs' he' hd' hne
    | exit i e' d' h' => cases ex <;> first | exact q.elim | exact q
    | ret e' d' h' => cases ex <;> first | exact q.elim | exact q
    | pan v e' d' h' => cases ex <;> first | exact q.elim | exact q
    | stuck => exact q.elim
  | cond x c1 c2 ih1 ih2 =>
    intro hok e d h1 a w1 β1 hs he hd hne
    simp only [codeOk, Bool.and_eq_true] at hok
    have hx := evalE_rel he (hg.mono hs.ext) hok.1.1
    simp only [codeA] at hne ⊢
    generalize evalE e x = v at hx hne
    generalize hv' : a.eval x = v' at hx
    cases hx <;> first | exact absurd rfl hne | skip
    rename_i b
    cases b with
    | true => exact wp_cond_true hv' (ih1 hok.1.2 e d h1 a w1 β1 hs he hd hne)
    | false => exact wp_cond_false hv' (ih2 hok.2 e d h1 a w1 β1 hs he hd hne)
  | block id c ih =>
    intro hok e d h1 a w1 β1 hs he hd hne
    simp only [codeA] at hne ⊢
    have hx : codeA P call c e d h1 ≠ .stuck := fun hx => by rw [hx] at hne; exact hne rfl
    refine wp_block (wp_mono (ih hok e d h1 a w1 β1 hs he hd hx) fun ex a' w' q => ?_)
    generalize codeA P call c e d h1 = r at q hne
    cases r with
    | norm e' d' h' => cases ex <;> first | exact q.elim | exact q
    | exit i e' d' h' =>
      cases ex <;> first | exact q.elim | skip
      rename_i j
      obtain ⟨rfl, q⟩ := q
      simp only [Exit.inBlock]
      cases hb : Nat.beq i id with
      | true =>
        rw [beq_t] at hb
        rw [if_pos hb]
        exact q
      | false =>
        have hb' : ¬ i = id := fun e => by rw [beq_t.2 e] at hb; exact nomatch hb
        rw [if_neg hb']
        exact ⟨rfl, q⟩
    | ret e' d' h' => cases ex <;> first | exact q.elim | exact q
    | pan v e' d' h' => cases ex <;> first | exact q.elim | exact q
    | stuck => exact q.elim
  | scope c ih =>
    intro hok e d h1 a w1 β1 hs he hd hne
    refine wp_scope_straight (wp_mono (ih hok e d h1 a w1 β1 hs he hd hne) fun ex a' w' q => ?_)
    cases ex <;> first | exact q | exact q.not_goto
  | loop c ih =>
    intro hok e d h1 a w1 β1 hs he hd hne b k cs
    have key : ∀ (m : Nat) (e : Env) (d : List Deferred) (h1 : AH) (a : Act) (w1 : World) (β1 : Beta), Sim B w0 β h w β1 h1 w1 → ERel β1 n e a.tmps → DsRel β1 d a.defers →
        iterA (codeA P call c) m e d h1 ≠ .stuck →
        ∃ ex a' w', QR B w0 n β h w (iterA (codeA P call c) m e d h1) ex a' w' ∧ Arrives P (lone (b.at a (.code c :: .inLoop c :: k)) cs w1) b k cs ex a' w' := by
      intro m
      induction m with
      | zero => intro e d h1 a w1 β1 _ _ _ hne; exact absurd rfl hne
      | succ m ihm =>
        intro e d h1 a w1 β1 hs he hd hne
        simp only [iterA] at hne ⊢
        have hx : codeA P call c e d h1 ≠ .stuck := fun hx => by rw [hx] at hne; exact hne rfl
        obtain ⟨ex, a1, w2, q, harr⟩ := ih hok e d h1 a w1 β1 hs he hd hx b (.inLoop c :: k) cs
        generalize codeA P call c e d h1 = r at q hne
        cases r with
        | norm e' d' h' =>
          cases ex <;> first | exact q.elim | skip
          obtain ⟨β', hs', he', hd'⟩ := q
          obtain ⟨ex2, a2, w3, q2, harr2⟩ := ihm e' d' h' a1 w2 β' hs' he' hd' hne
          exact ⟨ex2, a2, w3, q2, .of_steps (Steps.trans harr (.one step_inLoop)) harr2⟩
        | stuck => exact q.elim
        | exit i e' d' h' =>
          cases ex <;> first | exact q.elim | exact ⟨_, a1, w2, q, .pass (x := .inLoop c) rfl (fun _ _ => .inl (by simp)) harr⟩
        | ret e' d' h' =>
          cases ex <;> first | exact q.elim | exact ⟨_, a1, w2, q, .pass (x := .inLoop c) rfl (fun _ _ => .inl (by simp)) harr⟩
        | pan v e' d' h' =>
          cases ex <;> first | exact q.elim | exact ⟨_, a1, w2, q, .pass (x := .inLoop c) rfl (fun _ _ => .inl (by simp)) harr⟩
    obtain ⟨ex, a', w', q, harr⟩ := key 100000 e d h1 a w1 β1 hs he hd hne
    exact ⟨ex, a', w', q, .of_steps (.one step_loop) harr⟩

/-! ## Results -/

/-- a result variable's value -/
def resF (a : Array Value) : ResultVar → Sem Value
  | .tmp t => pure (a.getD t undef)
  | .cell c t => do loadVar t (← asAddr (a.getD c undef))
theorem results_eq (fn : Func) (a : Array Value) : results fn a = (do let vs ← fn.results.mapM (resF a); pure (if h : vs.size = 1 then vs[0] else .tuple vs)) := by
  unfold results
  rfl

theorem resOf_run {n : Nat} {e : Env} {a : Array Value} (r : Rel B w0 β h w) (he : ERel β n e a) : ∀ (l : List ResultVar) (vs : List Value), resOk n l = true → resOf P e h l = some vs →
    ∃ vs' : List Value, (l.mapM (resF a)).run P w = .ok vs' w ∧ LRel β vs vs'
  | [], vs, _, hv => by cases hv; exact ⟨[], rfl, .nil β⟩
  | .tmp t :: l, vs, hok, hv => by
    simp only [resOk, List.all_cons, Bool.and_eq_true] at hok
    simp only [resOf] at hv
    split at hv
    · rename_i r' hr'
      cases hv
      obtain ⟨vs', h1, h2⟩ := resOf_run r he l r' hok.2 hr'
      exact ⟨a.getD t undef :: vs', by simp only [List.mapM_cons, resF, Sem.run_bind, Sem.run_pure, Result.andThen_ok, h1], .cons (he.2 t (blt_t.1 hok.1)) h2⟩
    · exact nomatch hv
  | .cell c t :: l, vs, hok, hv => by
    simp only [resOk, List.all_cons, Bool.and_eq_true] at hok
    simp only [resOf] at hv
    split at hv
    · rename_i b m hb hm
      split at hv
      · rename_i v r' hv' hr'
        cases hv
        obtain ⟨vs', h1, h2⟩ := resOf_run r he l r' hok.2 hr'
        obtain ⟨ad, v', g0, g1, g2⟩ := loadS_sound (P := P) r hb hm (he.2 c (blt_t.1 hok.1)) hv'
        refine ⟨v' :: vs', ?_, .cons g2 h2⟩
        simp only [List.mapM_cons, resF, g0, asAddr, Sem.run_bind, Sem.run_pure, Result.andThen_ok, g1, h1]
      · exact nomatch hv
    · exact nomatch hv

theorem resA_sound {n : Nat} {e : Env} {a : Array Value} {fn : Func} {v : Value} (r : Rel B w0 β h w) (he : ERel β n e a) (hok : resOk n fn.results.toList = true) (hv : resA P fn.results.toList e h = some v) :
    ∃ v', (results fn a).run P w = .ok v' w ∧ VRel β v v' := by
  unfold resA at hv
  cases hl : resOf P e h fn.results.toList with
  | none => rw [hl] at hv; exact nomatch hv
  | some vs =>
    rw [hl] at hv
    obtain ⟨vs', h1, h2⟩ := resOf_run (P := P) r he _ vs hok hl
    have hrun : (results fn a).run P w = .ok (if h : vs'.length = 1 then vs'[0] else .tuple ⟨vs'⟩) w := by
      rw [results_eq, Array.mapM_eq_mapM_toList]
      rw [Sem.run_bind, Sem.run_map, h1]
      simp
    refine ⟨_, hrun, ?_⟩
    have hlen := h2.1
    split at hv
    · rename_i v1 heq
      cases heq
      cases hv
      rw [dif_pos (by simpa using hlen.symm)]
      have := h2.2 0 (by simp)
      cases vs' with
      | nil => simp at hlen
      | cons x xs => exact this
    · rename_i l hne heq
      cases heq
      cases hv
      rw [dif_neg]
      · exact .tuple h2.1 h2.2
      · intro h1
        rw [← hlen] at h1
        cases vs with
        | nil => simp at h1
        | cons x xs =>
          cases xs with
          | nil => exact hne x rfl
          | cons y ys => simp at h1
    · rename_i heq; exact nomatch heq
end
end Go.Ab
/- The evaluator's control against the model's: deferred calls, calls. -/
namespace Go.Ab
open Go Go.RowKit

section
variable {P : Program} {B : Nat} {w0 : World} {β : Beta} {h : AH} {w : World}

/-- a panic that is under way in the caller, recovered or not, and the caller's mode -/
inductive PM (β : Beta) : Option (Value × Bool) → FrameMode → Prop
  | none : PM β none .returning
  | some {v v' : Value} (b : Bool) : VRel β v v' → PM β (some (v, b)) (.panicking [{ v := v', recovered := b }])

theorem PM.mono {β' : Beta} (hβ : BLe β β') {p : Option (Value × Bool)} {u : FrameMode} (r : PM β p u) : PM β' p u := by
  cases r with
  | none => exact .none
  | some b hv => exact .some b (hv.mono hβ)

def QD (B : Nat) (w0 : World) (n : Nat) (β : Beta) (h : AH) (w : World) (c₀ : Frame) (cs : List Frame) : RD → Exit → Act → List Frame → World → Prop
  | .mk r p, ex, a, cs', w' => QR B w0 n β h w r ex a w' ∧ ∃ u, cs' = { c₀ with mode := u } :: cs ∧ PM β p u

def RD.r : RD → R
  | .mk r _ => r

theorem hasRecover_not {ops : List Oper} (hr : hasRecover ops = false) : True := trivial

theorem isRecover_run {ρ : Operand → Value} {o : Oper} {c : Call} (ho : o.op = .call c) (hc : c.callee = .builtin .recover) (w : World) : (execOp ρ o).run P w = .ok .recover w := by
  unfold execOp
  simp [ho, resolve, hc, invoke, builtin]

/-- OPERATIONS OF A DEFERRED CALL, recover among them. -/
theorem opsD_sound {G n : Nat} (hn : n ≤ 240) {ops : Array Oper} (hops : ∀ o ∈ ops.toList, opOk n G o = true) (hg : GRel G β) (c₀ : Frame) (cs : List Frame) :
    ∀ (l : List Oper) (k : Nat), (∀ j, l[j]? = ops[k + j]?) → ∀ (e : Env) (d : List Deferred) (h1 : AH) (a : Act) (w1 : World) (β1 : Beta) (p : Option (Value × Bool)) (u : FrameMode),
      Sim B w0 β h w β1 h1 w1 → ERel β1 n e a.tmps → DsRel β1 d a.defers → PM β p u → (opsD P ops.toList l e d h1 p).r ≠ .stuck →
      wpOpsS P ops (QD B w0 n β h w c₀ cs (opsD P ops.toList l e d h1 p)) (List.range' k l.length) a ({ c₀ with mode := u } :: cs) w1 := by
  intro l
  induction l with
  | nil => intro k _ e d h1 a w1 β1 p u hs he hd hp _; exact ⟨⟨β1, hs, he, hd⟩, u, rfl, hp⟩
  | cons o l ih =>
    intro k hl e d h1 a w1 β1 p u hs he hd hp hne
    have h0 : ops[k]? = some o := by simpa using (hl 0).symm
    have hl' : ∀ j, l[j]? = ops[k + 1 + j]? := fun j => by have := hl (j + 1); simpa [Nat.add_assoc, Nat.add_comm 1 j] using this
    have hmem : o ∈ ops.toList := by rw [Array.mem_toList_iff]; exact Array.mem_of_getElem? h0
    have hw := wantG_eq (ops := ops) (fun o ho => opOk_dst (hops o ho)) he o
    simp only [List.length_cons, List.range'_succ, wpOpsS, h0]
    rw [← hw]
    cases hg' : wantG (guardOf ops.toList o) e with
    | false =>
      rw [if_neg (by simp)]
      simp only [opsD, hg'] at hne ⊢
      exact ih _ hl' _ _ _ _ _ _ _ _ hs (ERel.put hn he (opOk_dst (hops o hmem)) .undef) (by rw [Act.put_ds]; exact hd) hp hne
    | true =>
      rw [if_pos rfl]
      simp only [opsD, hg'] at hne ⊢
      split at hne
      · rename_i args ts heq
        rw [isRecover_run heq rfl]
        simp only [heq] at hne ⊢
        cases hp with
        | none =>
          simp only [recoverD] at hne ⊢
          exact ih _ hl' _ _ _ _ _ _ _ _ hs (ERel.put hn he (opOk_dst (hops o hmem)) .nilIface) (by rw [Act.put_ds]; exact hd) .none hne
        | some b hv =>
          cases b with
          | true =>
            simp only [recoverD] at hne ⊢
            exact ih _ hl' _ _ _ _ _ _ _ _ hs (ERel.put hn he (opOk_dst (hops o hmem)) .nilIface) (by rw [Act.put_ds]; exact hd) (.some true hv) hne
          | false =>
            simp only [recoverD] at hne ⊢
            exact ih _ hl' _ _ _ _ _ _ _ _ hs (ERel.put hn he (opOk_dst (hops o hmem)) (hv.mono hs.ext)) (by rw [Act.put_ds]; exact hd) (.some true hv) hne
      · rename_i op hnot
        have hop := opA_sound (P := P) hs.rel (ρ := evalE e) (ρ' := a.eval) o fun x hx => evalE_rel he (hg.mono hs.ext) (opOk_opd (hops o hmem) x hx)
        cases hA : opA P o.type (evalE e) h1 o.op with
        | val v h2 =>
          rw [hA] at hop hne
          simp only [hA]
          simp only at hne
          obtain ⟨v', β', w', hR, hs', hv⟩ := hop
          have hput := ERel.put hn (he.mono hs'.ext) (opOk_dst (hops o hmem)) hv
          rcases hR with hR | ⟨hR, rfl⟩
          · simp only [hR, Oper.upon]
            exact ih _ hl' _ _ _ _ _ _ _ _ (hs.trans hs') hput (by rw [Act.put_ds]; exact hd.mono hs'.ext) hp hne
          · simp only [hR, Oper.upon]
            exact ih _ hl' _ _ _ _ _ _ _ _ (hs.trans hs') hput (by rw [Act.put_ds]; exact hd.mono hs'.ext) hp hne
        | _ => rw [hA] at hne; exact absurd rfl hne

theorem codeD_sound {G n : Nat} {call : Rec} (hcall : CallOK P G call) (hdraw : DrawOK P G n call) (hn : n ≤ 240) (hr0 : Rel B w0 β h w) (hg : GRel G β) (c₀ : Frame) (cs : List Frame) :
    ∀ (c : Code), codeOk n G c = true → ∀ (e : Env) (d : List Deferred) (h1 : AH) (a : Act) (w1 : World) (β1 : Beta) (p : Option (Value × Bool)) (u : FrameMode),
      Sim B w0 β h w β1 h1 w1 → ERel β1 n e a.tmps → DsRel β1 d a.defers → PM β p u → (codeD P call c e d h1 p).r ≠ .stuck →
      c.wpS P (QD B w0 n β h w c₀ cs (codeD P call c e d h1 p)) a ({ c₀ with mode := u } :: cs) w1 := by
  have plain : ∀ (c : Code), codeOk n G c = true → ∀ (e : Env) (d : List Deferred) (h1 : AH) (a : Act) (w1 : World) (β1 : Beta) (p : Option (Value × Bool)) (u : FrameMode),
      Sim B w0 β h w β1 h1 w1 → ERel β1 n e a.tmps → DsRel β1 d a.defers → PM β p u → codeA P call c e d h1 ≠ .stuck →
      c.wpS P (QD B w0 n β h w c₀ cs (.mk (codeA P call c e d h1) p)) a ({ c₀ with mode := u } :: cs) w1 := by
    intro c hok e d h1 a w1 β1 p u hs he hd hp hne
    exact wpS_of_wp (wp_mono (codeA_sound hcall hdraw hn hr0 hg c hok e d h1 a w1 β1 hs he hd hne) fun ex a' w' q => ⟨q, u, rfl, hp⟩)
  intro c
  induction c with
  | seq x y ihx ihy =>
    intro hok e d h1 a w1 β1 p u hs he hd hp hne
    simp only [codeOk, Bool.and_eq_true] at hok
    simp only [codeD] at hne ⊢
    cases hx : codeD P call x e d h1 p with
    | mk r p1 =>
      rw [hx] at hne
      have hx' : (codeD P call x e d h1 p).r ≠ .stuck := fun hh => by
        rw [hx] at hh
        simp only [RD.r] at hh
        rw [hh] at hne
        exact hne rfl
      have ih := ihx hok.1 e d h1 a w1 β1 p u hs he hd hp hx'
      rw [hx] at ih
      refine wpS_seq ?_
      intro b k hb hro
      obtain ⟨ex, a', cs', w', ⟨q, u', rfl, hp'⟩, harr⟩ := ih b k hb hro
      refine ⟨ex, a', _, w', ?_, harr⟩
      cases r with
      | norm e' d' h' =>
        cases ex <;> first | exact q.elim | skip
        obtain ⟨β', hs', he', hd'⟩ := q
        exact ihy hok.2 e' d' h' a' w' β' p1 u' hs' he' hd' hp' hne
      | exit i e' d' h' => cases ex <;> first | exact q.elim | exact ⟨q, u', rfl, hp'⟩
      | ret e' d' h' => cases ex <;> first | exact q.elim | exact ⟨q, u', rfl, hp'⟩
      | pan v e' d' h' => cases ex <;> first | exact q.elim | exact ⟨q, u', rfl, hp'⟩
      | stuck => exact q.elim
  | cond x c1 c2 ih1 ih2 =>
    intro hok e d h1 a w1 β1 p u hs he hd hp hne
    simp only [codeOk, Bool.and_eq_true] at hok
    have hx := evalE_rel he (hg.mono hs.ext) hok.1.1
    simp only [codeD] at hne ⊢
    generalize evalE e x = v at hx hne
    generalize hv' : a.eval x = v' at hx
    cases hx <;> first | exact absurd rfl hne | skip
    rename_i b
    cases b with
    | true => exact wpS_cond hv' (ih1 hok.1.2 e d h1 a w1 β1 p u hs he hd hp hne)
    | false => exact wpS_cond hv' (ih2 hok.2 e d h1 a w1 β1 p u hs he hd hp hne)
  | region id ops draw =>
    intro hok e d h1 a w1 β1 p u hs he hd hp hne
    have hops : ∀ o ∈ ops.toList, opOk n G o = true := by
      have : ops.toList.all (opOk n G) = true := hok
      exact List.all_eq_true.1 this
    cases hrec : hasRecover ops.toList with
    | false =>
      simp only [codeD, hrec] at hne ⊢
      exact plain _ hok e d h1 a w1 β1 p u hs he hd hp hne
    | true =>
      cases draw with
      | true => simp only [codeD, hrec] at hne; exact absurd rfl hne
      | false =>
        simp only [codeD, hrec] at hne ⊢
        have := opsD_sound (P := P) hn hops hg c₀ cs ops.toList 0 (fun j => by simp) e d h1 a w1 β1 p u hs he hd hp hne
        rw [Array.length_toList, ← List.range_eq_range'] at this
        exact wpS_region this
  | _ =>
    intro hok e d h1 a w1 β1 p u hs he hd hp hne
    exact plain _ hok e d h1 a w1 β1 p u hs he hd hp hne

/-! ## Calls -/

theorem bodyOf_eq {f : FuncId} {b : FB} (hb : bodyOf P f = some b) : ∃ fn, P.funcs[f]? = some fn ∧ fn.body = some b.code ∧ fn.ntmps = b.n ∧ fn.results.toList = b.res ∧
    b.n ≤ 240 ∧ codeOk b.n P.globals.size b.code = true ∧ resOk b.n b.res = true ∧ (fn.name == "runtime.NumGoroutine") = false := by
  unfold bodyOf at hb
  rw [Array.getElem?_toList] at hb
  split at hb
  · rename_i fn hf
    split at hb
    · rename_i c hc
      split at hb
      · rename_i hok
        cases hb
        simp only [Bool.and_eq_true, ble_t, bne] at hok
        exact ⟨fn, hf, hc, rfl, rfl, hok.1.1.1, hok.1.1.2, hok.1.2, by simpa using hok.2⟩
      · exact nomatch hb
    · exact nomatch hb
  · exact nomatch hb

theorem callFunc_enter {f : FuncId} {fn : Func} {c : Code} (hf : P.funcs[f]? = some fn) (hb : fn.body = some c) (hn : (fn.name == "runtime.NumGoroutine") = false) (args : Array Value) (w : World) :
    (callFunc f args).run P w = .ok (.enter f args) w := by
  have hn' : ¬ fn.name = "runtime.NumGoroutine" := by simpa using hn
  unfold callFunc
  simp [hf, hb, hn']

theorem envFrom_get : ∀ (l : List Value) (i : Nat) (e : Env) (t : Nat), t < 240 → i + l.length ≤ 240 → (ea t).get (envFrom i l e) = if i ≤ t ∧ t < i + l.length then l.getD (t - i) undef else (ea t).get e
  | [], i, e, t, ht, hl => by
    rw [if_neg (by simp only [List.length_nil]; omega)]; rfl
  | v :: l, i, e, t, ht, hl => by
    simp only [List.length_cons] at hl
    rw [envFrom, envFrom_get l (i + 1) _ t ht (by omega)]
    simp only [List.length_cons]
    by_cases h1 : i + 1 ≤ t ∧ t < i + 1 + l.length
    · rw [if_pos h1, if_pos (by omega), show t - i = (t - (i + 1)) + 1 by omega]; rfl
    · rw [if_neg h1]
      by_cases h2 : t = i
      · subst h2
        rw [if_pos (by omega), Nat.sub_self, ea_same _ _ _ ht]; rfl
      · rw [if_neg (by omega), ea_other _ _ _ _ ht (by omega) h2]

theorem frame_rel {n : Nat} {args args' : List Value} (hn : n ≤ 240) (ha : LRel β args args') (hl : args.length ≤ n) : ERel β n (envFrom 0 args env0) (⟨args'⟩ ++ Array.replicate (n - (⟨args'⟩ : Array Value).size) undef) := by
  have hlen := ha.1
  refine ⟨by simp; omega, fun t ht => ?_⟩
  rw [envFrom_get _ _ _ _ (by omega) (by omega)]
  rw [Array.getD_eq_getD_getElem?, Array.getElem?_append]
  by_cases h1 : t < args.length
  · rw [if_pos (by omega), if_pos (by simp; omega)]
    have := ha.2 t h1
    simpa [List.getD] using this
  · rw [if_neg (by omega), if_neg (by simp; omega), ea_env0 _ (by omega)]
    have e1 : ((Array.replicate (n - (⟨args'⟩ : Array Value).size) undef)[t - (⟨args'⟩ : Array Value).size]?).getD undef = undef := by
      rw [Array.getElem?_replicate]
      split <;> rfl
    rw [e1]
    exact .undef

/-- What a call comes to. -/
def CR (B : Nat) (w0 : World) (β : Beta) (h : AH) (w : World) : C → Ending → World → Prop
  | .ret v h', e, w' => ∃ v' β', e = .returned v' ∧ Sim B w0 β h w β' h' w' ∧ VRel β' v v'
  | .pan v h', e, w' => ∃ v' β', e = .panicked [{ v := v', recovered := false }] ∧ Sim B w0 β h w β' h' w' ∧ VRel β' v v'
  | .stuck, _, _ => False

/-- the panic that stays under way -/
def pnext : Option (Value × Bool) → Option Value
  | some (v, false) => some v
  | _ => none
/-- what a deferred call leaves, and on -/
noncomputable def leaveK (P : Program) (call : Rec) (rs : List ResultVar) (e : Env) (ds : List Deferred) (b : FB) : RD → C
  | .mk r p' => match r with
    | .norm e' [] h' => match resA P b.res e' h' with
      | some _ => leaveA P call rs e ds (pnext p') h'
      | none => .stuck
    | .ret e' [] h' => match resA P b.res e' h' with
      | some _ => leaveA P call rs e ds (pnext p') h'
      | none => .stuck
    | _ => .stuck
theorem leaveA_cons (call : Rec) (rs : List ResultVar) (e : Env) (x : Deferred) (ds : List Deferred) (p : Option Value) (h : AH) :
    leaveA P call rs e (x :: ds) p h = match x.target with
      | .fn (.func f) ⟨captured⟩ => match bodyOf P f with
        | some b => match Nat.ble ((x.args.toList ++ captured).length) b.n with
          | true => leaveK P call rs e ds b (codeD P call b.code (envFrom 0 (x.args.toList ++ captured) env0) [] h (p.map fun v => (v, false)))
          | false => .stuck
        | none => .stuck
      | _ => .stuck := by
  have key : ∀ (b : FB) (rd : RD), (match rd with
      | .mk r p' => match r with
        | .norm e' [] h' => match resA P b.res e' h' with
          | some _ => leaveA P call rs e ds (match p' with | some (v, false) => some v | _ => none) h'
          | none => .stuck
        | .ret e' [] h' => match resA P b.res e' h' with
          | some _ => leaveA P call rs e ds (match p' with | some (v, false) => some v | _ => none) h'
          | none => .stuck
        | _ => .stuck : C) = leaveK P call rs e ds b rd := fun b rd => by
    obtain ⟨r, p'⟩ := rd
    rcases p' with _ | ⟨v, _ | _⟩ <;> rfl
  cases p <;> (simp only [leaveA, key]; rfl)

theorem leaveA_sound {n : Nat} {call : Rec} (hcall : CallOK P P.globals.size call) (hdraw : ∀ n, n ≤ 240 → DrawOK P P.globals.size n call) (hg : GRel P.globals.size β)
    {fn : Func} (hres : resOk n fn.results.toList = true) {e : Env} {tmps : Array Value} : ∀ (ds ds' : List Deferred) (p : Option Value) (u : FrameMode) (h1 : AH) (w1 : World) (β1 : Beta),
      Sim B w0 β h w β1 h1 w1 → DsRel β1 ds ds' → PM β1 (p.map fun v => (v, false)) u → ERel β1 n e tmps → leaveA P call fn.results.toList e ds p h1 ≠ .stuck →
      Leaves P fn tmps (CR B w0 β h w (leaveA P call fn.results.toList e ds p h1)) ds' u w1 := by
  intro ds
  induction ds with
  | nil =>
    intro ds' p u h1 w1 β1 hs hd hp he hne
    cases hd
    cases p with
    | none =>
      cases hp
      simp only [leaveA] at hne ⊢
      cases hr : resA P fn.results.toList e h1 with
      | none => rw [hr] at hne; exact absurd rfl hne
      | some v =>
        obtain ⟨v', k1, k2⟩ := resA_sound (P := P) hs.rel he hres hr
        exact ⟨v', k1, v', β1, rfl, hs, k2⟩
    | some v =>
      cases hp with
      | some b hv => exact ⟨_, β1, rfl, hs, hv⟩
  | cons x ds ih =>
    intro ds' p u h1 w1 β1 hs hd hp he hne
    cases hd with
    | cons hx hd =>
      rename_i x' ds'
      obtain ⟨fv, c, c', ht, ht', hc, hargs⟩ := hx
      have hrun : u ≠ .run := by cases p <;> cases hp <;> simp
      rw [leaveA_cons] at hne ⊢
      simp only [ht] at hne ⊢
      cases fv <;> first | exact absurd rfl hne | skip
      rename_i f
      simp only at hne ⊢
      cases hb : bodyOf P f with
      | none => rw [hb] at hne; exact absurd rfl hne
      | some b =>
        rw [hb] at hne
        simp only at hne ⊢
        obtain ⟨fn', g1, g2, g3, g4, g5, g6, g7, g8⟩ := bodyOf_eq hb
        cases hle : Nat.ble (x.args.toList ++ c).length b.n with
        | false => rw [hle] at hne; exact absurd rfl hne
        | true =>
          rw [hle] at hne
          rw [ble_t] at hle
          simp only at hne ⊢
          have hargs' : LRel β1 (x.args.toList ++ c) (x'.args.toList ++ c') := hargs.append hc
          have hfr := frame_rel (β := β1) g5 hargs' hle
          refine ⟨hrun, _, _, f, ⟨x'.args.toList ++ c'⟩, ht', ?_, ?_⟩
          · rw [ht']
            simp only [invoke]
            rw [callFunc_enter g1 g2 g8]
            congr 2
            apply Array.ext'
            simp
          · refine callsD_of_wpS g1 g2 fun c₀ cs hc₀ => ?_
            have hcs : (c₀ :: cs) = { c₀ with mode := u } :: cs := by subst hc₀; rfl
            rw [hcs, g3]
            generalize p.map (fun v => (v, false)) = q at hp hne ⊢
            have hne' : (codeD P call b.code (envFrom 0 (x.args.toList ++ c) env0) [] h1 q).r ≠ .stuck := fun hh => by
              cases hcd : codeD P call b.code (envFrom 0 (x.args.toList ++ c) env0) [] h1 q with
              | mk r p' =>
                rw [hcd] at hh hne
                simp only [RD.r] at hh
                rw [hh] at hne
                exact hne rfl
            have hs1 : Sim B w0 β1 h1 w1 β1 h1 w1 := .refl hs.rel
            have hcode := codeD_sound hcall (hdraw _ g5) g5 hs.rel (hg.mono hs.ext) c₀ cs b.code g6 (envFrom 0 (x.args.toList ++ c) env0) [] h1
              { tmps := ⟨x'.args.toList ++ c'⟩ ++ Array.replicate (b.n - (⟨x'.args.toList ++ c'⟩ : Array Value).size) undef, defers := [] } w1 β1 q u hs1 hfr .nil hp hne'
            intro bb k hbk hro
            obtain ⟨ex, a', cs', w', hQ, harr⟩ := hcode bb k hbk hro
            refine ⟨ex, a', cs', w', ?_, harr⟩
            cases hcd : codeD P call b.code (envFrom 0 (x.args.toList ++ c) env0) [] h1 q with
            | mk r p' =>
              rw [hcd] at hQ hne
              obtain ⟨hQ, u', rfl, hp'⟩ := hQ
              have settle_pm : PM β1 ((pnext p').map fun v => (v, false)) (settle u') := by
                cases hp' with
                | none => exact .none
                | some b hv => cases b with
                  | true => exact .none
                  | false => exact .some false hv
              have fin : ∀ (e' : Env) (h' : AH), GoOn B w0 b.n β1 h1 w1 e' [] h' a' w' → (∃ v, resA P b.res e' h' = some v) →
                  leaveA P call fn.results.toList e ds (pnext p') h' ≠ .stuck →
                  a'.defers = [] ∧ ∃ u'', ({ c₀ with mode := u' } : Frame) :: cs = { c₀ with mode := u'' } :: cs ∧ ∃ v, (results fn' a'.tmps).run P w' = .ok v w' ∧
                    Leaves P fn tmps (CR B w0 β h w (leaveA P call fn.results.toList e ds (pnext p') h')) ds' (settle u'') w' := by
                intro e' h' ⟨β', hs', he', hd'⟩ ⟨v, hv⟩ hne2
                obtain ⟨v', k1, _⟩ := resA_sound (P := P) (fn := fn') hs'.rel he' (by rw [g4]; exact g7) (by rw [g4]; exact hv)
                refine ⟨?_, u', rfl, v', k1, ?_⟩
                · generalize a'.defers = dd at hd'
                  cases hd'; rfl
                · exact ih _ _ _ h' w' β' (hs.trans hs') (hd.mono hs'.ext) (settle_pm.mono hs'.ext) (he.mono hs'.ext) hne2
              cases r with
              | norm e' d' h' =>
                cases ex <;> first | exact hQ.elim | skip
                cases d' with
                | cons _ _ => exact absurd rfl hne
                | nil =>
                  simp only [leaveK] at hne ⊢
                  cases hres' : resA P b.res e' h' with
                  | none => rw [hres'] at hne; exact absurd rfl hne
                  | some v =>
                    rw [hres'] at hne
                    exact fin e' h' hQ ⟨v, hres'⟩ hne
              | ret e' d' h' =>
                cases ex <;> first | exact hQ.elim | skip
                cases d' with
                | cons _ _ => exact absurd rfl hne
                | nil =>
                  simp only [leaveK] at hne ⊢
                  cases hres' : resA P b.res e' h' with
                  | none => rw [hres'] at hne; exact absurd rfl hne
                  | some v =>
                    rw [hres'] at hne
                    exact fin e' h' hQ ⟨v, hres'⟩ hne
              | exit i e' d' h' => exact absurd rfl hne
              | pan v e' d' h' => exact absurd rfl hne
              | stuck => exact absurd rfl hne

theorem callB_body {call : Rec} (hcall : CallOK P P.globals.size call) (hdraw : ∀ n, n ≤ 240 → DrawOK P P.globals.size n call) (r : Rel B w0 β h w) (hg : GRel P.globals.size β) {f : FuncId} {b : FB} (hb : bodyOf P f = some b)
    {args args' : List Value} (ha : LRel β args args') (hne : callB P call f args h ≠ .stuck) :
    (callFunc f ⟨args'⟩).run P w = .ok (.enter f ⟨args'⟩) w ∧ Calls P f ⟨args'⟩ w (CR B w0 β h w (callB P call f args h)) := by
  obtain ⟨fn, g1, g2, g3, g4, g5, g6, g7, g8⟩ := bodyOf_eq hb
  refine ⟨callFunc_enter g1 g2 g8 _ _, calls_of_wp_defers g1 g2 ?_⟩
  unfold callB at hne ⊢
  simp only [hb] at hne ⊢
  cases hle : Nat.ble args.length b.n with
  | false => rw [hle] at hne; exact absurd rfl hne
  | true =>
    rw [hle] at hne
    rw [ble_t] at hle
    simp only at hne ⊢
    have hfr := frame_rel (β := β) g5 ha hle
    rw [g3]
    have hne' : codeA P call b.code (envFrom 0 args env0) [] h ≠ .stuck := fun hh => by rw [hh] at hne; exact hne rfl
    refine wp_mono (codeA_sound hcall (hdraw _ g5) g5 r hg b.code g6 (envFrom 0 args env0) [] h _ w β (.refl r) hfr .nil hne') fun ex a' w' q => ?_
    generalize codeA P call b.code (envFrom 0 args env0) [] h = rr at q hne
    have fin : ∀ (e' : Env) (d' : List Deferred) (h' : AH) (p : Option Value) (u : FrameMode), (∃ β', Sim B w0 β h w β' h' w' ∧ ERel β' b.n e' a'.tmps ∧ DsRel β' d' a'.defers ∧ PM β' (p.map fun v => (v, false)) u) →
        leaveA P call b.res e' d' p h' ≠ .stuck → Leaves P fn a'.tmps (CR B w0 β h w (leaveA P call b.res e' d' p h')) a'.defers u w' := by
      intro e' d' h' p u ⟨β', hs', he', hd', hp'⟩ hne2
      rw [← g4] at hne2 ⊢
      exact leaveA_sound hcall hdraw hg (by rw [g4]; exact g7) d' a'.defers p u h' w' β' hs' hd' hp' he' hne2
    cases rr with
    | norm e' d' h' =>
      cases ex <;> first | exact q.elim | skip
      obtain ⟨β', k1, k2, k3⟩ := q
      exact fin e' d' h' none .returning ⟨β', k1, k2, k3, .none⟩ hne
    | ret e' d' h' =>
      cases ex <;> first | exact q.elim | skip
      obtain ⟨β', k1, k2, k3⟩ := q
      exact fin e' d' h' none .returning ⟨β', k1, k2, k3, .none⟩ hne
    | pan v e' d' h' =>
      cases ex <;> first | exact q.elim | skip
      obtain ⟨v', β', rfl, k0, k1, k2, k3⟩ := q
      rcases k2 with rfl | k2
      · cases hdd : a'.defers with
        | nil =>
          simp only [bodyPostD, hdd]
          exact ⟨v', β', rfl, k1, k0⟩
        | cons x l => rw [hdd] at k3; cases k3
      exact fin e' d' h' (some v) (.panicking [{ v := v', recovered := false }]) ⟨β', k1, k2, k3, .some false k0⟩ hne
    | exit i e' d' h' => exact absurd rfl hne
    | stuck => exact absurd rfl hne
end
end Go.Ab
/- New blocks, wherever in the evaluator's heap they lie: what a region needs whose order is drawn. -/
namespace Go.Ab
open Go Go.RowKit

section
variable {P : Program} {B : Nat} {w0 : World} {β : Beta} {h : AH} {w : World}

/-- What makes a new block on both sides. -/
def NewOK (β : Beta) (w : World) (R : Result Next) (ok : Option Blk) (K : Addr → Value) : Prop :=
  ∀ k, ok = some k → ∃ (w1 : World) (o : Obj) (n : Nat) (v' : Value), (w1.heap = w.heap ∧ w1.os = w.os ∧ w1.tape = w.tape ∧ w1.output = w.output) ∧ R = .ok (.value v') (w1.alloc o) ∧ BW k ∧
    ∀ (β' : Beta) (b : Nat), BLe β β' → β' b = some ⟨w1.heap.size, 0, n⟩ → BRel β' k ⟨w1.heap.size, 0, n⟩ (w1.alloc o) ∧ VRel β' (K ⟨b, 0, none⟩) v'

theorem newF_of {w1 : World} (hw1 : w1.heap = w.heap ∧ w1.os = w.os ∧ w1.tape = w.tape ∧ w1.output = w.output) {ok : Option Blk} {cs : List Value} (hk : Holds ok cs) (full : Array Value) (el : TypeId) (fr : Nat × Nat) (hfr : NF fr full.size)
    (hle : cs.length ≤ full.size) (hrel : ∀ i, i < cs.length → flat (cs.getD i undef) = true ∧ VRel β (cs.getD i undef) (full.getD i undef)) (K : Addr → Value) {R : Result Next} {v' : Value}
    (hR : R = .ok (.value v') (w1.alloc (.cells full el fr)))
    (hv : ∀ (β' : Beta) (b : Nat), β' b = some ⟨w1.heap.size, 0, full.size⟩ → BLe β β' → VRel β' (K ⟨b, 0, none⟩) v') : NewOK β w R ok K := by
  intro k hok
  obtain ⟨g1, g2, g3, g4, g5⟩ := hk k hok
  refine ⟨w1, .cells full el fr, full.size, v', hw1, hR, g2, fun β' b hle' hb => ⟨?_, hv β' b hb hle'⟩⟩
  apply BRel.of_cells g4
  refine ⟨by simp only; omega, full, el, fr, by rw [alloc_heap, if_pos rfl], rfl, fun _ => hfr, fun i hi => ?_⟩
  rw [g1] at hi
  rw [g5 i hi]
  obtain ⟨q1, q2⟩ := hrel i hi
  refine ⟨q1, ?_⟩
  show VRel _ _ (full.getD (0 + i) undef)
  rw [Nat.zero_add]
  exact q2.mono hle'

theorem newB_of {ok : Option Blk} {cs : List Value} (hk : Holds ok cs) (full : Array Value) (el : TypeId)
    (hle : cs.length ≤ full.size) (hrel : ∀ i, i < cs.length → flat (cs.getD i undef) = true ∧ VRel β (cs.getD i undef) (full.getD i undef)) (K : Addr → Value) {R : Result Next} {v' : Value}
    (hR : R = .ok (.value v') (w.alloc (.cells full el)))
    (hv : ∀ (β' : Beta) (b : Nat), β' b = some ⟨w.heap.size, 0, full.size⟩ → BLe β β' → VRel β' (K ⟨b, 0, none⟩) v') : NewOK β w R ok K :=
  newF_of ⟨rfl, rfl, rfl, rfl⟩ hk full el (0, 0) (.inl rfl) hle hrel K hR hv

theorem alloc_new {e : TypeId} {z : List Value} (hz : zeroL P e = some z) :
    NewOK β w ((do pure (Next.value (← Instr.alloc e true (.tuple #[]))) : Sem Next).run P w) (bnew z) (fun a => .pointer (some a)) := by
  obtain ⟨i, zv, g1, g2, g3, g4, g5⟩ := zeroL_info hz
  have hsz : z.length = zv.cells.size := by rw [← g3]; simp
  refine newB_of (.new z) zv.cells e (by omega) (fun j hj => ⟨g5 j hj, ?_⟩) (fun a => .pointer (some a)) (v' := .pointer (some ⟨w.heap.size, 0, none⟩)) ?_ (fun β' b hb _ => by have := VRel.ptr (o := 0) hb; exact this)
  · rw [getD_toList, g3]; exact (g4 β).2 j hj
  · simp [Instr.alloc, zeroValue, typeInfo, g1, g2, newVar, newRow]

theorem boxA_new {e : TypeId} {x x' : Value} {l : List Value} (hx : VRel β x x') (hc : cellsL x = some l) :
    NewOK β w ((do pure (Next.value (← Instr.box e x')) : Sem Next).run P w) (bnew l) (fun a => .pointer (some a)) := by
  obtain ⟨g1, g2⟩ := hx.cells hc
  have hsz : l.length = x'.cells.size := by have := g1.1; simpa using this
  refine newB_of (.new l) x'.cells e (by omega) (fun j hj => ⟨g2 j hj, ?_⟩) (fun a => .pointer (some a)) (v' := .pointer (some ⟨w.heap.size, 0, none⟩)) ?_ (fun β' b hb _ => by have := VRel.ptr (o := 0) hb; exact this)
  · rw [getD_toList]; exact g1.2 j hj
  · simp [Instr.box, newVar, newRow]

theorem makeMap_new {t : TypeId} : NewOK β w ((do pure (Next.value (← Instr.makeMap t none)) : Sem Next).run P w) (some (.map [])) (fun a => .map (some a.block)) := by
  intro k hk
  cases hk
  refine ⟨w, .map #[] 0, 0, .map (some w.heap.size), ⟨rfl, rfl, rfl, rfl⟩, by simp [Instr.makeMap], trivial, fun β' b hle hb => ⟨?_, .map (e := ⟨w.heap.size, 0, 0⟩) hb⟩⟩
  exact ⟨rfl, #[], 0, by rw [alloc_heap, if_pos rfl], .nil _, .nil _⟩

theorem makeSliceA_new {t : TypeId} {l l' c c' : Value} (hl : VRel β l l') (hc : VRel β c c') {z : List Value} {k1 k2 : IntKind} {n m : Nat} (hz : (match elemT P t with | some e => zeroE P e | none => none) = some z)
    (hln : l = .int k1 (.ofNat n)) (hcm : c = .int k2 (.ofNat m)) (h1 : n ≤ m) (h2 : m < 100000) :
    NewOK β w ((do pure (Next.value (← Instr.makeSlice t l' c')) : Sem Next).run P w) (bnew (repl z m)) (fun a => .slice (some a) n m) := by
  subst hln
  subst hcm
  cases hl
  cases hc
  obtain ⟨e, he, hz⟩ : ∃ e, P.underlying t = some (.slice e) ∧ zeroE P e = some z := by
    unfold elemT at hz
    cases hu : P.underlying t with
    | none => rw [hu] at hz; simp at hz
    | some d => rw [hu] at hz; cases d <;> simp at hz; exact ⟨_, rfl, hz⟩
  obtain ⟨i, zv, g1, g2, g3, g4, g5, g6, g7⟩ := zeroE_eq hz
  have hrel := zeros_rel zv.cells (by rw [g3]; exact g6 β) m
  have hflat := zeros_flat g7 m
  have hwl : IntKind.i64.wrap (n : Int) = n := by rw [IntKind.wrap_i64]; omega
  have hwc : IntKind.i64.wrap (m : Int) = m := by rw [IntKind.wrap_i64]; omega
  have hbytes : i.bytes * m ≤ 2 ^ 40 := by
    calc i.bytes * m ≤ 1000000 * 100000 := Nat.mul_le_mul g5 (by omega)
      _ ≤ 2 ^ 40 := by decide
  refine newB_of (.new _) ((Array.range (m * zv.cells.size)).map (zv.cells[· % zv.cells.size]!)) e (by have := hrel.1; simp only [Array.length_toList] at this; omega)
    (fun j hj => ⟨hflat j hj, by rw [getD_toList]; exact hrel.2 j hj⟩) (fun a => .slice (some a) n m) (v' := .slice (some ⟨w.heap.size, 0, none⟩) n m) ?_ (fun β' b hb _ => by have := VRel.sl (o := 0) (n := n) (c := m) (by simp only [unk]; omega) hb; exact this)
  have hb1 : ¬ (281474976710656 < (i.bytes : Int) * (m : Int)) := by
    have : ((i.bytes * m : Nat) : Int) ≤ ((2 ^ 40 : Nat) : Int) := Int.ofNat_le.2 hbytes
    rw [Int.natCast_mul] at this
    omega
  have hb2 : askRoom (m * i.bytes) = pure () := by
    unfold askRoom roomBytes
    rw [if_neg (by rw [Nat.mul_comm]; omega)]
  have hm0 : ¬ ((m : Int) < 0) := by omega
  have hn0 : ¬ ((n : Int) < 0) := by omega
  have hnm : ¬ (m < n) := by omega
  by_cases hz0 : m * i.size = 0
  · simp [Instr.makeSlice, run_underlying he, asInt, asIntOf, typeInfo, sizeOf, g1, hwl, hwc, hb1, hb2, hz0, newRow, h1, hm0, hn0, hnm, g4]
    simp [map_range0]
  · simp [Instr.makeSlice, run_underlying he, asInt, asIntOf, typeInfo, sizeOf, zeroValue, g1, g2, hwl, hwc, hb1, hb2, hz0, newRow, h1, hm0, hn0, hnm, g4]

theorem buildSliceA_new {ρ ρ' : Operand → Value} {t : TypeId} {len : Nat} {parts : Array (Nat × Operand)} (hx : ∀ p ∈ parts.toList, VRel β (ρ p.2) (ρ' p.2)) {q : Nat} {z : List Value} {pl : List ((Nat × Nat) × Operand)} {cs : List Value}
    (hbs : bsOf P t len = some (q, z)) (hpl : placesOf (fun i => some (i * q, q)) parts.toList = some pl) (hcs : fillA z (zipV ρ pl) = some cs) :
    NewOK β w ((do pure (Next.value (← Instr.buildSlice t len (parts.map fun (i, x) => (i, ρ' x)))) : Sem Next).run P w) (bnew cs) (fun a => .slice (some a) len len) := by
  unfold bsOf at hbs
  split at hbs
  · rename_i e he
    split at hbs
    · rename_i n z' hn hz
      split at hbs
      · rename_i h1 h2 h3
        cases hbs
        rw [blt_t] at h1 h3
        rw [beq_t, lenL_eq, Nat.zero_add] at h2
        have he' : P.underlying t = some (.slice e) := by
          unfold elemT at he
          cases hu : P.underlying t with
          | none => rw [hu] at he; exact nomatch he
          | some d => rw [hu] at he; cases d <;> simp at he; rw [he]
        obtain ⟨i, zv, g1, g2, g3, g4, g5⟩ := zeroL_info hz
        obtain ⟨_, i', hi', hn'⟩ := szOf_eq (P := P) hn default
        rw [g1] at hi'
        cases hi'
        have hzs : zv.cells.size = q := by rw [← h2, ← g3]; simp
        have hrel := zeros_rel zv.cells (by rw [g3]; exact g4 β) len
        have hflat := zeros_flat g5 len
        obtain ⟨r', q1, q2, q3⟩ := fillA_sound (β := β) (ρ := ρ) (ρ' := ρ') (fun i => some (i * q, q)) parts.toList pl (repl z' len) cs _ hpl hx hrel hflat hcs
        have hl : cs.length = r'.size := by have := q2.1; simpa using this
        refine newB_of (.new cs) r' e (by omega) (fun j hj => ⟨q3 j hj, by rw [getD_toList]; exact q2.2 j hj⟩) (fun a => .slice (some a) len len)
          (v' := .slice (some ⟨w.heap.size, 0, none⟩) len len) ?_ (fun β' b hb _ => ?_)
        · have hp : (parts.map fun (i, x) => (i, ρ' x)).toList = parts' ρ' parts.toList := by simp [parts']
          have hsm : ¬ (16777216 < len * q) := by omega
          by_cases h0 : len * q = 0
          · have hz0 : ((Array.range (len * zv.cells.size)).map (zv.cells[· % zv.cells.size]!)) = #[] := by rw [hzs, h0]; exact map_range0 _
            rw [hz0] at q1
            unfold parts' at q1
            simp [Instr.buildSlice, run_underlying he', sizeOf, typeInfo, g1, hn', h0, hp, q1, newRow, map_range0]
          · rw [hzs] at q1
            unfold parts' at q1
            simp [Instr.buildSlice, run_underlying he', sizeOf, typeInfo, zeroValue, g1, g2, hn', h0, hsm, hp, q1, hzs, newRow]
        · have := VRel.sl (o := 0) (n := len) (c := len) (by simp only [unk]; omega) hb
          exact this
      · exact nomatch hbs
    · exact nomatch hbs
  · exact nomatch hbs

theorem bytesA_new {s d : TypeId} {n : Nat} {l : List UInt8} (hk : ckindOf P s d = .bytes n) :
    NewOK β w ((do pure (Next.value (← convert s d (.string ⟨⟨l⟩⟩))) : Sem Next).run P w) (bapp (bytesV l)) (fun a => .slice (some a) l.length (unk + n)) := by
  obtain ⟨h1, rfl, e, h2, h3, h4⟩ := ckind_bytes hk
  have hg := le_grownCap w l.length 0 e
  let el : Array Value := (⟨l⟩ : Array UInt8).map fun b => Value.int .u8 (Int.ofNat b.toNat)
  let full : Array Value := el ++ Array.replicate (grownCap w l.length 0 e - l.length) (.int .u8 0)
  have hes : el.size = l.length := by simp [el]
  have hfs : full.size = grownCap w l.length 0 e := by simp only [full, Array.size_append, Array.size_replicate, hes]; omega
  have het : el.toList = bytesV l := by rw [bytesV_eq]; simp [el]
  obtain ⟨b1, b2⟩ := bytes_rel (β := β) l
  have hbl : (bytesV l).length = l.length := by rw [bytesV_eq]; simp
  refine newF_of (w1 := w.drew) ⟨rfl, rfl, rfl, rfl⟩ (.app _) full e (full.size, full.size + 1) (.inr (Nat.le_refl _)) (by omega) (fun j hj => ⟨b2 j hj, ?_⟩) (fun a => .slice (some a) l.length (unk + 1))
    (v' := .slice (some ⟨w.heap.size, 0, none⟩) l.length (grownCap w l.length 0 e)) (run_v ?_) (fun β' b hb _ => ?_)
  · have : full.getD j undef = el.getD j undef := by
      simp only [full, Array.getD_eq_getD_getElem?]
      rw [Array.getElem?_append_left (by omega)]
    rw [this, getD_toList, het]
    exact b1.2 j hj
  · have hsh : (w.drew.alloc (.cells full e)).shape? w.heap.size = some (e, full.size) := by
      unfold World.shape?
      rw [alloc_heap, if_pos (show w.heap.size = w.drew.heap.size from rfl)]
    have hfz := freeze_alloc w.drew full e
    have hstr : (Conv.stringToBytes e ⟨⟨l⟩⟩).run P w = .ok (.slice (some ⟨w.heap.size, 0, none⟩) l.length (grownCap w l.length 0 e)) (w.drew.alloc (.cells full e (full.size, full.size + 1))) := by
      rw [← hfz]
      unfold Conv.stringToBytes
      simp only [Sem.run_bind, run_choose_drew, Question.forced, Bool.false_eq_true, if_false, Result.andThen_ok, newRow, run_newObj_alloc, Sem.run_pure, markStringish, run_shape]
      show ((Sem.run P (match (w.drew.alloc (.cells full e)).shape? w.heap.size with | some (_, n) => freeze ⟨w.heap.size, n, none⟩ 1 | _ => pure ()) (w.drew.alloc (.cells full e))).andThen _) = _
      rw [hsh]
      rfl
    simp [convert, run_underlying h1, run_underlying h2, run_underlying h3, hstr]
  · have := VRel.slU (o := 0) (n := l.length) (z := 1) (cap := grownCap w l.length 0 e) hb hg (by simp only [Nat.zero_add, hfs, Nat.mul_one]; exact Nat.le_refl _)
    exact this

/-- The block that an operation makes, and the value that names it. -/
noncomputable def allocA (P : Program) (ρ : Operand → Value) : Op → Option (Option Blk × (Addr → Value))
  | .alloc e => match zeroL P e with
    | some z => some (bnew z, fun a => .pointer (some a))
    | none => none
  | .box _ x => match cellsL (ρ x) with
    | some l => some (bnew l, fun a => .pointer (some a))
    | none => none
  | .buildSlice t len parts => match bsOf P t len, (match bsOf P t len with | some (n, _) => placesOf (fun i => some (i * n, n)) parts.toList | none => none) with
    | some (_, z), some pl => match fillA z (zipV ρ pl) with
      | some cs => some (bnew cs, fun a => .slice (some a) len len)
      | none => none
    | _, _ => none
  | .makeSlice t l c => match (match elemT P t with | some e => zeroE P e | none => none), ρ l, ρ c with
    | some z, .int _ (.ofNat l), .int _ (.ofNat c) => match Nat.ble l c, Nat.blt c 100000 with
      | true, true => some (bnew (repl z c), fun a => .slice (some a) l c)
      | _, _ => none
    | _, _, _ => none
  | .makeMap _ none => some (some (.map []), fun a => .map (some a.block))
  | .convert s d x => match ckindOf P s d with
    | .bytes sz => match ρ x with
      | .string ⟨⟨s⟩⟩ => some (bapp (bytesV s), fun a => .slice (some a) s.length (unk + sz))
      | _ => none
    | _ => none
  | _ => none

noncomputable def allocN (h : AH) : Option (Option Blk × (Addr → Value)) → AN
  | some (ok, K) => newB h ok K
  | none => .stuck

theorem allocA_op {op : Op} (hc : clsOf P op = 2) (ty : TypeId) (ρ : Operand → Value) (h : AH) : opA P ty ρ h op = allocN h (allocA P ρ op) := by
  cases op <;> first | (simp [clsOf] at hc; done) | skip
  case alloc e =>
    simp only [opA, allocA]
    cases zeroL P e <;> rfl
  case box e x =>
    simp only [opA, allocA, boxA]
    cases cellsL (ρ x) <;> rfl
  case buildSlice t len parts =>
    simp only [opA, allocA, buildSliceA]
    split
    · rename_i q z pl h1 h2
      rw [h1] at h2 ⊢
      simp only at h2 ⊢
      rw [h2]
      simp only
      split <;> simp_all [allocN, newCells]
    · rename_i hne
      split
      · rename_i q z pl h1 h2
        exact absurd h2 (fun h2 => hne _ _ _ h1 h2)
      · rfl
  case makeSlice t l c =>
    simp only [opA, allocA, makeSliceA]
    generalize ρ l = vl
    generalize ρ c = vc
    generalize elemT P t = oe
    cases oe with
    | none => rfl
    | some e =>
     simp only
     generalize zeroE P e = oz
     cases oz with
     | none => rfl
     | some z =>
      cases vl with
      | int k1 i1 =>
        cases i1 with
        | negSucc n => rfl
        | ofNat n =>
          cases vc with
          | int k2 i2 =>
            cases i2 with
            | negSucc n => rfl
            | ofNat m => cases h1 : Nat.ble n m <;> cases h2 : Nat.blt m 100000 <;> simp only [h1, h2] <;> rfl
          | _ => rfl
      | _ => rfl
  case makeMap t r =>
    cases r with
    | none => rfl
    | some x => rfl
  case convert s d x =>
    simp only [opA, allocA, convA]
    simp only [clsOf] at hc
    cases hk : ckindOf P s d <;> rw [hk] at hc <;> first | (simp at hc; done) | skip
    simp only
    generalize ρ x = vx
    cases vx with
    | string b =>
      obtain ⟨⟨l⟩⟩ := b
      simp only
      rw [fN_eq, lenB_eq, Nat.zero_add]
      rfl
    | _ => rfl
  case call c =>
    simp only [clsOf] at hc
    split at hc
    · exact nomatch hc
    · split at hc <;> exact nomatch hc
    · exact nomatch hc

theorem allocA_new {o : Oper} (hc : clsOf P o.op = 2) {ρ ρ' : Operand → Value} (hρ : ∀ x ∈ o.op.operands.toList, VRel β (ρ x) (ρ' x)) {ok : Option Blk} {K : Addr → Value} (ha : allocA P ρ o.op = some (ok, K)) :
    NewOK β w ((execOp ρ' o).run P w) ok K := by
  unfold execOp
  generalize o.op = op at hc hρ ha
  cases op <;> first | (simp [clsOf] at hc; done) | (simp [allocA] at ha; done) | skip
  case alloc e =>
    simp only [allocA] at ha
    split at ha
    · rename_i z hz; cases ha; exact alloc_new hz
    · exact nomatch ha
  case box e x =>
    simp only [allocA] at ha
    split at ha
    · rename_i l hl; cases ha; exact boxA_new (hρ x (by simp [Op.operands])) hl
    · exact nomatch ha
  case buildSlice t len ps =>
    simp only [allocA] at ha
    split at ha
    · rename_i q z pl h1 h2
      rw [h1] at h2
      split at ha
      · rename_i cs hcs
        cases ha
        exact buildSliceA_new (fun p hp => hρ p.2 (by simp only [Op.operands, List.mem_map]; exact ⟨p, hp, rfl⟩)) h1 h2 hcs
      · exact nomatch ha
    · exact nomatch ha
  case makeSlice t l c =>
    simp only [allocA] at ha
    split at ha
    · rename_i z k1 n k2 m h1 h2 h3
      split at ha
      · rename_i h4 h5
        cases ha
        exact makeSliceA_new (hρ l (by simp [Op.operands])) (hρ c (by simp [Op.operands])) h1 h2 h3 (ble_t.1 h4) (blt_t.1 h5)
      · exact nomatch ha
    · exact nomatch ha
  case makeMap t r =>
    cases r with
    | none => cases ha; exact makeMap_new
    | some x => exact nomatch ha
  case convert s d x =>
    simp only [allocA] at ha
    split at ha
    · rename_i n hk
      split at ha
      · rename_i l hl
        cases ha
        have hx := hρ x (by simp [Op.operands])
        rw [hl] at hx
        have : ρ' x = .string ⟨⟨l⟩⟩ := by
          generalize ρ' x = y at hx
          cases hx
          rfl
        simp only [this]
        exact bytesA_new hk
      · exact nomatch ha
    · exact nomatch ha
end
end Go.Ab
/- Regions whose order is drawn: what the plan's checks say; what an operation's outcome hangs on. -/
namespace Go.Ab
open Go Go.RowKit

section
variable {P : Program}

/-! ## What an operation's outcome hangs on -/

theorem mapL_congr {ρ ρ' : Operand → Value} : ∀ (l : List Operand), (∀ x ∈ l, ρ x = ρ' x) → mapL ρ l = mapL ρ' l
  | [], _ => rfl
  | x :: l, h => by
    show ρ x :: mapL ρ l = ρ' x :: mapL ρ' l
    rw [h x (by simp), mapL_congr l fun y hy => h y (by simp [hy])]

theorem placesOf_congr {ρ ρ' : Operand → Value} (pl : Nat → Option (Nat × Nat)) : ∀ (l : List (Nat × Operand)) (l' : List ((Nat × Nat) × Operand)), placesOf pl l = some l' → (∀ p ∈ l, ρ p.2 = ρ' p.2) → zipV ρ l' = zipV ρ' l'
  | [], l', h, _ => by cases h; rfl
  | (i, x) :: l, l', h, hx => by
    simp only [placesOf] at h
    split at h
    · rename_i p m hp hm
      cases h
      show (p, ρ x) :: zipV ρ m = (p, ρ' x) :: zipV ρ' m
      rw [hx (i, x) (by simp), placesOf_congr pl l m hm fun q hq => hx q (by simp [hq])]
    · exact nomatch h

theorem buildA_congr {ρ ρ' : Operand → Value} {z : Option (List Value)} {pl : Option (List ((Nat × Nat) × Operand))} (h : ∀ l, pl = some l → zipV ρ l = zipV ρ' l) : buildA z pl ρ = buildA z pl ρ' := by
  unfold buildA
  cases z <;> cases pl <;> first | rfl | skip
  rename_i l
  simp only
  rw [h l rfl]

theorem buildSliceA_congr {ρ ρ' : Operand → Value} {k : Option (Nat × List Value)} {pl : Option (List ((Nat × Nat) × Operand))} {len : Nat} {h : AH} (hz : ∀ l, pl = some l → zipV ρ l = zipV ρ' l) :
    buildSliceA k pl len ρ h = buildSliceA k pl len ρ' h := by
  unfold buildSliceA
  cases k <;> cases pl <;> first | rfl | skip
  rename_i l
  simp only
  rw [hz l rfl]

theorem placesB_some {t : TypeId} {l : List (Nat × Operand)} {l' : List ((Nat × Nat) × Operand)} (h : placesB P t l = some l') : placesOf (placeOf P t) l = some l' := by
  unfold placesB at h
  split at h
  · exact h
  · exact nomatch h

theorem opA_congr {ρ ρ' : Operand → Value} (ty : TypeId) (h : AH) (op : Op) (hx : ∀ x ∈ op.operands.toList, ρ x = ρ' x) : opA P ty ρ h op = opA P ty ρ' h op := by
  cases op <;> simp only [Op.operands] at hx <;> simp only [opA]
  case build t ps =>
    rw [buildA_congr (ρ' := ρ') fun l hl => placesOf_congr _ _ _ (placesB_some hl) fun p hp => hx p.2 (by simp only [List.mem_map]; exact ⟨p, hp, rfl⟩)]
  case buildSlice t n ps =>
    refine buildSliceA_congr fun l hl => ?_
    split at hl
    · exact placesOf_congr _ _ _ hl fun p hp => hx p.2 (by simp only [List.mem_map]; exact ⟨p, hp, rfl⟩)
    · exact nomatch hl
  case makeFunc fn a c =>
    rw [mapL_congr a.toList fun x hx' => hx x (by simp only [Array.toList_append, List.mem_append]; exact .inl hx'), mapL_congr c.toList fun x hx' => hx x (by simp only [Array.toList_append, List.mem_append]; exact .inr hx')]
  case slice t x lo hi mx => cases lo <;> cases hi <;> cases mx <;> simp_all
  case makeMap t r => cases r <;> rfl
  case call c =>
    have hargs : mapL ρ c.args.toList = mapL ρ' c.args.toList := mapL_congr _ fun x hx' => hx x (by simp only [Call.operands, Array.toList_append, List.mem_append]; exact .inr hx')
    cases hc : c.callee with
    | value f => simp only [hargs, hx f (by simp [Call.operands, hc])]
    | builtin b => simp only [hargs]
    | invoke r m => rfl
  case defer c =>
    have hargs : mapL ρ c.args.toList = mapL ρ' c.args.toList := mapL_congr _ fun x hx' => hx x (by simp only [Call.operands, Array.toList_append, List.mem_append]; exact .inr hx')
    cases hc : c.callee with
    | value f => simp only [hargs, hx f (by simp [Call.operands, hc])]
    | builtin b => rfl
    | invoke r m => rfl
  all_goals (first | rfl | (simp_all; done))

theorem ofO_val {h h' : AH} {ov : Option Value} {v : Value} (e : ofO h ov = .val v h') : ov = some v ∧ h' = h := by
  cases ov with
  | none => exact nomatch e
  | some u => cases e; exact ⟨rfl, rfl⟩

noncomputable def capV (b : Bool) (args : List Value) : Option Value := match b, args with
  | true, [.slice _ _ k] => iB (Nat.blt k unk) (some (.int .i64 (.ofNat k))) none
  | _, _ => none
noncomputable def mmV (mx : Bool) (args : List Value) : Option Value := match args with
  | .int k a :: l => (foldMM mx k a l).map (Value.int k)
  | _ => none
/-- what only reckons -/
theorem opA_cls0 {op : Op} (hc : clsOf P op = 0) (ty : TypeId) (ρ : Operand → Value) : ∃ ov : Option Value, ∀ h, opA P ty ρ h op = ofO h ov := by
  cases op <;> first | (simp [clsOf] at hc; done) | skip
  case move x => exact ⟨some (ρ x), fun _ => rfl⟩
  case assign x => exact ⟨some (ρ x), fun _ => rfl⟩
  case makeInterface t x =>
    cases hb : concB P t
    · exact ⟨none, fun _ => by simp only [opA, hb]; rfl⟩
    · exact ⟨some (.iface t (ρ x)), fun _ => by simp only [opA, hb]; rfl⟩
  case makeFunc fn a c => exact ⟨some (.func fn ⟨mapL ρ a.toList⟩ ⟨mapL ρ c.toList⟩), fun _ => rfl⟩
  case typeAssert x xt a ok =>
    cases hb : concB P a
    · exact ⟨none, fun _ => by simp only [opA, hb]; rfl⟩
    · exact ⟨_, fun _ => by simp only [opA, hb]; rfl⟩
  case convert s d x =>
    simp only [clsOf] at hc
    cases hk : ckindOf P s d <;> rw [hk] at hc <;> first | (simp at hc; done) | skip
    · rename_i k
      refine ⟨match ρ x with | .int _ n => wrapF k n | _ => none, fun h => ?_⟩
      simp only [opA, hk, convA]
      cases ρ x <;> rfl
    · refine ⟨match Ab.plain1 (ρ x) with | true => quickC P (Go.convert s d (ρ x)) | false => none, fun h => ?_⟩
      simp only [opA, hk, convA]
      cases Ab.plain1 (ρ x) <;> rfl
  case call c =>
    simp only [clsOf] at hc
    cases hk : c.callee <;> rw [hk] at hc <;> first | (simp at hc; done) | skip
    rename_i b
    generalize hargs : mapL ρ c.args.toList = args
    cases b <;> first | (simp at hc; done) | skip
    · refine ⟨capV (cpB P c.argTypes.toList) args, fun h => ?_⟩
      simp only [opA, hk, builtinA, hargs]
      cases cpB P c.argTypes.toList <;> first | rfl | skip
      rcases args with _ | ⟨x, _ | ⟨y, l⟩⟩ <;> first | rfl | skip
      · cases x <;> first | rfl | skip
        rename_i b n k
        simp only [capV]
        cases Nat.blt k unk <;> rfl
      · cases x <;> rfl
    · refine ⟨mmV true args, fun h => ?_⟩
      simp only [opA, hk, builtinA, hargs]
      rcases args with _ | ⟨x, l⟩ <;> first | rfl | skip
      cases x <;> first | rfl | skip
      rename_i k a
      simp only [mmV]
      cases foldMM true k a l <;> rfl
    · refine ⟨mmV false args, fun h => ?_⟩
      simp only [opA, hk, builtinA, hargs]
      rcases args with _ | ⟨x, l⟩ <;> first | rfl | skip
      cases x <;> first | rfl | skip
      rename_i k a
      simp only [mmV]
      cases foldMM false k a l <;> rfl
  all_goals exact ⟨_, fun _ => rfl⟩

/-- what reads -/
theorem opA_cls1 {op : Op} (hc : clsOf P op = 1) (ty : TypeId) (ρ : Operand → Value) {h h' h2 : AH} {v : Value} (hv : opA P ty ρ h op = .val v h') (hg : ∀ b k, h.get b = some k → h2.get b = some k) :
    h' = h ∧ opA P ty ρ h2 op = .val v h2 := by
  cases op <;> first | (simp [clsOf] at hc; done) | skip
  case load t a =>
    simp only [opA] at hv ⊢
    cases ha : aggB P t <;> rw [ha] at hv <;> first | (cases hv; done) | skip
    cases hn : szOf P t <;> rw [hn] at hv <;> first | (cases hv; done) | skip
    simp only at hv ⊢
    obtain ⟨h1, rfl⟩ := ofO_val hv
    refine ⟨rfl, ?_⟩
    have : loadS ‹Bool› ‹Nat› h2 (ρ a) = some v := by
      generalize ρ a = va at h1 ⊢
      unfold loadS at h1 ⊢
      split at h1
      · obtain ⟨k, hk, h1⟩ := oB_get h1
        rw [hg _ _ hk]
        exact h1
      · exact nomatch h1
    rw [this]; rfl
  case lookup t x i ok =>
    simp only [opA] at hv ⊢
    obtain ⟨h1, rfl⟩ := ofO_val hv
    refine ⟨rfl, ?_⟩
    have : lookupA (mkOf P t) h2 (ρ x) (ρ i) ok = some v := by
      have hm : ∀ es, mapOf h' (ρ x) = some es → mapOf h2 (ρ x) = some es := by
        intro es he
        generalize ρ x = vx at he ⊢
        unfold mapOf at he ⊢
        split at he
        · exact he
        · split at he
          · rename_i es' hr; simp only [hg _ _ hr]; exact he
          · exact nomatch he
        · exact nomatch he
      unfold lookupA at h1 ⊢
      cases hmk : mkOf P t with
      | none => rw [hmk] at h1; exact nomatch h1
      | some m =>
        cases he : mapOf h' (ρ x) with
        | none => rw [hmk, he] at h1; exact nomatch h1
        | some es =>
          rw [hmk, he] at h1
          rw [hm es he]
          exact h1
    rw [this]; rfl
  case convert s d x =>
    simp only [clsOf] at hc
    cases hk : ckindOf P s d <;> rw [hk] at hc <;> first | (simp at hc; done) | skip
    simp only [opA, hk, convA] at hv ⊢
    generalize ρ x = vx at hv ⊢
    cases vx <;> first | (cases hv; done) | skip
    rename_i base n c
    cases base with
    | none => cases hv; exact ⟨rfl, rfl⟩
    | some ad =>
      obtain ⟨b, off, f⟩ := ad
      cases f with
      | some _ => exact nomatch hv
      | none =>
        cases n with
        | zero => cases hv; exact ⟨rfl, rfl⟩
        | succ n =>
          simp only at hv ⊢
          cases hb : h.get b with
          | none => rw [hb] at hv; exact nomatch hv
          | some k =>
            rw [hb] at hv
            rw [hg _ _ hb]
            simp only at hv ⊢
            cases hcut : bcut k off (n + 1) with
            | none => rw [hcut] at hv; exact nomatch hv
            | some l =>
              rw [hcut] at hv
              simp only at hv ⊢
              cases hbs : bytesOfCells l with
              | none => rw [hbs] at hv; exact nomatch hv
              | some bs => rw [hbs] at hv; cases hv; exact ⟨rfl, rfl⟩
  case call c =>
    simp only [clsOf] at hc
    cases hk : c.callee <;> rw [hk] at hc <;> first | (simp at hc; done) | skip
    rename_i b
    generalize hargs : mapL ρ c.args.toList = args
    cases b <;> first | (simp at hc; done) | skip
    simp only [opA, hk, builtinA, hargs] at hv ⊢
    cases hl : lnB P c.argTypes.toList with
    | none => rw [hl] at hv; exact nomatch hv
    | some q =>
      rw [hl] at hv
      rcases args with _ | ⟨x, _ | ⟨y, l⟩⟩ <;> first | (cases hv; done) | skip
      simp only at hv ⊢
      unfold lenA at hv ⊢
      split at hv
      · cases hv; exact ⟨rfl, rfl⟩
      · rw [fN_eq] at hv ⊢; cases hv; exact ⟨rfl, rfl⟩
      · cases hv; exact ⟨rfl, rfl⟩
      · rename_i r
        cases hb : h.get r with
        | none => rw [hb] at hv; exact nomatch hv
        | some k =>
          rw [hb] at hv
          rw [hg _ _ hb]
          cases k <;> first | (cases hv; done) | skip
          cases hv
          exact ⟨rfl, rfl⟩
      · exact nomatch hv

/-- what makes a block -/
theorem opA_cls2 {op : Op} (hc : clsOf P op = 2) (ty : TypeId) (ρ : Operand → Value) {h : AH} (hn : opA P ty ρ h op ≠ .stuck) :
    ∃ k K, allocA P ρ op = some (some k, K) ∧ h.next < 65000 ∧ opA P ty ρ h op = .val (K ⟨h.next, 0, none⟩) (hnew h k) := by
  rw [allocA_op hc] at hn ⊢
  cases ha : allocA P ρ op with
  | none => rw [ha] at hn; exact absurd rfl hn
  | some x =>
    obtain ⟨ok, K⟩ := x
    cases ok with
    | none => rw [ha] at hn; exact absurd rfl hn
    | some k =>
      rw [ha] at hn
      refine ⟨k, K, rfl, ?_⟩
      simp only [allocN] at hn ⊢
      have e := AH.new_cases h k AN.stuck (fun b h' => .val (K ⟨b, 0, none⟩) h')
      have e0 : newB h (some k) K = h.new k AN.stuck (fun b h' => .val (K ⟨b, 0, none⟩) h') := rfl
      rw [e0] at hn ⊢
      rcases e with e | ⟨h1, e⟩
      · exact absurd e hn
      · exact ⟨h1, e⟩
end
end Go.Ab
/- Regions whose order is drawn: what the plan's checks say. -/
namespace Go.Ab
open Go Go.RowKit

section
variable {P : Program}

/-- what has come is closed: whom each comes behind has come -/
def Closed (ops : Array Oper) (L : Array Bool) : Prop := ∀ j o, ops[j]? = some o → L.getD j false = true → ∀ e ∈ o.after, Region.binds .any e = true → L.getD e.on false = true

structure OIOK (P : Program) (ops : Array Oper) (q : OI) : Prop where
  get : ops[q.i]? = some q.o
  g : q.g = guardOf ops.toList q.o
  c : q.c = clsOf P q.o.op
  nm : ∀ t, (.tmp t ∈ q.o.op.operands.toList) ∨ (∃ w, q.g = some (some t, w)) → t ∈ q.names
  anc : ∀ L, Closed ops L → (∀ e ∈ q.o.after, Region.binds .any e = true → L.getD e.on false = true) → ∀ i, q.anc.testBit i = true → L.getD i false = true
  dir : ∀ e ∈ q.o.after, Region.binds .any e = true → q.anc.testBit e.on = true

theorem lor_bit (a b i : Nat) : (Nat.lor a b).testBit i = (a.testBit i || b.testBit i) := Nat.testBit_or a b i
theorem land_bit (a b i : Nat) : (Nat.land a b).testBit i = (a.testBit i && b.testBit i) := Nat.testBit_and a b i
theorem pow_bit (k i : Nat) : (2 ^ k).testBit i = decide (k = i) := Nat.testBit_two_pow

theorem ancOf_bit (acc : List OI) : ∀ (es : List Edge) (i : Nat), (ancOf acc es).testBit i = true ↔ ∃ x ∈ es, Region.binds .any x = true ∧ (x.on = i ∨ ∃ q, acc.find? (fun q => Nat.beq q.i x.on) = some q ∧ q.anc.testBit i = true)
  | [], i => by simp [ancOf]
  | x :: es, i => by
    have ih := ancOf_bit acc es i
    simp only [ancOf]
    cases hb : Region.binds .any x with
    | false =>
      simp only
      rw [ih]
      constructor
      · rintro ⟨y, hy, h⟩; exact ⟨y, by simp [hy], h⟩
      · rintro ⟨y, hy, h1, h2⟩
        rcases List.mem_cons.1 hy with rfl | hy
        · rw [hb] at h1; exact nomatch h1
        · exact ⟨y, hy, h1, h2⟩
    | true =>
      simp only
      cases hf : acc.find? (fun q => Nat.beq q.i x.on) with
      | none =>
        simp only
        rw [lor_bit, pow_bit, Bool.or_eq_true, ih]
        constructor
        · rintro (h | ⟨y, hy, h⟩)
          · exact ⟨x, by simp, hb, .inl (by simpa using h)⟩
          · exact ⟨y, by simp [hy], h⟩
        · rintro ⟨y, hy, h1, h2⟩
          rcases List.mem_cons.1 hy with rfl | hy
          · rcases h2 with h2 | ⟨q, hq, _⟩
            · exact .inl (by simpa using h2)
            · rw [hf] at hq; exact nomatch hq
          · exact .inr ⟨y, hy, h1, h2⟩
      | some q =>
        simp only
        rw [lor_bit, lor_bit, pow_bit, Bool.or_eq_true, Bool.or_eq_true, ih]
        constructor
        · rintro ((h | h) | ⟨y, hy, h⟩)
          · exact ⟨x, by simp, hb, .inl (by simpa using h)⟩
          · exact ⟨x, by simp, hb, .inr ⟨q, hf, h⟩⟩
          · exact ⟨y, by simp [hy], h⟩
        · rintro ⟨y, hy, h1, h2⟩
          rcases List.mem_cons.1 hy with rfl | hy
          · rcases h2 with h2 | ⟨q', hq, hq2⟩
            · exact .inl (.inl (by simpa using h2))
            · rw [hf] at hq; cases hq; exact .inl (.inr hq2)
          · exact .inr ⟨y, hy, h1, h2⟩

theorem tmpsOf_mem {o : Oper} {t : Tmp} (h : .tmp t ∈ o.op.operands.toList) : t ∈ tmpsOf o := by
  unfold tmpsOf
  rw [List.mem_filterMap]
  exact ⟨.tmp t, h, rfl⟩

theorem infos_ok {ops : Array Oper} : ∀ (l : List Oper) (i : Nat) (acc : List OI), (∀ j, l[j]? = ops[i + j]?) → (∀ q ∈ acc, OIOK P ops q) → ∀ q ∈ infos P ops.toList i l acc, OIOK P ops q
  | [], _, acc, _, h, q, hq => h q (by simpa [infos] using hq)
  | o :: l, i, acc, hl, h, q, hq => by
    simp only [infos] at hq
    rw [fN_eq] at hq
    have h0 : ops[i]? = some o := by simpa using (hl 0).symm
    refine infos_ok l (i + 1) _ (fun j => by have := hl (j + 1); simpa [Nat.add_assoc, Nat.add_comm 1 j] using this) (fun q' hq' => ?_) q hq
    rcases List.mem_cons.1 hq' with rfl | hq'
    · refine ⟨h0, rfl, rfl, fun t ht => ?_, fun L hL hed j hj => ?_, fun e he hb => ?_⟩
      · simp only at ht ⊢
        rcases ht with ht | ⟨w, hw⟩
        · have := tmpsOf_mem ht
          split
          · exact List.mem_cons_of_mem _ this
          · exact this
        · rw [hw]; exact List.mem_cons_self ..
      · simp only at hj hed
        obtain ⟨x, hx, hb, hh⟩ := (ancOf_bit _ _ _).1 hj
        have hon := hed x (by simpa using hx) hb
        rcases hh with rfl | ⟨q2, hf, hq2⟩
        · exact hon
        · have hm := List.mem_of_find?_eq_some hf
          have hi : q2.i = x.on := by simpa using List.find?_some hf
          have ok2 := h q2 hm
          exact ok2.anc L hL (fun e he hbe => hL q2.i q2.o ok2.get (by rw [hi]; exact hon) e he hbe) j hq2
      · simp only
        exact (ancOf_bit _ _ _).2 ⟨e, by simpa using he, hb, .inl rfl⟩
    · exact h q' hq'

theorem greedy_mem : ∀ (n done : Nat) (left acc : List OI), ∀ q ∈ greedy n done left acc, q ∈ left ∨ q ∈ acc
  | 0, _, left, acc, q, hq => .inr (by simpa [greedy] using hq)
  | n + 1, done, left, acc, q, hq => by
    simp only [greedy] at hq
    split at hq
    · rename_i q1 hf
      rw [fN_eq] at hq
      rcases greedy_mem n _ _ _ q hq with h | h
      · exact .inl (List.mem_filter.1 h).1
      · rcases List.mem_cons.1 h with rfl | h
        · exact .inl (List.mem_of_find?_eq_some hf)
        · exact .inr h
    · split at hq
      · rename_i q1 hf
        rw [fN_eq] at hq
        rcases greedy_mem n _ _ _ q hq with h | h
        · exact .inl (List.mem_filter.1 h).1
        · rcases List.mem_cons.1 h with rfl | h
          · exact .inl (List.mem_of_find?_eq_some hf)
          · exact .inr h
      · exact .inr (by simpa using hq)

/-- What the plan's order keeps: pre has come, l comes. -/
def PlanL : List OI → Option Nat → List OI → Prop
  | _, _, [] => True
  | pre, last, q :: l => q.c < 4 ∧ (∀ i, q.anc.testBit i = true → ∃ p ∈ pre, p.i = i) ∧ (∀ i, last = some i → q.anc.testBit i = true) ∧ (∀ p ∈ pre, p.i ≠ q.i) ∧ PlanL (pre ++ [q]) (lastOf last q) l

theorem checkP_ok : ∀ (l pre : List OI) (done dn : Nat) (last : Option Nat), (∀ i, done.testBit i = true ↔ ∃ p ∈ pre, p.i = i) → checkP done last l = some dn →
    PlanL pre last l ∧ ∀ i, dn.testBit i = true ↔ ∃ p ∈ pre ++ l, p.i = i
  | [], pre, done, dn, last, h, hc => by
    cases hc
    exact ⟨trivial, by simpa using h⟩
  | q :: l, pre, done, dn, last, h, hc => by
    simp only [checkP] at hc
    split at hc
    · rename_i hb
      simp only [Bool.and_eq_true] at hb
      obtain ⟨⟨⟨h1, h2⟩, h3⟩, h4⟩ := hb
      rw [fN_eq] at hc
      have hd : ∀ i, (Nat.lor done (2 ^ q.i)).testBit i = true ↔ ∃ p ∈ pre ++ [q], p.i = i := fun i => by
        rw [lor_bit, pow_bit, Bool.or_eq_true, h i]
        constructor
        · rintro (⟨p, hp, hi⟩ | hi)
          · exact ⟨p, by simp [hp], hi⟩
          · exact ⟨q, by simp, by simpa using hi⟩
        · rintro ⟨p, hp, hi⟩
          rcases List.mem_append.1 hp with hp | hp
          · exact .inl ⟨p, hp, hi⟩
          · have : p = q := by simpa using hp
            subst this
            exact .inr (by simpa using hi)
      obtain ⟨k1, k2⟩ := checkP_ok l (pre ++ [q]) _ dn (lastOf last q) hd hc
      refine ⟨⟨blt_t.1 h1, fun i hi => ?_, fun i hi => ?_, fun p hp hpq => ?_, k1⟩, fun i => by rw [k2 i]; simp⟩
      · rw [beq_t] at h2
        have : (Nat.land q.anc done).testBit i = true := by rw [h2]; exact hi
        rw [land_bit, Bool.and_eq_true] at this
        exact (h i).1 this.2
      · subst hi; exact h3
      · have : done.testBit q.i = true := (h q.i).2 ⟨p, hp, hpq⟩
        rw [this] at h4
        exact nomatch h4
    · exact nomatch hc

theorem PlanL.fresh {l pre : List OI} {last : Option Nat} (h : PlanL pre last l) : ∀ q ∈ l, ∀ p ∈ pre, p.i ≠ q.i := by
  induction l generalizing pre last with
  | nil => intro q hq; exact absurd hq (by simp)
  | cons q0 l ih =>
    obtain ⟨_, _, _, h4, h5⟩ := h
    intro q hq p hp
    rcases List.mem_cons.1 hq with rfl | hq
    · exact h4 p hp
    · exact ih h5 q hq p (by simp [hp])

/-- whoever comes behind a change comes behind one that has not come yet, or that change -/
theorem PlanL.behind {l pre : List OI} {x : Nat} (h : PlanL pre (some x) l) : ∀ q ∈ l, ∃ y, q.anc.testBit y = true ∧ (y = x ∨ ∃ p ∈ l, p.i = y) := by
  induction l generalizing pre x with
  | nil => intro q hq; exact absurd hq (by simp)
  | cons q0 l ih =>
    obtain ⟨_, _, h3, _, h5⟩ := h
    intro q hq
    rcases List.mem_cons.1 hq with rfl | hq
    · exact ⟨x, h3 x rfl, .inl rfl⟩
    · have : ∃ y, lastOf (some x) q0 = some y ∧ (y = x ∨ y = q0.i) := by
        unfold lastOf
        split
        · exact ⟨_, rfl, .inr rfl⟩
        · exact ⟨_, rfl, .inl rfl⟩
      obtain ⟨y, hy, hy2⟩ := this
      rw [hy] at h5
      obtain ⟨z, hz, hz2⟩ := ih h5 q hq
      refine ⟨z, hz, ?_⟩
      rcases hz2 with rfl | ⟨p, hp, hpz⟩
      · rcases hy2 with rfl | rfl
        · exact .inl rfl
        · exact .inr ⟨q0, by simp, rfl⟩
      · exact .inr ⟨p, by simp [hp], hpz⟩

/-- What is known of a plan. -/
structure Plan (P : Program) (ops : Array Oper) (s : List OI) : Prop where
  ok : ∀ q ∈ s, OIOK P ops q
  cov : ∀ i, i < ops.size → ∃ q ∈ s, q.i = i
  self : ∀ x ∈ s, ∀ d, x.o.dst = some d → d ∈ x.names → x.c ≠ 1
  one : ∀ x ∈ s, ∀ y ∈ s, x.i ≠ y.i → ∀ d, x.o.dst = some d → y.o.dst ≠ some d
  use : ∀ x ∈ s, ∀ y ∈ s, x.i ≠ y.i → ∀ d, x.o.dst = some d → d ∈ y.names → y.anc.testBit x.i = true ∨ (x.anc.testBit y.i = true ∧ y.c ≠ 1)
  ord : PlanL [] none s

theorem any_beq {l : List Tmp} {d : Tmp} (h : d ∈ l) : (l.any fun t => Nat.beq t d) = true := List.any_eq_true.2 ⟨d, h, Nat.beq_refl d⟩

theorem plan_ok {ops : Array Oper} {st : List Stp} (hp : planOf P ops.toList true = some st) : ∃ s, Plan P ops s ∧ st = stepsOf [] s := by
  simp only [planOf] at hp
  split at hp
  · rename_i hslots
    split at hp
    · rename_i dn hdn
      split at hp
      · rename_i hb
        cases hp
        have hinf := infos_ok (P := P) (ops := ops) ops.toList 0 [] (fun j => by simp) (fun q hq => nomatch hq)
        have hmem : ∀ q ∈ greedy ops.toList.length 0 (infos P ops.toList 0 ops.toList []) [], q ∈ infos P ops.toList 0 ops.toList [] := fun q hq => by
          rcases greedy_mem _ _ _ _ q hq with h | h
          · exact h
          · exact nomatch h
        obtain ⟨k1, k2⟩ := checkP_ok _ [] 0 dn none (fun i => by simp) hdn
        rw [beq_t] at hb
        have hslot : ∀ x ∈ greedy ops.toList.length 0 (infos P ops.toList 0 ops.toList []) [], ∀ d, x.o.dst = some d → ∀ y ∈ greedy ops.toList.length 0 (infos P ops.toList 0 ops.toList []) [], slotOk x y d = true := by
          intro x hx d hd y hy
          have h1 := List.all_eq_true.1 hslots x (hmem x hx)
          rw [hd] at h1
          exact List.all_eq_true.1 h1 y (hmem y hy)
        refine ⟨_, ⟨fun q hq => hinf q (hmem q hq), fun i hi => ?_, ?_, ?_, ?_, k1⟩, rfl⟩
        · have : dn.testBit i = true := by
            rw [hb, Nat.testBit_two_pow_sub_one]
            simpa using hi
          obtain ⟨p, hp, hpi⟩ := (k2 i).1 this
          exact ⟨p, by simpa using hp, hpi⟩
        · intro x hx d hd hn hc
          have := hslot x hx d hd x hx
          unfold slotOk at this
          rw [Nat.beq_refl, hc] at this
          simp only [any_beq hn] at this
          exact nomatch this
        · intro x hx y hy hne d hd hdy
          have := hslot x hx d hd y hy
          unfold slotOk at this
          have hb : Nat.beq x.i y.i = false := by
            cases e : Nat.beq x.i y.i
            · rfl
            · exact absurd (beq_t.1 e) hne
          rw [hb, hdy] at this
          simp only [Nat.beq_refl, Bool.not_true, Bool.false_and] at this
          exact nomatch this
        · intro x hx y hy hne d hd hn
          have := hslot x hx d hd y hy
          unfold slotOk at this
          have hb : Nat.beq x.i y.i = false := by
            cases e : Nat.beq x.i y.i
            · rfl
            · exact absurd (beq_t.1 e) hne
          rw [hb] at this
          simp only [any_beq hn, Bool.not_true, Bool.false_or, Bool.and_eq_true, Bool.or_eq_true] at this
          rcases this.2 with h | ⟨h1, h2⟩
          · exact .inl h
          · refine .inr ⟨h1, fun hc => ?_⟩
            rw [hc] at h2
            exact nomatch h2
      · exact nomatch hp
    · exact nomatch hp
  · exact nomatch hp
end
end Go.Ab
/- Regions whose order is drawn: any order comes to what the plan's order comes to. -/
namespace Go.Ab
open Go Go.RowKit

section
variable {P : Program} {B : Nat} {w0 : World} {βb : Beta} {hb : AH} {wb : World}

/-- a slot that an operation reads: as the one ahead of it left it that writes it, or as it was when the region began -/
noncomputable def rho (s : List OI) (q : OI) (e0 e : Env) (x : Operand) : Value := match x with
  | .tmp t => @ite _ (∃ p ∈ s, p.o.dst = some t ∧ q.anc.testBit p.i = true) (Classical.propDecidable _) ((ea t).get e) ((ea t).get e0)
  | x => evalE e x

theorem rho_pos {s : List OI} {q : OI} {e0 e : Env} {t : Tmp} (h : ∃ p ∈ s, p.o.dst = some t ∧ q.anc.testBit p.i = true) : rho s q e0 e (.tmp t) = (ea t).get e := by
  simp only [rho]; rw [if_pos h]
theorem rho_neg {s : List OI} {q : OI} {e0 e : Env} {t : Tmp} (h : ¬ ∃ p ∈ s, p.o.dst = some t ∧ q.anc.testBit p.i = true) : rho s q e0 e (.tmp t) = (ea t).get e0 := by
  simp only [rho]; rw [if_neg h]

def wantV (g : Option (Option Tmp × Bool)) (f : Tmp → Value) : Bool := match g with
  | none => true
  | some (some t, w) => match f t with
    | .bool b => match b, w with
      | true, true => true
      | false, false => true
      | _, _ => false
    | _ => false
  | some (none, _) => false
theorem wantG_V (g : Option (Option Tmp × Bool)) (e : Env) : wantG g e = wantV g fun t => (ea t).get e := by
  rcases g with _ | ⟨_ | t, w⟩ <;> rfl
theorem wantV_congr {g : Option (Option Tmp × Bool)} {f f' : Tmp → Value} (h : ∀ t w, g = some (some t, w) → f t = f' t) : wantV g f = wantV g f' := by
  rcases g with _ | ⟨_ | t, w⟩
  · rfl
  · rfl
  · simp only [wantV, h t w rfl]

/-- a slot that an operation names -/
def Nm (q : OI) (t : Tmp) : Prop := (.tmp t ∈ q.o.op.operands.toList) ∨ (∃ w, q.g = some (some t, w))

theorem guardOf_some {ops : Array Oper} {o : Oper} {t : Tmp} {w : Bool} (h : guardOf ops.toList o = some (some t, w)) : ∃ j oj, o.guard = some (j, w) ∧ ops[j]? = some oj ∧ oj.dst = some t := by
  unfold guardOf at h
  cases hg : o.guard with
  | none => rw [hg] at h; exact nomatch h
  | some jw =>
    obtain ⟨j, want⟩ := jw
    rw [hg] at h
    simp only at h
    rw [Array.getElem?_toList] at h
    cases hj : ops[j]? with
    | none => rw [hj] at h; exact nomatch h
    | some oj =>
      rw [hj] at h
      simp only [Option.some.injEq, Prod.mk.injEq] at h
      exact ⟨j, oj, by rw [← h.2], hj, h.1⟩

theorem mem_ops {ops : Array Oper} {i : Nat} {o : Oper} (h : ops[i]? = some o) : o ∈ ops.toList := by rw [Array.mem_toList_iff]; exact Array.mem_of_getElem? h

theorem Nm.lt {ops : Array Oper} {n G : Nat} (hops : ∀ o ∈ ops.toList, opOk n G o = true) {q : OI} (ok : OIOK P ops q) {t : Nat} (h : Nm q t) : t < n := by
  rcases h with h | ⟨w, h⟩
  · have := opOk_opd (hops _ (mem_ops ok.get)) _ h
    exact blt_t.1 this
  · rw [ok.g] at h
    obtain ⟨j, oj, _, h2, h3⟩ := guardOf_some h
    exact opOk_dst (hops _ (mem_ops h2)) t h3

theorem wantV_eq {ops : Array Oper} {β : Beta} {a : Array Value} {q : OI} (ok : OIOK P ops q) {f : Tmp → Value} (hf : ∀ (t : Nat) w, q.g = some (some t, w) → t < a.size ∧ VRel β (f t) (a.getD t undef)) :
    wantV q.g f = Region.wanted q.o (yielded ops a) := by
  rw [ok.g] at hf ⊢
  unfold guardOf at hf ⊢
  unfold Region.wanted
  cases hgd : q.o.guard with
  | none => rfl
  | some jw =>
    obtain ⟨j, want⟩ := jw
    simp only [hgd, yielded] at hf ⊢
    simp only [Array.getElem?_toList] at hf ⊢
    cases hj : ops[j]? with
    | none => rfl
    | some oj =>
      simp only [hj, Option.bind_some] at hf ⊢
      cases hd : oj.dst with
      | none => rfl
      | some t =>
        obtain ⟨ht, hv⟩ := hf t want (by rw [hd])
        have hs : a[t]? = some (a.getD t undef) := by
          rw [Array.getD_eq_getD_getElem?]
          simp [ht]
        simp only [Option.bind_some, hs, wantV]
        generalize f t = v at hv ⊢
        generalize a.getD t undef = v' at hv ⊢
        cases hv <;> first | rfl | skip
        rename_i b
        cases b <;> cases want <;> rfl

def On (L : Array Bool) (i : Nat) : Prop := L.getD i false = true
theorem On.set {L : Array Bool} {i j : Nat} (hi : i < L.size) : On (L.setIfInBounds i true) j ↔ j = i ∨ On L j := by
  unfold On
  by_cases h : i = j
  · subst h; simp [hi]
  · rw [getD_set_ne false h]
    constructor
    · exact .inr
    · rintro (rfl | h')
      · exact absurd rfl h
      · exact h'
theorem On.not {L : Array Bool} {i : Nat} (hi : i < L.size) : ¬ On L i ↔ L.getD i true = false := by
  unfold On
  rw [Array.getD_eq_getD_getElem?, Array.getD_eq_getD_getElem?]
  simp [hi]

theorem allocA_bw {op : Op} {ρ : Operand → Value} {k : Blk} {K : Addr → Value} (h : allocA P ρ op = some (some k, K)) : BW k := by
  cases op <;> simp only [allocA] at h <;> first | (cases h; done) | skip
  case alloc e =>
    split at h
    · simp only [Option.some.injEq, Prod.mk.injEq] at h; exact (bnew_eq h.1).2.1
    · exact nomatch h
  case box e x =>
    split at h
    · simp only [Option.some.injEq, Prod.mk.injEq] at h; exact (bnew_eq h.1).2.1
    · exact nomatch h
  case buildSlice t len ps =>
    split at h
    · split at h
      · simp only [Option.some.injEq, Prod.mk.injEq] at h; exact (bnew_eq h.1).2.1
      · exact nomatch h
    · exact nomatch h
  case makeSlice t l c =>
    split at h
    · split at h
      · simp only [Option.some.injEq, Prod.mk.injEq] at h; exact (bnew_eq h.1).2.1
      · exact nomatch h
    · exact nomatch h
  case makeMap t r =>
    cases r with
    | none => simp only [allocA, Option.some.injEq, Prod.mk.injEq] at h; rw [← h.1]; exact trivial
    | some x => exact nomatch h
  case convert s d x =>
    split at h
    · split at h
      · simp only [Option.some.injEq, Prod.mk.injEq] at h; exact (bapp_eq h.1).2.1
      · exact nomatch h
    · exact nomatch h

/-- The evaluator has made a block; the model has not yet. -/
theorem Sim.pre {β : Beta} {h : AH} {w : World} (s : Sim B w0 βb hb wb β h w) {k : Blk} (hn : h.next < 65000) (hw : BW k) : Sim B w0 βb hb wb β (hnew h k) w := by
  have r := s.rel
  have hfr : β h.next = none := r.fresh _ (Nat.le_refl _)
  have hget := hnew_get h k (by omega)
  have hold : ∀ b k' e, (hnew h k).get b = some k' → β b = some e → h.get b = some k' := fun b k' e hb' he => by
    rw [hget] at hb'
    by_cases x : b = h.next
    · subst x; rw [hfr] at he; exact nomatch he
    · rwa [if_neg x] at hb'
  refine ⟨s.ext, ⟨fun b k' hb' => ?_, by show h.next + 1 ≤ 65001; omega, fun b hb' => r.fresh b (by have : h.next + 1 ≤ b := hb'; omega), fun b k' hb' => ?_, fun b k' e h1 h2 => r.blk b k' e (hold _ _ _ h1 h2) h2,
    fun b k' e h1 h2 h3 => r.lo b k' e (hold _ _ _ h1 h2) h2 h3, fun b b' k1 k2 e e' h1 h2 h3 h4 h5 => r.inj b b' k1 k2 e e' (hold _ _ _ h1 h3) (hold _ _ _ h2 h4) h3 h4 h5, r.low, r.below⟩, ?_, ?_⟩
  · show b < h.next + 1
    rw [hget] at hb'
    by_cases x : b = h.next
    · omega
    · rw [if_neg x] at hb'; have := r.wf _ _ hb'; omega
  · rw [hget] at hb'
    by_cases x : b = h.next
    · rw [if_pos x] at hb'; cases hb'; exact hw
    · rw [if_neg x] at hb'; exact r.bw _ _ hb'
  · show hb.next ≤ h.next + 1; have := s.nxt; omega
  · intro b hlt hn'
    obtain ⟨k1, k2⟩ := s.keep b hlt hn'
    exact ⟨k1, by rw [hget, if_neg (by have := s.nxt; omega)]; exact k2⟩

/-- The model makes a block that the evaluator has made before. -/
theorem Sim.at {β : Beta} {h : AH} {w w1 : World} (s : Sim B w0 βb hb wb β h w) {b : Nat} {k : Blk} {o : Obj} {m : Nat} (hw1 : w1.heap = w.heap ∧ w1.os = w.os ∧ w1.tape = w.tape ∧ w1.output = w.output)
    (hβ : β b = none) (hg : h.get b = some k) (hlo : hb.next ≤ b) (hlt : b < h.next) (hk : BRel (bmap β b ⟨w1.heap.size, 0, m⟩) k ⟨w1.heap.size, 0, m⟩ (w1.alloc o)) :
    Sim B w0 βb hb wb (bmap β b ⟨w1.heap.size, 0, m⟩) h (w1.alloc o) := by
  have r : Rel B w0 β h w1 := s.rel.of_heap hw1.1 hw1.2.1 hw1.2.2.1 hw1.2.2.2
  have hle : BLe β (bmap β b ⟨w1.heap.size, 0, m⟩) := .bmap hβ
  have hold : ∀ x e, x ≠ b → bmap β b ⟨w1.heap.size, 0, m⟩ x = some e → β x = some e := fun x e hx he => by
    unfold bmap at he; rwa [if_neg hx] at he
  have hnewe : ∀ e, bmap β b ⟨w1.heap.size, 0, m⟩ b = some e → e = ⟨w1.heap.size, 0, m⟩ := fun e he => by
    unfold bmap at he; rw [if_pos rfl] at he; cases he; rfl
  refine ⟨s.ext.trans hle, ⟨r.wf, r.nx, ?_, r.bw, ?_, ?_, ?_, ?_, ?_⟩, s.nxt, ?_⟩
  · intro x hx
    unfold bmap
    rw [if_neg (by omega)]
    exact r.fresh x hx
  · intro x k' e h1 h2
    by_cases hx : x = b
    · subst hx
      rw [hg] at h1
      cases h1
      rw [hnewe _ h2]
      exact hk
    · have hr := r.blk x k' e h1 (hold _ _ hx h2)
      have hlt' := hr.lt
      exact hr.mono hle (by rw [alloc_heap, if_neg (by omega)])
  · intro x k' e h1 h2 h3
    by_cases hx : x = b
    · subst hx; rw [hnewe _ h2]; exact r.low
    · exact r.lo _ _ _ h1 (hold _ _ hx h2) h3
  · intro x y k1 k2 e1 e2 h1 h2 h3 h4 h5
    by_cases hx : x = b
    · by_cases hy : y = b
      · exact hx.trans hy.symm
      · have := (r.blk _ _ _ h2 (hold _ _ hy h4)).lt
        subst hx
        rw [hnewe _ h3] at h5
        simp only at h5
        omega
    · by_cases hy : y = b
      · have := (r.blk _ _ _ h1 (hold _ _ hx h3)).lt
        subst hy
        rw [hnewe _ h4] at h5
        simp only at h5
        omega
      · exact r.inj _ _ _ _ _ _ h1 h2 (hold _ _ hx h3) (hold _ _ hy h4) h5
  · simp; have := r.low; omega
  · exact r.below.alloc r.low o
  · intro x hx hn
    obtain ⟨k1, k2⟩ := s.keep x hx hn
    refine ⟨?_, k2⟩
    unfold bmap
    rw [if_neg (by omega)]
    exact k1

/-! ## The invariant -/

noncomputable def W (s : List OI) (e0 e : Env) (q : OI) : Bool := wantV q.g fun t => rho s q e0 e (.tmp t)

/-- What is known of an operation that the evaluator has carried out and the model has not. -/
def POK (P : Program) (s : List OI) (e0 : Env) (hb : AH) (e : Env) (h : AH) (β : Beta) (bk : Nat → Nat) (q : OI) : Prop :=
  (W s e0 e q = false ∧ ∀ t, q.o.dst = some t → (ea t).get e = undef) ∨
  (W s e0 e q = true ∧ q.c < 2 ∧ ∃ v, opA P q.o.type (rho s q e0 e) h q.o.op = .val v h ∧ ∀ t, q.o.dst = some t → (ea t).get e = v) ∨
  (W s e0 e q = true ∧ q.c = 2 ∧ hb.next ≤ bk q.i ∧ bk q.i < h.next ∧ β (bk q.i) = none ∧ ∃ k K, allocA P (rho s q e0 e) q.o.op = some (some k, K) ∧ h.get (bk q.i) = some k ∧
    ∀ t, q.o.dst = some t → (ea t).get e = K ⟨bk q.i, 0, none⟩)

structure Inv (P : Program) (B : Nat) (w0 : World) (βb : Beta) (hb : AH) (wb : World) (ops : Array Oper) (n : Nat) (s : List OI) (e0 : Env) (d : List Deferred)
    (pre l : List OI) (L : Array Bool) (e : Env) (h : AH) (β : Beta) (a : Act) (w : World) (bk : Nat → Nat) : Prop where
  sim : Sim B w0 βb hb wb β h w
  siz : a.tmps.size = n
  lsz : L.size = ops.size
  spl : s = pre ++ l
  ord : ∃ last, PlanL pre last l
  pran : ∀ p ∈ pre, ∀ i, p.anc.testBit i = true → ∃ p' ∈ pre, p'.i = i
  sub : ∀ i, On L i → ∃ q ∈ pre, q.i = i
  eff : ∀ q ∈ pre, q.c = 3 → On L q.i
  c4 : ∀ q ∈ pre, q.c < 4
  cl : Closed ops L
  s1 : ∀ q ∈ pre, ∀ t : Nat, q.o.dst = some t → On L q.i → VRel β ((ea t).get e) (a.tmps.getD t undef)
  s2 : ∀ t : Nat, t < n → (∀ q ∈ pre, q.o.dst = some t → ¬ On L q.i) → VRel β ((ea t).get e0) (a.tmps.getD t undef)
  ini : ∀ t : Nat, t < n → (∀ q ∈ pre, q.o.dst ≠ some t) → (ea t).get e = (ea t).get e0
  pd : ∀ q ∈ pre, ¬ On L q.i → POK P s e0 hb e h β bk q
  bks : ∀ p ∈ pre, ∀ q ∈ pre, ¬ On L p.i → ¬ On L q.i → p.c = 2 → q.c = 2 → W s e0 e p = true → W s e0 e q = true → p.i ≠ q.i → bk p.i ≠ bk q.i
  ds : DsRel β d a.defers

section
variable {ops : Array Oper} {n G : Nat} {s : List OI} {e0 : Env} {d : List Deferred} {pre l : List OI} {L : Array Bool} {e : Env} {h : AH} {β : Beta} {a : Act} {w : World} {bk : Nat → Nat}

theorem Plan.same (pl : Plan P ops s) {x y : OI} (hx : x ∈ s) (hy : y ∈ s) (h : x.i = y.i) : x.o = y.o := by
  have h1 := (pl.ok x hx).get
  have h2 := (pl.ok y hy).get
  rw [h, h2] at h1
  exact (Option.some.inj h1).symm
theorem Plan.lt (pl : Plan P ops s) {x : OI} (hx : x ∈ s) : x.i < ops.size := (Array.getElem?_eq_some_iff.1 (pl.ok x hx).get).1

theorem Inv.mem (iv : Inv P B w0 βb hb wb ops n s e0 d pre l L e h β a w bk) {q : OI} (hq : q ∈ pre) : q ∈ s := by rw [iv.spl]; exact List.mem_append_left _ hq
theorem Inv.mem' (iv : Inv P B w0 βb hb wb ops n s e0 d pre l L e h β a w bk) {q : OI} (hq : q ∈ l) : q ∈ s := by rw [iv.spl]; exact List.mem_append_right _ hq
theorem Inv.fresh (iv : Inv P B w0 βb hb wb ops n s e0 d pre l L e h β a w bk) {q : OI} (hq : q ∈ l) : ∀ p ∈ pre, p.i ≠ q.i := let ⟨_, ho⟩ := iv.ord; ho.fresh q hq
theorem Inv.off (iv : Inv P B w0 βb hb wb ops n s e0 d pre l L e h β a w bk) {q : OI} (hq : q ∈ l) : ¬ On L q.i := fun h => by
  obtain ⟨p, hp, hi⟩ := iv.sub _ h
  exact iv.fresh hq p hp hi
/-- whoever has come, whom it comes behind has come -/
theorem Inv.anc (iv : Inv P B w0 βb hb wb ops n s e0 d pre l L e h β a w bk) (pl : Plan P ops s) {p : OI} (hp : p ∈ s) (ho : On L p.i) : ∀ i, p.anc.testBit i = true → On L i :=
  fun i hi => (pl.ok p hp).anc L iv.cl (fun e he hbe => iv.cl p.i p.o (pl.ok p hp).get ho e he hbe) i hi

/-- THE SLOTS that an operation names, when its turn has come. -/
theorem Inv.opd (iv : Inv P B w0 βb hb wb ops n s e0 d pre l L e h β a w bk) (pl : Plan P ops s) (hops : ∀ o ∈ ops.toList, opOk n G o = true) {q : OI} (hq : q ∈ s) (hoff : ¬ On L q.i)
    (hanc : ∀ i, q.anc.testBit i = true → On L i) {t : Nat} (ht : Nm q t) : VRel β (rho s q e0 e (.tmp t)) (a.tmps.getD t undef) := by
  have hlt := ht.lt hops (pl.ok q hq)
  by_cases hx : ∃ p ∈ s, p.o.dst = some t ∧ q.anc.testBit p.i = true
  · rw [rho_pos hx]
    obtain ⟨p, hp, hd, ha⟩ := hx
    have hon := hanc _ ha
    obtain ⟨p', hp', hi⟩ := iv.sub _ hon
    have := pl.same (iv.mem hp') hp hi
    exact iv.s1 p' hp' t (by rw [this]; exact hd) (by rw [hi]; exact hon)
  · rw [rho_neg hx]
    refine iv.s2 t hlt fun p hp hd hon => ?_
    by_cases hi : p.i = q.i
    · rw [hi] at hon; exact hoff hon
    · rcases pl.use p (iv.mem hp) q hq hi t hd ((pl.ok q hq).nm t ht) with h1 | ⟨h1, _⟩
      · exact hx ⟨p, iv.mem hp, hd, h1⟩
      · exact hoff (iv.anc pl (iv.mem hp) hon _ h1)

/-- the evaluator's slots at the head of what is left -/
theorem Inv.cur {q : OI} (iv : Inv P B w0 βb hb wb ops n s e0 d pre (q :: l) L e h β a w bk) (pl : Plan P ops s) (hops : ∀ o ∈ ops.toList, opOk n G o = true) {t : Nat} (ht : Nm q t) :
    rho s q e0 e (.tmp t) = (ea t).get e := by
  have hq := iv.mem' (q := q) (by simp)
  by_cases hx : ∃ p ∈ s, p.o.dst = some t ∧ q.anc.testBit p.i = true
  · exact rho_pos hx
  · rw [rho_neg hx, iv.ini t (ht.lt hops (pl.ok q hq)) fun p hp hd => ?_]
    have hne := iv.fresh (q := q) (by simp) p hp
    rcases pl.use p (iv.mem hp) q hq hne t hd ((pl.ok q hq).nm t ht) with h1 | ⟨h1, _⟩
    · exact hx ⟨p, iv.mem hp, hd, h1⟩
    · obtain ⟨p', hp', hi⟩ := iv.pran p hp _ h1
      exact iv.fresh (q := q) (by simp) p' hp' hi

/-- a slot that is written does not matter to those that have been carried out -/
theorem Inv.stay {q : OI} (iv : Inv P B w0 βb hb wb ops n s e0 d pre (q :: l) L e h β a w bk) (pl : Plan P ops s) (hops : ∀ o ∈ ops.toList, opOk n G o = true) (hn : n ≤ 240) {p : OI} (hp : p ∈ pre) (v : Value) {t : Nat} (ht : Nm p t) :
    rho s p e0 (putD e q.o.dst v) (.tmp t) = rho s p e0 e (.tmp t) := by
  have hlt := ht.lt hops (pl.ok p (iv.mem hp))
  by_cases hx : ∃ x ∈ s, x.o.dst = some t ∧ p.anc.testBit x.i = true
  · rw [rho_pos hx, rho_pos hx]
    obtain ⟨x, hxs, hd, ha⟩ := hx
    obtain ⟨p', hp', hi⟩ := iv.pran p hp _ ha
    have hne : x.i ≠ q.i := by rw [← hi]; exact iv.fresh (q := q) (by simp) p' hp'
    have h1 := pl.one x hxs q (iv.mem' (by simp)) hne t hd
    cases hq : q.o.dst with
    | none => rfl
    | some u =>
      have hu : @LT.lt Nat _ u n := opOk_dst (hops _ (mem_ops (pl.ok q (iv.mem' (by simp))).get)) u hq
      have hne' : t ≠ u := fun e => by subst e; exact h1 hq
      exact ea_other t u e v (by omega) (by omega) hne'
  · rw [rho_neg hx, rho_neg hx]

/-- what reads, and has been carried out: its slots are as they were -/
theorem Inv.look (iv : Inv P B w0 βb hb wb ops n s e0 d pre l L e h β a w bk) (pl : Plan P ops s) (hops : ∀ o ∈ ops.toList, opOk n G o = true) {p : OI} (hp : p ∈ pre) (hc : p.c = 1) {t : Nat} (ht : Nm p t) :
    rho s p e0 e (.tmp t) = (ea t).get e := by
  by_cases hx : ∃ x ∈ s, x.o.dst = some t ∧ p.anc.testBit x.i = true
  · exact rho_pos hx
  · have hps := iv.mem hp
    rw [rho_neg hx, iv.ini t (ht.lt hops (pl.ok p hps)) fun x hxp hd => ?_]
    have hxs := iv.mem hxp
    have hm := (pl.ok p hps).nm t ht
    by_cases hi : x.i = p.i
    · have := pl.same hxs hps hi
      exact pl.self p hps t (by rw [← this]; exact hd) hm hc
    · rcases pl.use x hxs p hps hi t hd hm with h1 | ⟨_, h1⟩
      · exact hx ⟨x, hxs, hd, h1⟩
      · exact h1 hc

theorem rho_eval {q : OI} (h : ∀ t, Nm q t → rho s q e0 e (.tmp t) = (ea t).get e) : ∀ x ∈ q.o.op.operands.toList, rho s q e0 e x = evalE e x := fun x hx => by
  cases x with
  | tmp t => exact h t (.inl hx)
  | _ => rfl
theorem rho_stay {p : OI} {e' : Env} (h : ∀ t, Nm p t → rho s p e0 e' (.tmp t) = rho s p e0 e (.tmp t)) : ∀ x ∈ p.o.op.operands.toList, rho s p e0 e' x = rho s p e0 e x := fun x hx => by
  cases x with
  | tmp t => exact h t (.inl hx)
  | _ => rfl

theorem Inv.opds (iv : Inv P B w0 βb hb wb ops n s e0 d pre l L e h β a w bk) (pl : Plan P ops s) (hops : ∀ o ∈ ops.toList, opOk n G o = true) (hg : GRel G β) {q : OI} (hq : q ∈ s) (hoff : ¬ On L q.i)
    (hanc : ∀ i, q.anc.testBit i = true → On L i) : ∀ x ∈ q.o.op.operands.toList, VRel β (rho s q e0 e x) (a.eval x) := fun x hx => by
  have hok := opOk_opd (hops _ (mem_ops (pl.ok q hq).get)) x hx
  cases x with
  | tmp t => exact iv.opd pl hops hq hoff hanc (.inl hx)
  | const v => exact .constV hok
  | global x =>
    obtain ⟨m, hm⟩ := hg x (blt_t.1 hok)
    exact VRel.ptr (o := 0) hm
  | func f => exact .func (.func f) rfl (fun i hi => absurd hi (Nat.not_lt_zero _)) rfl (fun i hi => absurd hi (Nat.not_lt_zero _))

theorem Inv.want (iv : Inv P B w0 βb hb wb ops n s e0 d pre l L e h β a w bk) (pl : Plan P ops s) (hops : ∀ o ∈ ops.toList, opOk n G o = true) {q : OI} (hq : q ∈ s) (hoff : ¬ On L q.i)
    (hanc : ∀ i, q.anc.testBit i = true → On L i) : W s e0 e q = Region.wanted q.o (yielded ops a.tmps) :=
  wantV_eq (β := β) (pl.ok q hq) fun t w' ht => ⟨by rw [iv.siz]; exact Nm.lt hops (pl.ok q hq) (.inr ⟨w', ht⟩), iv.opd pl hops hq hoff hanc (.inr ⟨w', ht⟩)⟩

/-- What is known of one that waits goes on. -/
theorem POK.step {p : OI} (hp : POK P s e0 hb e h β bk p) {e' : Env} {h' : AH} {β' : Beta} {bk' : Nat → Nat} (hr : ∀ t, Nm p t → rho s p e0 e' (.tmp t) = rho s p e0 e (.tmp t))
    (hd : ∀ t, p.o.dst = some t → (ea t).get e' = (ea t).get e)
    (hA : p.c < 2 → W s e0 e p = true → ∀ v, opA P p.o.type (rho s p e0 e) h p.o.op = .val v h → (∀ t, p.o.dst = some t → (ea t).get e = v) →
      ∃ v2, opA P p.o.type (rho s p e0 e) h' p.o.op = .val v2 h' ∧ ∀ t, p.o.dst = some t → (ea t).get e = v2)
    (hB : p.c = 2 → W s e0 e p = true → bk' p.i = bk p.i ∧ (β (bk p.i) = none → bk p.i < h.next → β' (bk p.i) = none ∧ h'.get (bk p.i) = h.get (bk p.i) ∧ h.next ≤ h'.next)) : POK P s e0 hb e' h' β' bk' p := by
  have hW : W s e0 e' p = W s e0 e p := wantV_congr fun t w' ht => hr t (.inr ⟨w', ht⟩)
  have hρ := rho_stay hr
  rcases hp with ⟨h1, h2⟩ | ⟨h1, h2, v, h3, h4⟩ | ⟨h1, h2, h3, h4, h5, k, K, h6, h7, h8⟩
  · exact .inl ⟨by rw [hW]; exact h1, fun t ht => by rw [hd t ht]; exact h2 t ht⟩
  · obtain ⟨v2, g1, g2⟩ := hA h2 h1 v h3 h4
    refine .inr (.inl ⟨by rw [hW]; exact h1, h2, v2, ?_, fun t ht => by rw [hd t ht]; exact g2 t ht⟩)
    rw [opA_congr _ _ _ hρ]
    exact g1
  · obtain ⟨g1, g2⟩ := hB h2 h1
    obtain ⟨g3, g4, g5⟩ := g2 h5 h4
    refine .inr (.inr ⟨by rw [hW]; exact h1, h2, by rw [g1]; exact h3, by rw [g1]; omega, by rw [g1]; exact g3, k, K, ?_, by rw [g1, g4]; exact h7, fun t ht => by rw [hd t ht, g1]; exact h8 t ht⟩)
    have e1 := allocA_op (P := P) (op := p.o.op)
    rw [← h6]
    exact allocA_congr hρ
  where
  allocA_congr {op : Op} {ρ ρ' : Operand → Value} (hx : ∀ x ∈ op.operands.toList, ρ x = ρ' x) : allocA P ρ op = allocA P ρ' op := by
    cases op <;> simp only [Op.operands] at hx <;> simp only [allocA]
    case box e x => rw [hx x (by simp)]
    case buildSlice t len ps =>
      split
      · rename_i q z pl h1 h2
        rw [h1] at h2
        simp only at h2
        rw [placesOf_congr (ρ := ρ) (ρ' := ρ') _ _ _ h2 fun p hp => hx p.2 (by simp only [List.mem_map]; exact ⟨p, hp, rfl⟩)]
      · rfl
    case makeSlice t l c => rw [hx l (by simp), hx c (by simp)]
    case makeMap t r => cases r <;> rfl
    case convert s d x => rw [hx x (by simp)]
end
end
end Go.Ab
/- Regions whose order is drawn: the steps, and the theorem. -/
namespace Go.Ab
open Go Go.RowKit

theorem same1_eq {x y : Value} (h : same1 x y = true) : x = y := by
  cases x with
  | bool a => cases y <;> first | (cases h; done) | skip
              rename_i b; simp only [same1, beq_iff_eq] at h; rw [h]
  | int j a => cases y <;> first | (cases h; done) | skip
               rename_i k b
               simp only [same1, iB_eq] at h
               split at h
               · rename_i hk; rw [eqI_eq, beq_iff_eq] at h; rw [kB_eq hk, h]
               · exact nomatch h
  | string a =>
    obtain ⟨⟨a⟩⟩ := a
    cases y <;> first | (cases h; done) | skip
    rename_i b
    obtain ⟨⟨b⟩⟩ := b
    simp only [same1, eqB_eq, beq_iff_eq] at h
    rw [h]
  | pointer a =>
    rcases a with _ | ⟨a, i, _ | f⟩
    · cases y <;> first | (cases h; done) | skip
      rename_i b
      cases b <;> first | rfl | (cases h; done)
    · cases y <;> first | (cases h; done) | skip
      rename_i b
      rcases b with _ | ⟨b, j, _ | g⟩ <;> first | (cases h; done) | skip
      simp only [same1, iB_eq] at h
      split at h
      · rename_i h1; rw [beq_t] at h h1; rw [h, h1]
      · exact nomatch h
    · cases h
  | slice a m c =>
    rcases a with _ | ⟨a, i, _ | f⟩
    · cases y <;> first | (cases h; done) | skip
      rename_i b m' c'
      cases b <;> first | (cases h; done) | skip
      simp only [same1, iB_eq] at h
      split at h
      · rename_i h1; rw [beq_t] at h h1; rw [h, h1]
      · exact nomatch h
    · cases y <;> first | (cases h; done) | skip
      rename_i b m' c'
      rcases b with _ | ⟨b, j, _ | g⟩ <;> first | (cases h; done) | skip
      simp only [same1, iB_eq] at h
      split at h
      · split at h
        · split at h
          · rename_i h1 h2 h3; rw [beq_t] at h h1 h2 h3; rw [h, h1, h2, h3]
          · exact nomatch h
        · exact nomatch h
      · exact nomatch h
    · cases h
  | map a =>
    cases a <;> (cases y <;> first | (cases h; done) | skip)
    · rename_i b; cases b <;> first | rfl | (cases h; done)
    · rename_i b; cases b <;> first | (cases h; done) | skip
      simp only [same1, beq_t] at h
      rw [h]
  | nilIface => cases y <;> first | rfl | (cases h; done)
  | nilFunc => cases y <;> first | rfl | (cases h; done)
  | func fn a c =>
    obtain ⟨a⟩ := a
    obtain ⟨c⟩ := c
    cases fn <;> first | (cases h; done) | skip
    cases a <;> first | (cases h; done) | skip
    cases c <;> first | (cases h; done) | skip
    cases y <;> first | (cases h; done) | skip
    rename_i fn' a' c'
    obtain ⟨a'⟩ := a'
    obtain ⟨c'⟩ := c'
    cases fn' <;> first | (cases h; done) | skip
    cases a' <;> first | (cases h; done) | skip
    cases c' <;> first | (cases h; done) | skip
    simp only [same1, beq_t] at h
    rw [h]
  | _ => cases h

theorem sameL_eq : ∀ (a b : List Value), sameL a b = true → a = b
  | [], b, h => by
    cases b with
    | nil => rfl
    | cons y t => cases h
  | x :: a, b, h => by
    cases b with
    | nil => cases h
    | cons y t =>
      have h' : iB (same1 x y) (sameL a t) false = true := h
      rw [iB_eq] at h'
      split at h'
      · rename_i h1; rw [same1_eq h1, sameL_eq a t h']
      · exact nomatch h'

theorem sameV_eq {x y : Value} (h : sameV x y = true) : x = y := by
  cases x with
  | agg a =>
    obtain ⟨a⟩ := a
    cases y <;> first | (cases h; done) | skip
    rename_i b
    obtain ⟨b⟩ := b
    rw [sameL_eq a b h]
  | _ => exact same1_eq h

theorem opA_cls1v {P : Program} {op : Op} (hc : clsOf P op = 1) (ty : TypeId) (ρ : Operand → Value) (h : AH) : ∃ ov : Option Value, opA P ty ρ h op = ofO h ov := by
  cases op <;> first | (simp [clsOf] at hc; done) | skip
  case load t a =>
    simp only [opA]
    cases aggB P t <;> cases szOf P t <;> first | exact ⟨none, rfl⟩ | exact ⟨_, rfl⟩
  case lookup t x i ok => exact ⟨_, rfl⟩
  case convert s d x =>
    simp only [clsOf] at hc
    cases hk : ckindOf P s d <;> rw [hk] at hc <;> first | (simp at hc; done) | skip
    simp only [opA, hk, convA]
    generalize ρ x = vx
    cases vx <;> first | exact ⟨none, rfl⟩ | skip
    rename_i base n c
    rcases base with _ | ⟨b, off, _ | f⟩
    · exact ⟨some (.string ⟨⟨[]⟩⟩), rfl⟩
    · cases n with
      | zero => exact ⟨some (.string ⟨⟨[]⟩⟩), rfl⟩
      | succ n =>
        simp only
        cases h.get b with
        | none => exact ⟨none, rfl⟩
        | some k =>
          simp only
          cases bcut k off (n + 1) with
          | none => exact ⟨none, rfl⟩
          | some l =>
            simp only
            cases bytesOfCells l with
            | none => exact ⟨none, rfl⟩
            | some bs => exact ⟨some (.string ⟨⟨bs⟩⟩), rfl⟩
    · exact ⟨none, rfl⟩
  case call c =>
    simp only [clsOf] at hc
    cases hk : c.callee <;> rw [hk] at hc <;> first | (simp at hc; done) | skip
    rename_i b
    generalize hargs : mapL ρ c.args.toList = args
    cases b <;> first | (simp at hc; done) | skip
    simp only [opA, hk, builtinA, hargs]
    clear hargs
    cases lnB P c.argTypes.toList with
    | none => exact ⟨none, rfl⟩
    | some q =>
      rcases args with _ | ⟨x, _ | ⟨y, l⟩⟩ <;> first | exact ⟨none, rfl⟩ | skip
      simp only
      unfold lenA
      split
      · exact ⟨some _, rfl⟩
      · rw [fN_eq]; exact ⟨some _, rfl⟩
      · exact ⟨some _, rfl⟩
      · split
        · exact ⟨some _, rfl⟩
        · exact ⟨none, rfl⟩
      · exact ⟨none, rfl⟩

section
variable {P : Program} {B : Nat} {w0 : World} {βb : Beta} {hb : AH} {wb : World}
variable {ops : Array Oper} {n G : Nat} {s : List OI} {e0 : Env} {d : List Deferred} {pre l : List OI} {L : Array Bool} {e : Env} {h : AH} {β : Beta} {a : Act} {w : World} {bk : Nat → Nat}

theorem put_get {a : Act} {o : Option Tmp} {v : Value} {t : Nat} (ha : t < a.tmps.size) : (a.put o v).tmps.getD t undef = match o with | some u => if t = u then v else a.tmps.getD t undef | none => a.tmps.getD t undef := by
  cases o with
  | none => rfl
  | some u =>
    simp only [Act.put]
    by_cases h : t = u
    · subst h
      rw [if_pos rfl, getD_set _ _ _ _ ha, if_pos rfl]
    · rw [if_neg h]
      simp only [Array.getD_eq_getD_getElem?]
      rw [Array.getElem?_setIfInBounds_ne (Ne.symm h)]

theorem put_size (a : Act) (o : Option Tmp) (v : Value) : (a.put o v).tmps.size = a.tmps.size := by cases o <;> simp [Act.put]

/-- THE MODEL carries out what the evaluator has carried out. -/
theorem Inv.exec (iv : Inv P B w0 βb hb wb ops n s e0 d pre l L e h β a w bk) (pl : Plan P ops s) (hops : ∀ o ∈ ops.toList, opOk n G o = true) {p : OI} (hp : p ∈ pre) (hoff : ¬ On L p.i)
    (hed : ∀ x ∈ p.o.after, Region.binds .any x = true → On L x.on) {β' : Beta} {w' : World} {v' : Value} (hs : Sim B w0 βb hb wb β' h w') (hle : BLe β β')
    (hv : ∀ t, p.o.dst = some t → VRel β' ((ea t).get e) v')
    (hkeep : ∀ q ∈ pre, ¬ On L q.i → q.i ≠ p.i → q.c = 2 → W s e0 e q = true → β (bk q.i) = none → bk q.i < h.next → β' (bk q.i) = none) :
    Inv P B w0 βb hb wb ops n s e0 d pre l (L.setIfInBounds p.i true) e h β' (a.put p.o.dst v') w' bk := by
  have hps := iv.mem hp
  have hlt : p.i < L.size := by rw [iv.lsz]; exact pl.lt hps
  have hon := fun j => On.set (L := L) (i := p.i) (j := j) hlt
  refine ⟨hs, by rw [put_size]; exact iv.siz, by simp [iv.lsz], iv.spl, iv.ord, iv.pran, ?_, ?_, iv.c4, ?_, ?_, ?_, iv.ini, ?_, ?_, by rw [Act.put_ds]; exact iv.ds.mono hle⟩
  · intro i hi
    rcases (hon i).1 hi with rfl | hi
    · exact ⟨p, hp, rfl⟩
    · exact iv.sub i hi
  · exact fun q hq hc => (hon _).2 (.inr (iv.eff q hq hc))
  · intro j o hj hjo x hx hbx
    rcases (hon j).1 hjo with rfl | hjo
    · have := (pl.ok p hps).get
      rw [this] at hj
      cases hj
      exact (hon _).2 (.inr (hed x hx hbx))
    · exact (hon _).2 (.inr (iv.cl j o hj hjo x hx hbx))
  · intro q hq t hd hq'
    have htn : t < n := opOk_dst (hops _ (mem_ops (pl.ok q (iv.mem hq)).get)) t hd
    rw [put_get (by rw [iv.siz]; exact htn)]
    by_cases hi : q.i = p.i
    · have ho := pl.same (iv.mem hq) hps hi
      have hd' : p.o.dst = some t := by rw [← ho]; exact hd
      rw [hd']
      show VRel β' ((ea t).get e) (if t = t then v' else a.tmps.getD t undef)
      rw [if_pos rfl]
      exact hv t hd'
    · have hne := pl.one q (iv.mem hq) p hps hi t hd
      have hq'' : On L q.i := by
        rcases (hon _).1 hq' with h | h
        · exact absurd h hi
        · exact h
      have := (iv.s1 q hq t hd hq'').mono hle
      cases hpd : p.o.dst with
      | none => exact this
      | some u =>
        simp only
        rw [if_neg (fun e => hne (by rw [hpd, e]))]
        exact this
  · intro t htn hno
    rw [put_get (by rw [iv.siz]; exact htn)]
    have h1 : p.o.dst ≠ some t := fun hd => hno p hp hd ((hon _).2 (.inl rfl))
    have := (iv.s2 t htn fun q hq hd ho => hno q hq hd ((hon _).2 (.inr ho))).mono hle
    cases hpd : p.o.dst with
    | none => exact this
    | some u =>
      simp only
      rw [if_neg (fun e => h1 (by rw [hpd, e]))]
      exact this
  · intro q hq hqo
    have h1 : q.i ≠ p.i := fun e => hqo ((hon _).2 (.inl e))
    have h2 : ¬ On L q.i := fun h => hqo ((hon _).2 (.inr h))
    exact (iv.pd q hq h2).step (fun t _ => rfl) (fun t _ => rfl) (fun _ _ v h3 h4 => ⟨v, h3, h4⟩) fun hc hw => ⟨rfl, fun g1 g2 => ⟨hkeep q hq h2 h1 hc hw g1 g2, rfl, Nat.le_refl _⟩⟩
  · intro p1 hp1 q1 hq1 ho1 ho2
    exact iv.bks p1 hp1 q1 hq1 (fun h => ho1 ((hon _).2 (.inr h))) (fun h => ho2 ((hon _).2 (.inr h)))

/-- THE MODEL's TURN at one that waits. -/
theorem Inv.turn (iv : Inv P B w0 βb hb wb ops n s e0 d pre l L e h β a w bk) (pl : Plan P ops s) (hops : ∀ o ∈ ops.toList, opOk n G o = true) (hg : GRel G βb) {p : OI} (hp : p ∈ pre) (hr : p.i ∈ Region.ready .any ops L)
    {Q : Exit → Act → World → Prop} {K : Act → World → Prop} (hK : ∀ (β' : Beta) (v' : Value) (w' : World), Inv P B w0 βb hb wb ops n s e0 d pre l (L.setIfInBounds p.i true) e h β' (a.put p.o.dst v') w' bk → K (a.put p.o.dst v') w') :
    wpOp P ops Q p.i K a w := by
  have hps := iv.mem hp
  obtain ⟨hr1, o, hr2, hr3⟩ := mem_ready.1 hr
  have ho : o = p.o := by
    have := (pl.ok p hps).get
    rw [hr2] at this
    exact Option.some.inj this
  subst ho
  have hlt : p.i < L.size := by rw [iv.lsz]; exact pl.lt hps
  have hoff : ¬ On L p.i := (On.not hlt).2 hr1
  have hed : ∀ x ∈ p.o.after, Region.binds .any x = true → On L x.on := hr3
  have hanc : ∀ i, p.anc.testBit i = true → On L i := (pl.ok p hps).anc L iv.cl hed
  have hβ : GRel G β := hg.mono iv.sim.ext
  unfold wpOp
  simp only [hr2]
  rw [← iv.want pl hops hps hoff hanc]
  have hopd := iv.opds pl hops hβ hps hoff hanc
  rcases iv.pd p hp hoff with ⟨h1, h2⟩ | ⟨h1, h2, v, h3, h4⟩ | ⟨h1, h2, h3, h4, h5, k, K', h6, h7, h8⟩
  · rw [h1, if_neg (by simp)]
    exact hK β undef w (iv.exec pl hops hp hoff hed iv.sim (.refl β) (fun t ht => by rw [h2 t ht]; exact .undef) fun q _ _ _ _ _ h _ => h)
  · rw [h1, if_pos rfl]
    refine .inl ?_
    unfold Oper.wp
    have hop := opA_sound (P := P) iv.sim.rel p.o hopd
    rw [h3] at hop
    obtain ⟨v', β', w', hR, hs, hv⟩ := hop
    have hi := iv.exec pl hops hp hoff hed (v' := v') (iv.sim.trans hs) hs.ext (fun t ht => by rw [h4 t ht]; exact hv) fun q hq _ _ _ _ h5 h6 => (hs.keep _ h6 h5).1
    rcases hR with hR | ⟨hR, rfl⟩
    · rw [hR]; exact hK _ _ _ hi
    · rw [hR]; exact hK _ _ _ hi
  · rw [h1, if_pos rfl]
    refine .inl ?_
    unfold Oper.wp
    have hc : clsOf P p.o.op = 2 := by rw [← (pl.ok p hps).c]; exact h2
    obtain ⟨w1, ob, m, v', hw1, hR, _, hnew⟩ := allocA_new (P := P) (w := w) hc hopd h6 k rfl
    rw [hR]
    have hle : BLe β (bmap β (bk p.i) ⟨w1.heap.size, 0, m⟩) := .bmap h5
    obtain ⟨g1, g2⟩ := hnew _ (bk p.i) hle (by simp [bmap])
    refine hK _ _ _ (iv.exec pl hops hp hoff hed (iv.sim.at hw1 h5 h7 h3 h4 g1) hle (fun t ht => by rw [h8 t ht]; exact g2) fun q hq hqo hqi hqc hqw g3 g4 => ?_)
    unfold bmap
    rw [if_neg (iv.bks q hq p hp hqo hoff hqc h2 hqw h1 hqi)]
    exact g3

/-- THE EVALUATOR's TURN at one that makes no change. -/
theorem Inv.adv {q : OI} (iv : Inv P B w0 βb hb wb ops n s e0 d pre (q :: l) L e h β a w bk) (pl : Plan P ops s) (hops : ∀ o ∈ ops.toList, opOk n G o = true) (hn : n ≤ 240) (hc : q.c < 3) {call : Rec} {rest : List Stp}
    (hne : opsA P call (.op q.g q.o :: rest) e d h ≠ .stuck) : ∃ e' h' bk', Inv P B w0 βb hb wb ops n s e0 d (pre ++ [q]) l L e' h' β a w bk' ∧ opsA P call (.op q.g q.o :: rest) e d h = opsA P call rest e' d h' := by
  have hq : q ∈ s := iv.mem' (by simp)
  have hqo : ¬ On L q.i := iv.off (by simp)
  have hqn : ∀ t : Nat, q.o.dst = some t → t < n := fun t ht => opOk_dst (hops _ (mem_ops (pl.ok q hq).get)) t ht
  have hcur := fun t (ht : Nm q t) => iv.cur pl hops ht
  have hev := rho_eval hcur
  have hWg : W s e0 e q = wantG q.g e := by
    rw [wantG_V]
    exact wantV_congr fun t w' ht => hcur t (.inr ⟨w', ht⟩)
  -- all that does not hang on what it comes to
  have key : ∀ (v : Value) (h' : AH) (bk' : Nat → Nat), Sim B w0 βb hb wb β h' w → POK P s e0 hb (putD e q.o.dst v) h' β bk' q →
      (∀ p ∈ pre, ¬ On L p.i → POK P s e0 hb e h β bk p → p.c < 2 → W s e0 e p = true → ∀ u, opA P p.o.type (rho s p e0 e) h p.o.op = .val u h → opA P p.o.type (rho s p e0 e) h' p.o.op = .val u h') →
      (∀ p ∈ pre, ¬ On L p.i → p.c = 2 → W s e0 e p = true → bk' p.i = bk p.i ∧ (β (bk p.i) = none → bk p.i < h.next → h'.get (bk p.i) = h.get (bk p.i) ∧ h.next ≤ h'.next)) →
      (∀ p ∈ pre, ¬ On L p.i → p.c = 2 → q.c = 2 → W s e0 e p = true → W s e0 e q = true → bk' p.i ≠ bk' q.i) →
      Inv P B w0 βb hb wb ops n s e0 d (pre ++ [q]) l L (putD e q.o.dst v) h' β a w bk' := by
    intro v h' bk' hs hpq hA hB hbk
    have hother : ∀ t : Nat, t < n → q.o.dst ≠ some t → (ea t).get (putD e q.o.dst v) = (ea t).get e := fun t ht hd => by
      cases hqd : q.o.dst with
      | none => rfl
      | some u =>
        have hu := hqn u hqd
        have hne' : t ≠ u := fun e => hd (by rw [hqd, e])
        exact ea_other t u e v (by omega) (by omega) hne'
    have hdst : ∀ p ∈ pre, ∀ t, p.o.dst = some t → (ea t).get (putD e q.o.dst v) = (ea t).get e := fun p hp t hd => by
      have h1 := pl.one p (iv.mem hp) q hq (iv.fresh (by simp) p hp) t hd
      exact hother t (opOk_dst (hops _ (mem_ops (pl.ok p (iv.mem hp)).get)) t hd) h1
    have hstay := fun p (hp : p ∈ pre) t (ht : Nm p t) => iv.stay pl hops hn hp v ht
    have hWp : ∀ p ∈ pre, W s e0 (putD e q.o.dst v) p = W s e0 e p := fun p hp => wantV_congr fun t w' ht => hstay p hp t (.inr ⟨w', ht⟩)
    obtain ⟨last, hord⟩ := iv.ord
    refine ⟨hs, iv.siz, iv.lsz, by rw [iv.spl]; simp, ⟨_, hord.2.2.2.2⟩, ?_, ?_, ?_, ?_, iv.cl, ?_, ?_, ?_, ?_, ?_, iv.ds⟩
    · intro p hp i hi
      rcases List.mem_append.1 hp with hp | hp
      · obtain ⟨p', hp', hpi⟩ := iv.pran p hp i hi
        exact ⟨p', by simp [hp'], hpi⟩
      · have : p = q := by simpa using hp
        subst this
        obtain ⟨p', hp', hpi⟩ := hord.2.1 i hi
        exact ⟨p', by simp [hp'], hpi⟩
    · intro i hi
      obtain ⟨p', hp', hpi⟩ := iv.sub i hi
      exact ⟨p', by simp [hp'], hpi⟩
    · intro p hp hpc
      rcases List.mem_append.1 hp with hp | hp
      · exact iv.eff p hp hpc
      · have : p = q := by simpa using hp
        subst this
        omega
    · intro p hp
      rcases List.mem_append.1 hp with hp | hp
      · exact iv.c4 p hp
      · have : p = q := by simpa using hp
        subst this
        omega
    · intro p hp t hd ho
      rcases List.mem_append.1 hp with hp | hp
      · rw [hdst p hp t hd]; exact iv.s1 p hp t hd ho
      · have : p = q := by simpa using hp
        subst this
        exact absurd ho hqo
    · intro t ht hno
      exact iv.s2 t ht fun p hp => hno p (by simp [hp])
    · intro t ht hno
      rw [hother t ht (hno q (by simp))]
      exact iv.ini t ht fun p hp => hno p (by simp [hp])
    · intro p hp ho
      rcases List.mem_append.1 hp with hp | hp
      · have hpk := iv.pd p hp ho
        exact hpk.step (hstay p hp) (hdst p hp) (fun h1 h2 u h3 h4 => ⟨u, hA p hp ho hpk h1 h2 u h3, h4⟩) fun h1 h2 => ⟨(hB p hp ho h1 h2).1, fun g1 g2 => ⟨g1, (hB p hp ho h1 h2).2 g1 g2⟩⟩
      · have : p = q := by simpa using hp
        subst this
        exact hpq
    · have hWq : W s e0 (putD e q.o.dst v) q = true → q.c = 2 → W s e0 e q = true := by
        intro h1 h2
        rcases hpq with ⟨g1, _⟩ | ⟨_, g2, _⟩ | ⟨g1, _⟩
        · rw [h1] at g1; exact nomatch g1
        · omega
        · have e1 : W s e0 (putD e q.o.dst v) q = W s e0 e q := wantV_congr fun t w' ht => by
            have hNm : Nm q t := .inr ⟨w', ht⟩
            by_cases hx : ∃ x ∈ s, x.o.dst = some t ∧ q.anc.testBit x.i = true
            · rw [rho_pos hx, rho_pos hx]
              obtain ⟨x, hxs, hd, ha⟩ := hx
              obtain ⟨p', hp', hi⟩ := hord.2.1 _ ha
              have hne : x.i ≠ q.i := by rw [← hi]; exact iv.fresh (q := q) (by simp) p' hp'
              exact hother t (hNm.lt hops (pl.ok q hq)) (pl.one x hxs q hq hne t hd)
            · rw [rho_neg hx, rho_neg hx]
          rw [← e1]; exact h1
      intro p hp0 p' hp0' ho1 ho2 hc1 hc2 hw1 hw2 hne4
      rcases List.mem_append.1 hp0 with hp | hp
      · rw [hWp p hp] at hw1
        rcases List.mem_append.1 hp0' with hp' | hp'
        · rw [hWp p' hp'] at hw2
          rw [(hB p hp ho1 hc1 hw1).1, (hB p' hp' ho2 hc2 hw2).1]
          exact iv.bks p hp p' hp' ho1 ho2 hc1 hc2 hw1 hw2 hne4
        · have e1 : p' = q := by simpa using hp'
          rw [e1] at hw2 hc2 ⊢
          exact hbk p hp ho1 hc1 hc2 hw1 (hWq hw2 hc2)
      · have e1 : p = q := by simpa using hp
        rw [e1] at hw1 hc1 hne4 ⊢
        rcases List.mem_append.1 hp0' with hp' | hp'
        · rw [hWp p' hp'] at hw2
          exact fun e => hbk p' hp' ho2 hc2 hc1 hw2 (hWq hw1 hc1) e.symm
        · have e2 : p' = q := by simpa using hp'
          exact absurd (by rw [e2]) hne4
  -- the new one's slots, behind what it writes
  have hrq : ∀ v t, Nm q t → rho s q e0 (putD e q.o.dst v) (.tmp t) = rho s q e0 e (.tmp t) := fun v t ht => by
    obtain ⟨last, hord⟩ := iv.ord
    by_cases hx : ∃ x ∈ s, x.o.dst = some t ∧ q.anc.testBit x.i = true
    · rw [rho_pos hx, rho_pos hx]
      obtain ⟨x, hxs, hd, ha⟩ := hx
      obtain ⟨p', hp', hi⟩ := hord.2.1 _ ha
      have hne : x.i ≠ q.i := by rw [← hi]; exact iv.fresh (q := q) (by simp) p' hp'
      have h1 := pl.one x hxs q hq hne t hd
      cases hqd : q.o.dst with
      | none => rfl
      | some u =>
        have hu := hqn u hqd
        have ht' := ht.lt hops (pl.ok q hq)
        have hne' : t ≠ u := fun e => h1 (by rw [hqd, e])
        exact ea_other t u e v (by omega) (by omega) hne'
    · rw [rho_neg hx, rho_neg hx]
  have hWq : ∀ v, W s e0 (putD e q.o.dst v) q = W s e0 e q := fun v => wantV_congr fun t w' ht => hrq v t (.inr ⟨w', ht⟩)
  have hself : ∀ v t, q.o.dst = some t → (ea t).get (putD e q.o.dst v) = v := fun v t ht => by
    rw [ht]
    have := hqn t ht
    exact ea_same t e v (by omega)
  cases hwant : wantG q.g e with
  | false =>
    have e1 : opsA P call (.op q.g q.o :: rest) e d h = opsA P call rest (putD e q.o.dst undef) d h := by simp only [opsA, hwant]
    refine ⟨_, h, bk, key undef h bk iv.sim (.inl ⟨by rw [hWq, hWg]; exact hwant, hself undef⟩) (fun p _ _ _ _ _ u hu => hu) (fun p _ _ _ _ => ⟨rfl, fun _ _ => ⟨rfl, Nat.le_refl _⟩⟩) (fun p _ _ _ _ _ hw => by rw [hWg, hwant] at hw; exact nomatch hw), e1⟩
  | true =>
    have hcl : clsOf P q.o.op = q.c := (pl.ok q hq).c.symm
    simp only [opsA, hwant] at hne ⊢
    have hc3 : q.c = 0 ∨ q.c = 1 ∨ q.c = 2 := by omega
    rcases hc3 with hc0 | hc1 | hc2
    · obtain ⟨ov, hov⟩ := opA_cls0 (P := P) (by rw [hcl]; exact hc0) q.o.type (evalE e)
      cases ov with
      | none => rw [hov h] at hne; exact absurd rfl hne
      | some v =>
        rw [hov h]
        refine ⟨_, h, bk, key v h bk iv.sim (.inr (.inl ⟨by rw [hWq, hWg]; exact hwant, by omega, v, ?_, hself v⟩)) (fun p _ _ _ _ _ u hu => hu) (fun p _ _ _ _ => ⟨rfl, fun _ _ => ⟨rfl, Nat.le_refl _⟩⟩) (fun p _ _ _ hq2 => by omega), rfl⟩
        rw [opA_congr _ _ _ (rho_stay (hrq v)), opA_congr _ _ _ hev, hov h]; rfl
    · cases hA : opA P q.o.type (evalE e) h q.o.op with
      | val v h' =>
        obtain ⟨rfl, _⟩ := opA_cls1 (P := P) (h2 := h) (by rw [hcl]; exact hc1) _ _ hA fun b k hk => hk
        refine ⟨_, h', bk, key v h' bk iv.sim (.inr (.inl ⟨by rw [hWq, hWg]; exact hwant, by omega, v, ?_, hself v⟩)) (fun p _ _ _ _ _ u hu => hu) (fun p _ _ _ _ => ⟨rfl, fun _ _ => ⟨rfl, Nat.le_refl _⟩⟩) (fun p _ _ _ hq2 => by omega), rfl⟩
        rw [opA_congr _ _ _ (rho_stay (hrq v)), opA_congr _ _ _ hev, hA]
      | stuck => rw [hA] at hne; exact absurd rfl hne
      | call f args h' => obtain ⟨ov, hov⟩ := opA_cls1v (P := P) (by rw [hcl]; exact hc1) q.o.type (evalE e) h; rw [hA] at hov; cases ov <;> exact nomatch hov
      | defer x h' => obtain ⟨ov, hov⟩ := opA_cls1v (P := P) (by rw [hcl]; exact hc1) q.o.type (evalE e) h; rw [hA] at hov; cases ov <;> exact nomatch hov
      | panic v h' => obtain ⟨ov, hov⟩ := opA_cls1v (P := P) (by rw [hcl]; exact hc1) q.o.type (evalE e) h; rw [hA] at hov; cases ov <;> exact nomatch hov
    · have hne2 : opA P q.o.type (evalE e) h q.o.op ≠ .stuck := fun hh => by rw [hh] at hne; exact hne rfl
      obtain ⟨k, K, h6, h7, h8⟩ := opA_cls2 (P := P) (by rw [hcl]; exact hc2) q.o.type (evalE e) hne2
      rw [h8]
      have hget := hnew_get h k (by omega)
      have hext : ∀ b k', h.get b = some k' → (hnew h k).get b = some k' := fun b k' hb' => by
        have := iv.sim.rel.wf _ _ hb'
        rw [hget, if_neg (by omega)]
        exact hb'
      refine ⟨_, hnew h k, fun i => if i = q.i then h.next else bk i, key _ _ _ (iv.sim.pre h7 (allocA_bw h6)) (.inr (.inr ⟨by rw [hWq, hWg]; exact hwant, hc2, ?_, ?_, ?_, k, K, ?_, ?_, ?_⟩)) ?_ ?_ ?_, rfl⟩
      · simp only [if_pos]; exact iv.sim.nxt
      · simp only [if_pos]; show h.next < h.next + 1; omega
      · simp only [if_pos]; exact iv.sim.rel.fresh _ (Nat.le_refl _)
      · rw [POK.step.allocA_congr (rho_stay (hrq _)), POK.step.allocA_congr hev]; exact h6
      · simp only [if_pos]; rw [hget, if_pos rfl]
      · intro t ht; simp only [if_pos]; exact hself _ t ht
      · intro p hp ho hpk hp2 hw u hu
        have hpc : p.c = 0 ∨ p.c = 1 := by omega
        have hpcl : clsOf P p.o.op = p.c := (pl.ok p (iv.mem hp)).c.symm
        rcases hpc with hpc | hpc
        · obtain ⟨ov, hov⟩ := opA_cls0 (P := P) (by rw [hpcl]; exact hpc) p.o.type (rho s p e0 e)
          rw [hov] at hu ⊢
          obtain ⟨rfl, _⟩ := ofO_val hu
          rfl
        · exact (opA_cls1 (P := P) (by rw [hpcl]; exact hpc) _ _ hu hext).2
      · intro p hp ho hpc hpw
        have hne3 : p.i ≠ q.i := iv.fresh (q := q) (by simp) p hp
        refine ⟨by simp only [if_neg hne3], fun g1 g2 => ⟨by rw [hget, if_neg (by omega)], by show h.next ≤ h.next + 1; omega⟩⟩
      · intro p hp ho hpc _ hpw _
        have hne3 : p.i ≠ q.i := iv.fresh (q := q) (by simp) p hp
        simp only [if_neg hne3, if_pos]
        rcases iv.pd p hp ho with ⟨g1, _⟩ | ⟨_, g2, _⟩ | ⟨_, _, _, g4, _⟩
        · rw [hpw] at g1; exact nomatch g1
        · omega
        · omega
end
end Go.Ab
/- Regions whose order is drawn: the theorem. -/
namespace Go.Ab
open Go Go.RowKit

section
variable {P : Program} {B : Nat} {w0 : World} {βb : Beta} {hb : AH} {wb : World}
variable {ops : Array Oper} {n G : Nat} {s : List OI} {e0 : Env} {d : List Deferred} {pre l : List OI} {L : Array Bool} {e : Env} {h : AH} {β : Beta} {a : Act} {w : World} {bk : Nat → Nat}

/-- A CHANGE, on both sides. -/
theorem Inv.did {q : OI} (iv : Inv P B w0 βb hb wb ops n s e0 d pre (q :: l) L e h β a w bk) (pl : Plan P ops s) (hops : ∀ o ∈ ops.toList, opOk n G o = true) (hn : n ≤ 240) (hc : q.c = 3)
    (hed : ∀ x ∈ q.o.after, Region.binds .any x = true → On L x.on) {v v' : Value} {h' : AH} {β' : Beta} {w' : World} (hs : Sim B w0 βb hb wb β' h' w') (hle : BLe β β') (hv : VRel β' v v')
    (hA : ∀ p ∈ pre, ¬ On L p.i → p.c < 2 → W s e0 e p = true → ∀ u, opA P p.o.type (rho s p e0 e) h p.o.op = .val u h → (∀ t, p.o.dst = some t → (ea t).get e = u) →
      ∃ u2, opA P p.o.type (rho s p e0 e) h' p.o.op = .val u2 h' ∧ ∀ t, p.o.dst = some t → (ea t).get e = u2)
    (hB : ∀ p ∈ pre, ¬ On L p.i → p.c = 2 → W s e0 e p = true → β (bk p.i) = none → bk p.i < h.next → β' (bk p.i) = none ∧ h'.get (bk p.i) = h.get (bk p.i) ∧ h.next ≤ h'.next) :
    Inv P B w0 βb hb wb ops n s e0 d (pre ++ [q]) l (L.setIfInBounds q.i true) (putD e q.o.dst v) h' β' (a.put q.o.dst v') w' bk := by
  have hq : q ∈ s := iv.mem' (by simp)
  have hlt : q.i < L.size := by rw [iv.lsz]; exact pl.lt hq
  have hon := fun j => On.set (L := L) (i := q.i) (j := j) hlt
  have hqn : ∀ t : Nat, q.o.dst = some t → t < n := fun t ht => opOk_dst (hops _ (mem_ops (pl.ok q hq).get)) t ht
  have hother : ∀ t : Nat, t < n → q.o.dst ≠ some t → (ea t).get (putD e q.o.dst v) = (ea t).get e := fun t ht hd => by
    cases hqd : q.o.dst with
    | none => rfl
    | some u =>
      have hu := hqn u hqd
      have hne' : t ≠ u := fun e => hd (by rw [hqd, e])
      exact ea_other t u e v (by omega) (by omega) hne'
  have hputo : ∀ t : Nat, t < n → q.o.dst ≠ some t → (a.put q.o.dst v').tmps.getD t undef = a.tmps.getD t undef := fun t ht hd => by
    rw [put_get (by rw [iv.siz]; exact ht)]
    cases hqd : q.o.dst with
    | none => rfl
    | some u =>
      simp only
      rw [if_neg (fun e => hd (by rw [hqd, e]))]
  have hself : ∀ t : Nat, q.o.dst = some t → (ea t).get (putD e q.o.dst v) = v ∧ (a.put q.o.dst v').tmps.getD t undef = v' := fun t ht => by
    have h1 := hqn t ht
    rw [put_get (by rw [iv.siz]; exact h1), ht]
    refine ⟨ea_same t e v (by omega), ?_⟩
    show (if t = t then v' else _) = v'
    rw [if_pos rfl]
  have hpn : ∀ p ∈ pre, ∀ t : Nat, p.o.dst = some t → t < n ∧ q.o.dst ≠ some t := fun p hp t hd =>
    ⟨opOk_dst (hops _ (mem_ops (pl.ok p (iv.mem hp)).get)) t hd, pl.one p (iv.mem hp) q hq (iv.fresh (by simp) p hp) t hd⟩
  have hstay := fun p (hp : p ∈ pre) t (ht : Nm p t) => iv.stay pl hops hn hp v ht
  have hWp : ∀ p ∈ pre, W s e0 (putD e q.o.dst v) p = W s e0 e p := fun p hp => wantV_congr fun t w' ht => hstay p hp t (.inr ⟨w', ht⟩)
  obtain ⟨last, hord⟩ := iv.ord
  refine ⟨hs, by rw [put_size]; exact iv.siz, by simp [iv.lsz], by rw [iv.spl]; simp, ⟨_, hord.2.2.2.2⟩, ?_, ?_, ?_, ?_, ?_, ?_, ?_, ?_, ?_, ?_, by rw [Act.put_ds]; exact iv.ds.mono hle⟩
  · intro p hp i hi
    rcases List.mem_append.1 hp with hp | hp
    · obtain ⟨p', hp', hpi⟩ := iv.pran p hp i hi
      exact ⟨p', by simp [hp'], hpi⟩
    · have e1 : p = q := by simpa using hp
      rw [e1] at hi
      obtain ⟨p', hp', hpi⟩ := hord.2.1 i hi
      exact ⟨p', by simp [hp'], hpi⟩
  · intro i hi
    rcases (hon i).1 hi with rfl | hi
    · exact ⟨q, by simp, rfl⟩
    · obtain ⟨p', hp', hpi⟩ := iv.sub i hi
      exact ⟨p', by simp [hp'], hpi⟩
  · intro p hp hpc
    rcases List.mem_append.1 hp with hp | hp
    · exact (hon _).2 (.inr (iv.eff p hp hpc))
    · have e1 : p = q := by simpa using hp
      rw [e1]
      exact (hon _).2 (.inl rfl)
  · intro p hp
    rcases List.mem_append.1 hp with hp | hp
    · exact iv.c4 p hp
    · have e1 : p = q := by simpa using hp
      rw [e1]; omega
  · intro j o hj hjo x hx hbx
    rcases (hon j).1 hjo with rfl | hjo
    · have := (pl.ok q hq).get
      rw [this] at hj
      cases hj
      exact (hon _).2 (.inr (hed x hx hbx))
    · exact (hon _).2 (.inr (iv.cl j o hj hjo x hx hbx))
  · intro p hp t hd ho
    rcases List.mem_append.1 hp with hp | hp
    · obtain ⟨h1, h2⟩ := hpn p hp t hd
      rw [hother t h1 h2, hputo t h1 h2]
      refine (iv.s1 p hp t hd ?_).mono hle
      rcases (hon _).1 ho with h | h
      · exact absurd h (iv.fresh (by simp) p hp)
      · exact h
    · have e1 : p = q := by simpa using hp
      rw [e1] at hd
      obtain ⟨h1, h2⟩ := hself t hd
      rw [h1, h2]
      exact hv
  · intro t ht hno
    have h1 : q.o.dst ≠ some t := fun hd => hno q (by simp) hd ((hon _).2 (.inl rfl))
    rw [hputo t ht h1]
    exact (iv.s2 t ht fun p hp hd ho => hno p (by simp [hp]) hd ((hon _).2 (.inr ho))).mono hle
  · intro t ht hno
    rw [hother t ht (hno q (by simp))]
    exact iv.ini t ht fun p hp => hno p (by simp [hp])
  · intro p hp ho
    rcases List.mem_append.1 hp with hp | hp
    · have h2 : ¬ On L p.i := fun h => ho ((hon _).2 (.inr h))
      exact (iv.pd p hp h2).step (hstay p hp) (fun t hd => hother t (hpn p hp t hd).1 (hpn p hp t hd).2) (fun g1 g2 u g3 g4 => hA p hp h2 g1 g2 u g3 g4) fun g1 g2 => ⟨rfl, fun g3 g4 => hB p hp h2 g1 g2 g3 g4⟩
    · have e1 : p = q := by simpa using hp
      rw [e1] at ho
      exact absurd ((hon _).2 (.inl rfl)) ho
  · intro p hp p' hp' ho1 ho2 hc1 hc2 hw1 hw2 hne
    rcases List.mem_append.1 hp with hp | hp
    · rcases List.mem_append.1 hp' with hp' | hp'
      · rw [hWp p hp] at hw1
        rw [hWp p' hp'] at hw2
        exact iv.bks p hp p' hp' (fun h => ho1 ((hon _).2 (.inr h))) (fun h => ho2 ((hon _).2 (.inr h))) hc1 hc2 hw1 hw2 hne
      · have e1 : p' = q := by simpa using hp'
        rw [e1] at ho2
        exact absurd ((hon _).2 (.inl rfl)) ho2
    · have e1 : p = q := by simpa using hp
      rw [e1] at ho1
      exact absurd ((hon _).2 (.inl rfl)) ho1

/-- looks that are passed -/
theorem chks_pass {call : Rec} {rest : List Stp} {e : Env} {d : List Deferred} {h : AH} : ∀ (rs : List OI), opsA P call ((rs.map fun r => .chk r.g r.o) ++ rest) e d h ≠ .stuck →
    opsA P call ((rs.map fun r => .chk r.g r.o) ++ rest) e d h = opsA P call rest e d h ∧
      ∀ r ∈ rs, wantG r.g e = true → ∃ v h2 t, opA P r.o.type (evalE e) h r.o.op = .val v h2 ∧ r.o.dst = some t ∧ v = (ea t).get e
  | [], hne => ⟨rfl, fun r hr => absurd hr (by simp)⟩
  | r :: rs, hne => by
    simp only [List.map_cons, List.cons_append, opsA] at hne ⊢
    cases hw : wantG r.g e with
    | false =>
      rw [hw] at hne
      obtain ⟨h1, h2⟩ := chks_pass rs hne
      refine ⟨h1, fun r' hr' hw' => ?_⟩
      rcases List.mem_cons.1 hr' with rfl | hr'
      · rw [hw] at hw'; exact nomatch hw'
      · exact h2 r' hr' hw'
    | true =>
      rw [hw] at hne
      simp only at hne ⊢
      cases hA : opA P r.o.type (evalE e) h r.o.op with
      | val v h2 =>
        rw [hA] at hne
        simp only at hne ⊢
        cases hd : r.o.dst with
        | none => rw [hd] at hne; exact absurd rfl hne
        | some t =>
          rw [hd] at hne
          simp only at hne ⊢
          cases hsv : sameV v ((ea t).get e) with
          | false => rw [hsv] at hne; exact absurd rfl hne
          | true =>
            rw [hsv] at hne
            obtain ⟨g1, g2⟩ := chks_pass rs hne
            refine ⟨g1, fun r' hr' hw' => ?_⟩
            rcases List.mem_cons.1 hr' with rfl | hr'
            · exact ⟨v, h2, t, hA, hd, sameV_eq hsv⟩
            · exact g2 r' hr' hw'
      | _ => rw [hA] at hne; exact absurd rfl hne

/-- THE TURN OF A CHANGE. -/
theorem Inv.chg {q : OI} (iv : Inv P B w0 βb hb wb ops n s e0 d pre (q :: l) L e h β a w bk) (pl : Plan P ops s) (hops : ∀ o ∈ ops.toList, opOk n G o = true) (hn : n ≤ 240) (hg : GRel G βb) (hc : q.c = 3) (hr : q.i ∈ Region.ready .any ops L)
    {call : Rec} (hcall : CallOK P G call) {reads : List OI} (hreads : ∀ p ∈ pre, p.c = 1 → p ∈ reads) {rest : List Stp}
    (hne : opsA P call (.eff q.g q.o :: (((reads.filter fun r => !Nat.testBit q.anc r.i).map fun r => .chk r.g r.o) ++ rest)) e d h ≠ .stuck) {K : Act → World → Prop}
    (hK : ∀ (e' : Env) (h' : AH) (β' : Beta) (v' : Value) (w' : World), Inv P B w0 βb hb wb ops n s e0 d (pre ++ [q]) l (L.setIfInBounds q.i true) e' h' β' (a.put q.o.dst v') w' bk →
      opsA P call (.eff q.g q.o :: (((reads.filter fun r => !Nat.testBit q.anc r.i).map fun r => .chk r.g r.o) ++ rest)) e d h = opsA P call rest e' d h' → K (a.put q.o.dst v') w') :
    wpOp P ops (QR B w0 n βb hb wb (opsA P call (.eff q.g q.o :: (((reads.filter fun r => !Nat.testBit q.anc r.i).map fun r => .chk r.g r.o) ++ rest)) e d h)) q.i K a w := by
  have hq : q ∈ s := iv.mem' (by simp)
  obtain ⟨hr1, o, hr2, hr3⟩ := mem_ready.1 hr
  have ho : o = q.o := by
    have := (pl.ok q hq).get
    rw [hr2] at this
    exact Option.some.inj this
  subst ho
  have hlt : q.i < L.size := by rw [iv.lsz]; exact pl.lt hq
  have hoff : ¬ On L q.i := (On.not hlt).2 hr1
  have hed : ∀ x ∈ q.o.after, Region.binds .any x = true → On L x.on := hr3
  have hanc : ∀ i, q.anc.testBit i = true → On L i := (pl.ok q hq).anc L iv.cl hed
  have hβ : GRel G β := hg.mono iv.sim.ext
  have hcur := fun t (ht : Nm q t) => iv.cur pl hops ht
  have hev := rho_eval hcur
  have hWg : W s e0 e q = wantG q.g e := by
    rw [wantG_V]
    exact wantV_congr fun t w' ht => hcur t (.inr ⟨w', ht⟩)
  have hopd := iv.opds pl hops hβ hq hoff hanc
  have hqn : ∀ t : Nat, q.o.dst = some t → t < n := fun t ht => opOk_dst (hops _ (mem_ops (pl.ok q hq).get)) t ht
  have hother : ∀ (v : Value) (t : Nat), t < n → q.o.dst ≠ some t → (ea t).get (putD e q.o.dst v) = (ea t).get e := fun v t ht hd => by
    cases hqd : q.o.dst with
    | none => rfl
    | some u =>
      have hu := hqn u hqd
      have hne' : t ≠ u := fun e => hd (by rw [hqd, e])
      exact ea_other t u e v (by omega) (by omega) hne'
  -- the looks
  have looks : ∀ (v : Value) (h' : AH), (∀ r ∈ (reads.filter fun r => !Nat.testBit q.anc r.i), wantG r.g (putD e q.o.dst v) = true → ∃ v2 h2 t, opA P r.o.type (evalE (putD e q.o.dst v)) h' r.o.op = .val v2 h2 ∧ r.o.dst = some t ∧ v2 = (ea t).get (putD e q.o.dst v)) →
      ∀ p ∈ pre, ¬ On L p.i → p.c < 2 → W s e0 e p = true → ∀ u, opA P p.o.type (rho s p e0 e) h p.o.op = .val u h → (∀ t, p.o.dst = some t → (ea t).get e = u) →
        ∃ u2, opA P p.o.type (rho s p e0 e) h' p.o.op = .val u2 h' ∧ ∀ t, p.o.dst = some t → (ea t).get e = u2 := by
    intro v h' hl p hp hpo hpc hpw u hu hue
    have hps := iv.mem hp
    have hcl : clsOf P p.o.op = p.c := (pl.ok p hps).c.symm
    have hpc' : p.c = 0 ∨ p.c = 1 := by omega
    rcases hpc' with hpc0 | hpc1
    · obtain ⟨ov, hov⟩ := opA_cls0 (P := P) (by rw [hcl]; exact hpc0) p.o.type (rho s p e0 e)
      rw [hov] at hu
      obtain ⟨rfl, _⟩ := ofO_val hu
      exact ⟨u, hov h', hue⟩
    · have hne1 : p.i ≠ q.i := iv.fresh (by simp) p hp
      have hslot : ∀ t : Nat, Nm p t → (ea t).get (putD e q.o.dst v) = rho s p e0 e (.tmp t) := fun t ht => by
        rw [iv.look pl hops hp hpc1 ht]
        refine hother v t (ht.lt hops (pl.ok p hps)) fun hd => ?_
        rcases pl.use q hq p hps (Ne.symm hne1) t hd ((pl.ok p hps).nm t ht) with h1 | ⟨_, h1⟩
        · obtain ⟨p', hp', hi⟩ := iv.pran p hp _ h1
          exact iv.fresh (q := q) (by simp) p' hp' hi
        · exact h1 hpc1
      have hmem : p ∈ reads.filter fun r => !Nat.testBit q.anc r.i := by
        rw [List.mem_filter]
        refine ⟨hreads p hp hpc1, ?_⟩
        cases hb : Nat.testBit q.anc p.i with
        | false => rfl
        | true => exact absurd (hanc _ hb) hpo
      obtain ⟨v2, h2, t, g1, g2, g3⟩ := hl p hmem (by
        rw [wantG_V, ← hpw]
        exact wantV_congr fun t w' ht => hslot t (.inr ⟨w', ht⟩))
      have hρ : ∀ x ∈ p.o.op.operands.toList, evalE (putD e q.o.dst v) x = rho s p e0 e x := fun x hx => by
        cases x with
        | tmp t => exact hslot t (.inl hx)
        | _ => rfl
      rw [opA_congr _ _ _ hρ] at g1
      obtain ⟨rfl, _⟩ := opA_cls1 (P := P) (h2 := h') (by rw [hcl]; exact hpc1) _ _ g1 fun b k hk => hk
      refine ⟨v2, g1, fun t' ht' => ?_⟩
      rw [g2] at ht'
      cases ht'
      rw [g3]
      exact (hother v t (opOk_dst (hops _ (mem_ops (pl.ok p hps).get)) t g2) (pl.one p hps q hq hne1 t g2)).symm
  unfold wpOp
  simp only [hr2]
  rw [← iv.want pl hops hq hoff hanc, hWg]
  cases hw : wantG q.g e with
  | false =>
    rw [if_neg (by simp)]
    have e1 : opsA P call (.eff q.g q.o :: (((reads.filter fun r => !Nat.testBit q.anc r.i).map fun r => .chk r.g r.o) ++ rest)) e d h =
        opsA P call (((reads.filter fun r => !Nat.testBit q.anc r.i).map fun r => .chk r.g r.o) ++ rest) (putD e q.o.dst undef) d h := by simp only [opsA, hw]
    rw [e1] at hne
    obtain ⟨g1, g2⟩ := chks_pass _ hne
    exact hK _ h β undef w (iv.did pl hops hn hc hed iv.sim (.refl β) .undef (looks undef h g2) fun p hp _ _ _ h5 h6 => ⟨h5, rfl, Nat.le_refl _⟩) (by rw [e1, g1])
  | true =>
    rw [if_pos rfl]
    refine .inl ?_
    unfold Oper.wp
    have hop := opA_sound (P := P) iv.sim.rel q.o hopd
    rw [opA_congr _ _ _ hev] at hop
    -- a value
    have fin : ∀ (v v' : Value) (h' : AH) (β' : Beta) (w' : World), Sim B w0 β h w β' h' w' → VRel β' v v' →
        opsA P call (.eff q.g q.o :: (((reads.filter fun r => !Nat.testBit q.anc r.i).map fun r => .chk r.g r.o) ++ rest)) e d h =
          opsA P call (((reads.filter fun r => !Nat.testBit q.anc r.i).map fun r => .chk r.g r.o) ++ rest) (putD e q.o.dst v) d h' → K (a.put q.o.dst v') w' := by
      intro v v' h' β' w' hs hv e1
      rw [e1] at hne
      obtain ⟨g1, g2⟩ := chks_pass _ hne
      exact hK _ h' β' v' w' (iv.did pl hops hn hc hed (iv.sim.trans hs) hs.ext hv (looks v h' g2) fun p hp _ _ _ h5 h6 => ⟨(hs.keep _ h6 h5).1, (hs.keep _ h6 h5).2, hs.nxt⟩) (by rw [e1, g1])
    cases hA : opA P q.o.type (evalE e) h q.o.op with
    | val v h' =>
      rw [hA] at hop
      obtain ⟨v', β', w', hR, hs, hv⟩ := hop
      have e1 : opsA P call (.eff q.g q.o :: (((reads.filter fun r => !Nat.testBit q.anc r.i).map fun r => .chk r.g r.o) ++ rest)) e d h =
          opsA P call (((reads.filter fun r => !Nat.testBit q.anc r.i).map fun r => .chk r.g r.o) ++ rest) (putD e q.o.dst v) d h' := by simp only [opsA, hw, hA]
      rcases hR with hR | ⟨hR, rfl⟩
      · rw [hR]; exact fin _ _ _ _ _ hs hv e1
      · rw [hR]; exact fin _ _ _ _ _ hs hv e1
    | call f args h' =>
      rw [hA] at hop
      obtain ⟨rfl, args', hl, hR⟩ := hop
      rw [hR]
      have hcc := hcall f args h' B w0 β w args' iv.sim.rel hβ hl
      cases hrec : call f args h' with
      | ret v h2 =>
        rw [hrec] at hcc
        have e1 : opsA P call (.eff q.g q.o :: (((reads.filter fun r => !Nat.testBit q.anc r.i).map fun r => .chk r.g r.o) ++ rest)) e d h' =
            opsA P call (((reads.filter fun r => !Nat.testBit q.anc r.i).map fun r => .chk r.g r.o) ++ rest) (putD e q.o.dst v) d h2 := by simp only [opsA, hw, hA, hrec]
        rcases hcc with ⟨v', β', w', hR', hs, hv⟩ | ⟨hR', hcalls⟩
        · rw [hR']; exact fin _ _ _ _ _ hs hv e1
        · rw [hR']
          refine Calls.mono hcalls fun e' w' ⟨v', β', he', hs, hv⟩ => ?_
          subst he'
          exact fin _ _ _ _ _ hs hv e1
      | pan v h2 =>
        rw [hrec] at hcc
        obtain ⟨hR', hcalls⟩ := hcc
        rw [hR']
        refine Calls.mono hcalls fun e' w' ⟨v', β', he', hs, hv⟩ => ?_
        subst he'
        cases d with
        | nil =>
          have e1 : opsA P call (.eff q.g q.o :: (((reads.filter fun r => !Nat.testBit q.anc r.i).map fun r => .chk r.g r.o) ++ rest)) e [] h' = .pan v e [] h2 := by simp only [opsA, hw, hA, hrec]
          show QR B w0 n βb hb wb (opsA P call (.eff q.g q.o :: (((reads.filter fun r => !Nat.testBit q.anc r.i).map fun r => .chk r.g r.o) ++ rest)) e [] h') (.panic [{ v := v', recovered := false }]) a w'
          rw [e1]
          exact ⟨v', β', rfl, hv, iv.sim.trans hs, .inl rfl, iv.ds.mono hs.ext⟩
        | cons x d =>
          exfalso
          apply hne
          simp only [opsA, hw, hA, hrec]
      | stuck =>
        exfalso
        apply hne
        simp only [opsA, hw, hA, hrec]
    | defer x h' => exfalso; apply hne; simp only [opsA, hw, hA]
    | panic v h' => exfalso; apply hne; simp only [opsA, hw, hA]
    | stuck => exfalso; apply hne; simp only [opsA, hw, hA]

/-- how many have not come -/
def Un (ops : Array Oper) (L : Array Bool) : Nat := (List.range ops.size).countP fun i => !(L.getD i false)

theorem countP_lt {p p' : Nat → Bool} : ∀ (l : List Nat) (x : Nat), x ∈ l → p x = true → p' x = false → (∀ y, p' y = true → p y = true) → l.countP p' < l.countP p
  | y :: l, x, hx, h1, h2, h3 => by
    have hle : l.countP p' ≤ l.countP p := List.countP_mono_left fun z _ hz => h3 z hz
    rcases List.mem_cons.1 hx with rfl | hx
    · rw [List.countP_cons_of_pos h1, List.countP_cons_of_neg (by rw [h2]; simp)]
      omega
    · have ih := countP_lt l x hx h1 h2 h3
      rw [List.countP_cons, List.countP_cons]
      by_cases h4 : p' y = true
      · rw [if_pos h4, if_pos (h3 y h4)]; omega
      · rw [if_neg h4]; split <;> omega

theorem Un.lt {L : Array Bool} (hL : L.size = ops.size) {i : Nat} (hi : i < ops.size) (ho : ¬ On L i) : Un ops (L.setIfInBounds i true) < Un ops L := by
  have hon := fun j => On.set (L := L) (i := i) (j := j) (by omega)
  refine countP_lt _ i (List.mem_range.2 hi) ?_ ?_ ?_
  · unfold On at ho
    simpa using ho
  · have := (hon i).2 (.inl rfl)
    unfold On at this
    simp [this]
  · intro y hy
    have h1 : ¬ On (L.setIfInBounds i true) y := by unfold On; simpa using hy
    have : ¬ On L y := fun h => h1 ((hon y).2 (.inr h))
    unfold On at this
    simpa using this

theorem Un.zero {L : Array Bool} (h : Un ops L = 0) {i : Nat} (hi : i < ops.size) : On L i := by
  unfold Un at h
  rw [List.countP_eq_zero] at h
  have := h i (List.mem_range.2 hi)
  unfold On
  simpa using this

/-- at the end -/
theorem Inv.fin (iv : Inv P B w0 βb hb wb ops n s e0 d pre [] L e h β a w bk) (hall : ∀ q ∈ pre, On L q.i) : QR B w0 n βb hb wb (.norm e d h) .normal a w := by
  refine ⟨β, iv.sim, ⟨iv.siz, fun t ht => ?_⟩, iv.ds⟩
  by_cases hx : ∃ q ∈ pre, q.o.dst = some t
  · obtain ⟨q, hq, hd⟩ := hx
    exact iv.s1 q hq t hd (hall q hq)
  · rw [iv.ini t ht fun q hq hd => hx ⟨q, hq, hd⟩]
    exact iv.s2 t ht fun q hq hd => absurd ⟨q, hq, hd⟩ hx

/-- none is ready: all have come -/
theorem Inv.all (iv : Inv P B w0 βb hb wb ops n s e0 d pre l L e h β a w bk) (pl : Plan P ops s) (hr : Region.ready .any ops L = []) : ∀ q ∈ s, On L q.i := by
  have key : ∀ (l1 l2 : List OI) (last : Option Nat), s = l1 ++ l2 → PlanL l1 last l2 → (∀ q ∈ l1, On L q.i) → ∀ q ∈ l2, On L q.i := by
    intro l1 l2
    induction l2 generalizing l1 with
    | nil => intro last _ _ _ q hq; exact absurd hq (by simp)
    | cons q l2 ih =>
      intro last hs hp h1
      have hqs : q ∈ s := by rw [hs]; simp
      have hqo : On L q.i := by
        apply Classical.byContradiction
        intro hno
        have : q.i ∈ Region.ready .any ops L := by
          rw [mem_ready]
          refine ⟨(On.not (by rw [iv.lsz]; exact pl.lt hqs)).1 hno, q.o, (pl.ok q hqs).get, fun x hx hb => ?_⟩
          obtain ⟨p, hp', hi⟩ := hp.2.1 x.on ((pl.ok q hqs).dir x hx hb)
          have := h1 p hp'
          rw [hi] at this
          exact this
        rw [hr] at this
        exact absurd this (by simp)
      intro q' hq'
      rcases List.mem_cons.1 hq' with rfl | hq'
      · exact hqo
      · exact ih (l1 ++ [q]) _ (by rw [hs]; simp) hp.2.2.2.2 (fun p hp => by
          rcases List.mem_append.1 hp with hp | hp
          · exact h1 p hp
          · have : p = q := by simpa using hp
            rw [this]; exact hqo) q' hq'
  exact key [] s none rfl pl.ord (fun q hq => absurd hq (by simp))

theorem drawn_main {call : Rec} (hcall : CallOK P G call) (pl : Plan P ops s) (hops : ∀ o ∈ ops.toList, opOk n G o = true) (hn : n ≤ 240) (hg : GRel G βb) : ∀ (fuel : Nat) (l pre reads : List OI) (L : Array Bool) (e : Env) (h : AH) (β : Beta) (a : Act) (w : World) (bk : Nat → Nat),
    Inv P B w0 βb hb wb ops n s e0 d pre l L e h β a w bk → (∀ p ∈ pre, p.c = 1 → p ∈ reads) → Un ops L ≤ fuel → opsA P call (stepsOf reads l) e d h ≠ .stuck →
    wpAny P .any ops (QR B w0 n βb hb wb (opsA P call (stepsOf reads l) e d h)) fuel L a w := by
  intro fuel
  induction fuel with
  | zero =>
    intro l pre reads L e h β a w bk iv hreads hun hne
    have hall : ∀ i, i < ops.size → On L i := fun i hi => Un.zero (Nat.le_zero.1 hun) hi
    cases l with
    | cons q l => exact absurd (hall q.i (pl.lt (iv.mem' (by simp)))) (iv.off (by simp))
    | nil =>
      refine ⟨?_, iv.fin fun q hq => hall q.i (pl.lt (iv.mem hq))⟩
      cases hr : Region.ready .any ops L with
      | nil => rfl
      | cons i rs =>
        have hi : i ∈ Region.ready .any ops L := by rw [hr]; simp
        obtain ⟨h1, o, h2, _⟩ := mem_ready.1 hi
        have hlt := (Array.getElem?_eq_some_iff.1 h2).1
        exact absurd (hall i hlt) ((On.not (by rw [iv.lsz]; exact hlt)).2 h1)
  | succ fuel ih =>
    intro l
    induction l with
    | nil =>
      intro pre reads L e h β a w bk iv hreads hun hne
      refine ⟨fun hr => iv.fin fun q hq => iv.all pl hr q (iv.mem hq), fun i hi => ?_⟩
      obtain ⟨h1, o, h2, _⟩ := mem_ready.1 hi
      have hlt := (Array.getElem?_eq_some_iff.1 h2).1
      obtain ⟨p, hp, rfl⟩ := pl.cov i hlt
      have hp' : p ∈ pre := by rw [iv.spl] at hp; simpa using hp
      refine iv.turn pl hops hg hp' hi fun β' v' w' iv' => ih [] pre reads _ e h β' _ w' bk iv' hreads ?_ hne
      have := Un.lt iv.lsz hlt ((On.not (by rw [iv.lsz]; exact hlt)).2 h1)
      omega
    | cons q l ihl =>
      intro pre reads L e h β a w bk iv hreads hun hne
      obtain ⟨last, hord⟩ := iv.ord
      have hc4 := hord.1
      have adv : ∀ (rest : List Stp) (reads' : List OI), q.c < 3 → (∀ p ∈ pre ++ [q], p.c = 1 → p ∈ reads') → stepsOf reads (q :: l) = .op q.g q.o :: stepsOf reads' l →
          wpAny P .any ops (QR B w0 n βb hb wb (opsA P call (stepsOf reads (q :: l)) e d h)) (fuel + 1) L a w := by
        intro rest reads' hc hr' hst
        rw [hst] at hne ⊢
        obtain ⟨e', h', bk', iv', e1⟩ := iv.adv pl hops hn hc hne
        rw [e1] at hne ⊢
        exact ihl (pre ++ [q]) reads' L e' h' β a w bk' iv' hr' hun hne
      have hcs : q.c = 0 ∨ q.c = 1 ∨ q.c = 2 ∨ q.c = 3 := by omega
      rcases hcs with hc | hc | hc | hc
      · refine adv [] reads (by omega) (fun p hp hpc => ?_) (by simp only [stepsOf, hc])
        rcases List.mem_append.1 hp with hp | hp
        · exact hreads p hp hpc
        · have : p = q := by simpa using hp
          rw [this] at hpc; omega
      · refine adv [] (q :: reads) (by omega) (fun p hp hpc => ?_) (by simp only [stepsOf, hc])
        rcases List.mem_append.1 hp with hp | hp
        · exact List.mem_cons_of_mem _ (hreads p hp hpc)
        · have : p = q := by simpa using hp
          rw [this]; exact List.mem_cons_self ..
      · refine adv [] reads (by omega) (fun p hp hpc => ?_) (by simp only [stepsOf, hc])
        rcases List.mem_append.1 hp with hp | hp
        · exact hreads p hp hpc
        · have : p = q := by simpa using hp
          rw [this] at hpc; omega
      · have hst : stepsOf reads (q :: l) = .eff q.g q.o :: (((reads.filter fun r => !Nat.testBit q.anc r.i).map fun r => .chk r.g r.o) ++ stepsOf reads l) := by simp only [stepsOf, hc]
        refine ⟨fun hr => absurd (iv.all pl hr q (iv.mem' (by simp))) (iv.off (by simp)), fun i hi => ?_⟩
        obtain ⟨h1, o, h2, h3⟩ := mem_ready.1 hi
        have hlt := (Array.getElem?_eq_some_iff.1 h2).1
        have hio : ¬ On L i := (On.not (by rw [iv.lsz]; exact hlt)).2 h1
        have hun' := Un.lt iv.lsz hlt hio
        obtain ⟨p, hp, rfl⟩ := pl.cov i hlt
        rw [iv.spl] at hp
        rcases List.mem_append.1 hp with hp | hp
        · exact iv.turn pl hops hg hp hi fun β' v' w' iv' => ih (q :: l) pre reads _ e h β' _ w' bk iv' hreads (by omega) hne
        · rcases List.mem_cons.1 hp with rfl | hp
          · rw [hst] at hne ⊢
            refine iv.chg pl hops hn hg hc hi hcall hreads hne fun e' h' β' v' w' iv' e1 => ?_
            rw [e1] at hne ⊢
            refine ih l (pre ++ [p]) reads _ e' h' β' _ w' bk iv' (fun p' hp' hpc => ?_) (by omega) hne
            rcases List.mem_append.1 hp' with hp' | hp'
            · exact hreads p' hp' hpc
            · have : p' = p := by simpa using hp'
              rw [this] at hpc; omega
          · exfalso
            have hord' := hord.2.2.2.2
            have hlast : lastOf last q = some q.i := by simp only [lastOf, hc]
            rw [hlast] at hord'
            obtain ⟨y, hy1, hy2⟩ := hord'.behind p hp
            have hps := iv.mem' (q := p) (by simp [hp])
            have ho : o = p.o := by
              have := (pl.ok p hps).get
              rw [h2] at this
              exact Option.some.inj this
            have hon : On L y := (pl.ok p hps).anc L iv.cl (by rw [← ho]; exact h3) y hy1
            obtain ⟨x, hx, hxy⟩ := iv.sub y hon
            rcases hy2 with rfl | ⟨p', hp', hpy⟩
            · exact iv.fresh (q := q) (by simp) x hx hxy
            · exact iv.fresh (q := p') (by simp [hp']) x hx (by rw [hxy, hpy])

/-- A REGION THAT DRAWS ITS ORDER. -/
theorem draw_ok {call : Rec} (hcall : CallOK P G call) (hm : P.follows .mixedOrders = true) (hn : n ≤ 240) : DrawOK P G n call := by
  intro id ops st B w0 βb β1 hb h1 wb w1 e d a hops hp hg hs he hd hne
  obtain ⟨s, pl, rfl⟩ := plan_ok hp
  refine wp_region_any hm ?_
  have hs1 : Sim B w0 βb hb wb β1 h1 w1.drew := hs.trans (Sim.drew hs.rel)
  have hoff : ∀ i, ¬ On (Array.replicate ops.size false) i := fun i ho => by
    unfold On at ho
    rw [Array.getD_eq_getD_getElem?, Array.getElem?_replicate] at ho
    split at ho <;> simp at ho
  have iv : Inv P B w0 βb hb wb ops n s e d [] s (Array.replicate ops.size false) e h1 β1 a w1.drew (fun _ => 0) :=
    ⟨hs1, he.1, by simp, rfl, ⟨none, pl.ord⟩, fun p hp => absurd hp (by simp), fun i hi => absurd hi (hoff i), fun p hp => absurd hp (by simp), fun p hp => absurd hp (by simp),
      fun j o _ hj => absurd hj (hoff j), fun p hp => absurd hp (by simp), fun t ht _ => he.2 t ht, fun t _ _ => rfl, fun p hp => absurd hp (by simp), fun p hp => absurd hp (by simp), hd⟩
  have hun : Un ops (Array.replicate ops.size false) ≤ ops.size := by
    unfold Un
    have := List.countP_le_length (l := List.range ops.size) (p := fun i => !((Array.replicate ops.size false).getD i false))
    simpa using this
  exact drawn_main (P := P) hcall pl hops hn hg ops.size s [] [] _ e h1 β1 a _ _ iv (fun p hp => absurd hp (by simp)) hun hne
end
end Go.Ab
/- THE EVALUATOR IS SOUND: calls, by the number of calls in one another. -/
namespace Go.Ab
open Go Go.RowKit

set_option maxRecDepth 100000

theorem next_none (fn : Func) (ho : fn.origin = "") (n : String) (hn : fn.name = n) (h : (Extern.allNextRows.lookup n).isNone = true) : Extern.findNext fn = none := by
  have h1 : Extern.allNextRows.lookup n = none := by simpa using h
  have h2 : Extern.allNextRows.lookup "" = none := by
    have : (Extern.allNextRows.lookup "").isNone = true := by decide +kernel
    simpa using this
  have e1 : Extern.findNext fn = ((Extern.allNextRows.lookup fn.name).map (· fn.params fn.resultTypes) <|> (Extern.allNextRows.lookup fn.origin).map (· fn.params fn.resultTypes)) := rfl
  rw [e1, hn, ho, h1, h2]
  rfl

theorem find_indexByte (fn : Func) (hn : fn.name = "internal/bytealg.IndexByteString") : Extern.find fn = some Extern.BytealgIndexByte.indexByte := by
  unfold Extern.find; rw [hn]; rfl
theorem find_count (fn : Func) (hn : fn.name = "internal/bytealg.CountString") : Extern.find fn = some Extern.BytealgCount.count := by
  unfold Extern.find; rw [hn]; rfl
theorem find_bits (fn : Func) (hn : fn.name = "math.Float64bits") : Extern.find fn = some Extern.MathFloatBits.float64bits := by
  unfold Extern.find; rw [hn]; rfl
theorem find_unbits (fn : Func) (hn : fn.name = "math.Float64frombits") : Extern.find fn = some Extern.MathFloatBits.float64frombits := by
  unfold Extern.find; rw [hn]; rfl

theorem toUInt8_eq {c : Nat} (hc : c < 256) (b : UInt8) : (b == (Int.ofNat c).toNat.toUInt8) = Nat.beq b.toNat c := by
  have e1 : (Int.ofNat c).toNat = c := rfl
  rw [e1]
  cases h : Nat.beq b.toNat c with
  | true =>
    rw [beq_t] at h
    subst h
    simp
  | false =>
    cases h2 : b == c.toUInt8 with
    | false => rfl
    | true =>
      exfalso
      have : b = c.toUInt8 := by simpa using h2
      subst this
      have : c.toUInt8.toNat = c := by simp [Nat.toUInt8]; omega
      rw [this, Nat.beq_refl] at h
      exact nomatch h

theorem findB_eq (c : Nat) : ∀ (l : List UInt8) (i : Nat), findB c l i = (l.findIdx? fun b => Nat.beq b.toNat c).map (· + i)
  | [], i => rfl
  | b :: l, i => by
    simp only [findB]
    cases h : Nat.beq b.toNat c with
    | true => simp [List.findIdx?_cons, h]
    | false =>
      simp only
      rw [fN_eq, findB_eq c l (Nat.succ i)]
      simp only [List.findIdx?_cons, h]
      cases l.findIdx? (fun b => Nat.beq b.toNat c) with
      | none => rfl
      | some k => simp; omega

theorem range_find (l : List UInt8) (p : UInt8 → Bool) : ((List.range l.length).find? fun i => p (l.getD i 0)) = l.findIdx? p := by
  induction l with
  | nil => rfl
  | cons b l ih =>
    rw [List.length_cons, List.range_succ_eq_map, List.find?_cons, List.findIdx?_cons]
    simp only [List.getD_cons_zero]
    cases p b with
    | true => rfl
    | false =>
      simp only [List.find?_map]
      rw [← ih]
      simp [Function.comp_def]

theorem firstIdx_eq {l : List UInt8} {c : Nat} (hc : c < 256) : firstIdx ⟨⟨l⟩⟩ (Int.ofNat c).toNat.toUInt8 = match findB c l 0 with | some i => Int.ofNat i | none => Int.negSucc 0 := by
  unfold firstIdx
  have e1 : (⟨⟨l⟩⟩ : ByteArray).size = l.length := rfl
  have e2 : (fun i => (⟨⟨l⟩⟩ : ByteArray)[i]! == (Int.ofNat c).toNat.toUInt8) = fun i => (fun b : UInt8 => Nat.beq b.toNat c) (l.getD i 0) := by
    funext i
    rw [toUInt8_eq hc]
    congr 2
    show (⟨⟨l⟩⟩ : ByteArray)[i]! = l.getD i 0
    by_cases h : i < l.length
    · rw [getElem!_pos (⟨⟨l⟩⟩ : ByteArray) i (by rw [e1]; exact h)]
      show (⟨l⟩ : Array UInt8)[i] = _
      simp [List.getD, h]
    · rw [getElem!_neg (⟨⟨l⟩⟩ : ByteArray) i (by rw [e1]; exact h)]
      simp only [List.getD, List.getElem?_eq_none (Nat.le_of_not_lt h)]
      rfl
  rw [e1, e2, range_find l (fun b : UInt8 => Nat.beq b.toNat c), findB_eq]
  cases l.findIdx? (fun b => Nat.beq b.toNat c) with
  | none => rfl
  | some k => rfl

theorem countB_eq (c : Nat) : ∀ (l : List UInt8) (i : Nat), countB c l i = l.foldl (fun n x => if Nat.beq x.toNat c then n + 1 else n) i
  | [], i => rfl
  | b :: l, i => by
    simp only [countB, List.foldl_cons]
    cases h : Nat.beq b.toNat c with
    | true => simp only; rw [countB_eq c l (i + 1)]; simp
    | false => simp only; rw [countB_eq c l i]; simp

section
variable {P : Program} {B : Nat} {w0 : World} {β : Beta} {h : AH} {w : World}

theorem count_run {l : List UInt8} {c : Nat} (hc : c < 256) : (Extern.BytealgCount.count #[.string ⟨⟨l⟩⟩, .int .u8 (Int.ofNat c)]).run P w = .ok (.int .i64 (Int.ofNat (countB c l 0))) w := by
  rw [Lib.run_countString]
  have key : ∀ (l : List UInt8) (i : Nat), countB c l i = i + Lib.countByte l (Int.ofNat c).toNat.toUInt8 := by
    intro l
    induction l with
    | nil => intro i; rfl
    | cons b l ih =>
      intro i
      simp only [countB]
      unfold Lib.countByte at ih ⊢
      rw [List.count_cons, toUInt8_eq hc]
      cases h : Nat.beq b.toNat c with
      | true => simp only; rw [ih]; simp; omega
      | false => simp only; rw [ih]; simp
  rw [key, Nat.zero_add]
  rfl

theorem externA_pan (x : XF) (args : List Value) (h : AH) (v : Value) (h' : AH) : externA x args h ≠ .pan v h' := by
  intro e
  unfold externA at e
  split at e
  · split at e
    · split at e <;> cases e
    · cases e
  · split at e <;> cases e
  · cases e
  · cases e
  · cases e

theorem externA_inv {x : XF} {args : List Value} {h h' : AH} {v : Value} (e : externA x args h = .ret v h') : h' = h ∧
    ((x = .indexByte ∧ ∃ (b : List UInt8) (c : Nat), args = [.string ⟨⟨b⟩⟩, .int .u8 (.ofNat c)] ∧ c < 256 ∧ v = .int .i64 (match findB c b 0 with | some i => Int.ofNat i | none => Int.negSucc 0)) ∨
     (x = .count ∧ ∃ (b : List UInt8) (c : Nat), args = [.string ⟨⟨b⟩⟩, .int .u8 (.ofNat c)] ∧ c < 256 ∧ v = .int .i64 (.ofNat (countB c b 0))) ∨
     (x = .bits ∧ ∃ n, args = [.float .f64 n] ∧ v = .int .u64 n) ∨
     (x = .unbits ∧ ∃ n, args = [.int .u64 (.ofNat n)] ∧ v = .float .f64 n)) := by
  unfold externA at e
  split at e
  · rename_i b c
    split at e
    · rename_i hc
      split at e
      · rename_i i hi
        cases e
        exact ⟨rfl, .inl ⟨rfl, b, c, rfl, blt_t.1 hc, by rw [hi]⟩⟩
      · rename_i hi
        cases e
        exact ⟨rfl, .inl ⟨rfl, b, c, rfl, blt_t.1 hc, by rw [hi]⟩⟩
    · cases e
  · rename_i b c
    split at e
    · rename_i hc
      cases e
      exact ⟨rfl, .inr (.inl ⟨rfl, b, c, rfl, blt_t.1 hc, rfl⟩)⟩
    · cases e
  · rename_i n
    cases e
    exact ⟨rfl, .inr (.inr (.inl ⟨rfl, n, rfl, rfl⟩))⟩
  · rename_i n
    cases e
    exact ⟨rfl, .inr (.inr (.inr ⟨rfl, n, rfl, rfl⟩))⟩
  · cases e

theorem externA_sound {f : FuncId} {fn : Func} (hf : P.funcs[f]? = some fn) {args args' : List Value} (r : Rel B w0 β h w) (ha : LRel β args args') {v : Value} {h' : AH} (he : externA (externOf P f) args h = .ret v h') :
    ∃ v' β' w', (callFunc f ⟨args'⟩).run P w = .ok (.value v') w' ∧ Sim B w0 β h w β' h' w' ∧ VRel β' v v' := by
  have hx : ∀ x, externOf P f = x → x ≠ .no → fn.body.isNone = true ∧ fn.origin = "" ∧ (match x with
      | .indexByte => fn.name = "internal/bytealg.IndexByteString"
      | .count => fn.name = "internal/bytealg.CountString"
      | .bits => fn.name = "math.Float64bits"
      | .unbits => fn.name = "math.Float64frombits"
      | .no => True) := by
    intro x hx hno
    unfold externOf at hx
    rw [Array.getElem?_toList, hf] at hx
    simp only at hx
    cases hb : fn.body with
    | some c => rw [hb] at hx; exact absurd hx.symm hno
    | none =>
      rw [hb] at hx
      simp only at hx
      split at hx
      · exact absurd hx.symm hno
      · rename_i ho
        have ho : fn.origin = "" := by simpa using ho
        refine ⟨rfl, ho, ?_⟩
        split at hx
        · rename_i h1; subst hx; simpa using h1
        · split at hx
          · rename_i h1; subst hx; simpa using h1
          · split at hx
            · rename_i h1; subst hx; simpa using h1
            · split at hx
              · rename_i h1; subst hx; simpa using h1
              · exact absurd hx.symm hno
  obtain ⟨rfl, hh⟩ := externA_inv he
  rcases hh with ⟨h0, b, c, rfl, hc, rfl⟩ | ⟨h0, b, c, rfl, hc, rfl⟩ | ⟨h0, n, rfl, rfl⟩ | ⟨h0, n, rfl, rfl⟩
  · obtain ⟨h1, h2, h3⟩ := hx _ h0 (by simp)
    obtain ⟨x', m', rfl, g1, g2⟩ := ha.inv_cons
    obtain ⟨y', m', rfl, g3, g4⟩ := g2.inv_cons
    have := g4.inv_nil
    subst this
    cases g1
    cases g3
    have hrun := run_callFunc_extern hf (by rw [h3]; decide) h1 (next_none fn h2 _ h3 (by decide +kernel)) (find_indexByte fn h3) #[.string ⟨⟨b⟩⟩, .int .u8 (Int.ofNat c)] w
    rw [run_indexByte_string, firstIdx_eq hc] at hrun
    exact ⟨_, β, w, hrun, .refl r, .int _ _⟩
  · obtain ⟨h1, h2, h3⟩ := hx _ h0 (by simp)
    obtain ⟨x', m', rfl, g1, g2⟩ := ha.inv_cons
    obtain ⟨y', m', rfl, g3, g4⟩ := g2.inv_cons
    have := g4.inv_nil
    subst this
    cases g1
    cases g3
    have hrun := run_callFunc_extern hf (by rw [h3]; decide) h1 (next_none fn h2 _ h3 (by decide +kernel)) (find_count fn h3) #[.string ⟨⟨b⟩⟩, .int .u8 (Int.ofNat c)] w
    rw [count_run hc] at hrun
    exact ⟨_, β, w, hrun, .refl r, .int _ _⟩
  · obtain ⟨h1, h2, h3⟩ := hx _ h0 (by simp)
    obtain ⟨x', m', rfl, g1, g2⟩ := ha.inv_cons
    have := g2.inv_nil
    subst this
    cases g1
    have hrun := run_callFunc_extern hf (by rw [h3]; decide) h1 (next_none fn h2 _ h3 (by decide +kernel)) (find_bits fn h3) #[.float .f64 n] w
    exact ⟨_, β, w, hrun, .refl r, .int _ _⟩
  · obtain ⟨h1, h2, h3⟩ := hx _ h0 (by simp)
    obtain ⟨x', m', rfl, g1, g2⟩ := ha.inv_cons
    have := g2.inv_nil
    subst this
    cases g1
    have hrun := run_callFunc_extern hf (by rw [h3]; decide) h1 (next_none fn h2 _ h3 (by decide +kernel)) (find_unbits fn h3) #[.int .u64 (Int.ofNat n)] w
    exact ⟨_, β, w, hrun, .refl r, .float _ _⟩

/-- A CALL, if its own calls are sound. -/
theorem callB_ok {call : Rec} (hm : P.follows .mixedOrders = true) (hcall : CallOK P P.globals.size call) : CallOK P P.globals.size (callB P call) := by
  intro f args h B w0 β w args' r hg ha
  cases hb : bodyOf P f with
  | some b =>
    by_cases hne : callB P call f args h = .stuck
    · rw [hne]; trivial
    · obtain ⟨h1, h2⟩ := callB_body hcall (fun n hn => draw_ok hcall hm hn) r hg hb ha hne
      cases hr : callB P call f args h with
      | ret v h' => rw [hr] at h2; exact .inr ⟨h1, h2⟩
      | pan v h' => rw [hr] at h2; exact ⟨h1, h2⟩
      | stuck => trivial
  | none =>
    have e1 : callB P call f args h = externA (externOf P f) args h := by unfold callB; rw [hb]
    rw [e1]
    cases hf : P.funcs[f]? with
    | none =>
      have : externOf P f = .no := by unfold externOf; rw [Array.getElem?_toList, hf]
      rw [this]
      simp only [externA]
    | some fn =>
      cases hx : externA (externOf P f) args h with
      | ret v h' => exact .inl (externA_sound hf r ha hx)
      | pan v h' => exact absurd hx (externA_pan _ _ _ _ _)
      | stuck => trivial

theorem callF_ok (hm : P.follows .mixedOrders = true) : ∀ n, CallOK P P.globals.size (callF P n)
  | 0 => fun f args h B w0 β w args' r hg ha => trivial
  | n + 1 => callB_ok hm (callF_ok hm n)
end
end Go.Ab
/- The evaluator in stages comes to what the evaluator comes to, where it is not stuck. -/
namespace Go.Ab
open Go

def RLe (r r' : R) : Prop := r = .stuck ∨ r = r'
def CLe (c c' : C) : Prop := c = .stuck ∨ c = c'
def RecLe (c c' : Rec) : Prop := ∀ f args h, CLe (c f args h) (c' f args h)
theorem RLe.rfl {r : R} : RLe r r := .inr (Eq.refl r)
theorem RLe.bot {r : R} : RLe .stuck r := .inl (Eq.refl _)
theorem RLe.of_eq {r r' : R} (h : r = r') : RLe r r' := .inr h
theorem CLe.rfl {r : C} : CLe r r := .inr (Eq.refl r)
theorem CLe.bot {r : C} : CLe .stuck r := .inl (Eq.refl _)
theorem RLe.trans {a b c : R} (h : RLe a b) (k : RLe b c) : RLe a c := by
  rcases h with h | h
  · exact .inl h
  · subst h; exact k

/-! ## What is recursive in the calls goes on with the calls -/
section mono
variable {P : Program} {c c' : Rec}

theorem opsA_mono (hc : RecLe c c') : ∀ (l : List Stp) (e : Env) (d : List Deferred) (h : AH), RLe (opsA P c l e d h) (opsA P c' l e d h)
  | [], e, d, h => .rfl
  | .op g o :: l, e, d, h => by
    simp only [opsA]
    cases wantG g e with
    | false => exact opsA_mono hc l _ _ _
    | true =>
      simp only
      cases opA P o.type (evalE e) h o.op with
      | val v h' => exact opsA_mono hc l _ _ _
      | call f args h' =>
        simp only
        rcases hc f args h' with hs | hs
        · rw [hs]; exact .bot
        · rw [hs]
          cases c' f args h' with
          | ret v h'' => exact opsA_mono hc l _ _ _
          | pan v h'' => exact .rfl
          | stuck => exact .rfl
      | defer x h' => exact opsA_mono hc l _ _ _
      | panic v h' => exact .rfl
      | stuck => exact .rfl
  | .eff g o :: l, e, d, h => by
    simp only [opsA]
    cases wantG g e with
    | false => exact opsA_mono hc l _ _ _
    | true =>
      simp only
      cases opA P o.type (evalE e) h o.op with
      | val v h' => exact opsA_mono hc l _ _ _
      | call f args h' =>
        simp only
        rcases hc f args h' with hs | hs
        · rw [hs]; exact .bot
        · rw [hs]
          cases c' f args h' with
          | ret v h'' => exact opsA_mono hc l _ _ _
          | pan v h'' => exact .rfl
          | stuck => exact .rfl
      | defer x h' => exact .rfl
      | panic v h' => exact .rfl
      | stuck => exact .rfl
  | .chk g o :: l, e, d, h => by
    simp only [opsA]
    cases wantG g e with
    | false => exact opsA_mono hc l _ _ _
    | true =>
      simp only
      cases opA P o.type (evalE e) h o.op with
      | val v h' =>
        simp only
        cases o.dst with
        | none => exact .rfl
        | some t =>
          simp only
          cases sameV v ((ea t).get e) with
          | false => exact .rfl
          | true => exact opsA_mono hc l _ _ _
      | _ => exact .rfl

theorem iterA_mono {a a' : Env → List Deferred → AH → R} (ha : ∀ e d h, RLe (a e d h) (a' e d h)) : ∀ (n : Nat) (e : Env) (d : List Deferred) (h : AH), RLe (iterA a n e d h) (iterA a' n e d h)
  | 0, e, d, h => .rfl
  | n + 1, e, d, h => by
    simp only [iterA]
    rcases ha e d h with hs | hs
    · rw [hs]; exact .bot
    · rw [hs]
      cases a' e d h with
      | norm e' d' h' => exact iterA_mono ha n _ _ _
      | _ => exact .rfl

theorem codeA_mono (hc : RecLe c c') (k : Code) : ∀ (e : Env) (d : List Deferred) (h : AH), RLe (codeA P c k e d h) (codeA P c' k e d h) := by
  induction k with
  | region id ops draw =>
    intro e d h
    simp only [codeA]
    cases planOf P ops.toList draw with
    | none => exact .rfl
    | some s => exact opsA_mono hc s e d h
  | seq a b iha ihb =>
    intro e d h
    simp only [codeA]
    rcases iha e d h with hs | hs
    · rw [hs]; exact .bot
    · rw [hs]
      cases codeA P c' a e d h with
      | norm e' d' h' => exact ihb _ _ _
      | _ => exact .rfl
  | cond x a b iha ihb =>
    intro e d h
    simp only [codeA]
    split
    · exact iha _ _ _
    · exact ihb _ _ _
    · exact .rfl
  | block id a ih =>
    intro e d h
    simp only [codeA]
    rcases ih e d h with hs | hs
    · rw [hs]; exact .bot
    · rw [hs]; exact .rfl
  | loop a ih => intro e d h; exact iterA_mono ih _ _ _ _
  | scope a ih => intro e d h; exact ih e d h
  | _ => intro e d h; exact .rfl

def RDLe (r r' : RD) : Prop := r.r = .stuck ∨ r = r'

theorem opsD_rfl (r : RD) : RDLe r r := .inr rfl

theorem codeD_mono (hc : RecLe c c') (k : Code) : ∀ (e : Env) (d : List Deferred) (h : AH) (p : Option (Value × Bool)), RDLe (codeD P c k e d h p) (codeD P c' k e d h p) := by
  have plain : ∀ (k : Code) (e : Env) (d : List Deferred) (h : AH) (p : Option (Value × Bool)), RDLe (.mk (codeA P c k e d h) p) (.mk (codeA P c' k e d h) p) := fun k e d h p => by
    rcases codeA_mono (P := P) hc k e d h with hs | hs
    · exact .inl hs
    · rw [hs]; exact .inr rfl
  induction k with
  | seq a b iha ihb =>
    intro e d h p
    simp only [codeD]
    rcases iha e d h p with hs | hs
    · cases hx : codeD P c a e d h p with
      | mk r p' =>
        rw [hx] at hs
        simp only [RD.r] at hs
        subst hs
        exact .inl rfl
    · rw [hs]
      cases codeD P c' a e d h p with
      | mk r p' =>
        cases r with
        | norm e' d' h' => exact ihb _ _ _ _
        | _ => exact .inr rfl
  | cond x a b iha ihb =>
    intro e d h p
    simp only [codeD]
    split
    · exact iha _ _ _ _
    · exact ihb _ _ _ _
    · exact .inr rfl
  | region id ops draw =>
    intro e d h p
    cases hr : hasRecover ops.toList with
    | false => simp only [codeD, hr]; exact plain _ _ _ _ _
    | true => cases draw <;> simp only [codeD, hr] <;> exact .inr rfl
  | _ => intro e d h p; exact plain _ _ _ _ _

theorem leaveA_mono (hc : RecLe c c') (rs : List ResultVar) (e : Env) : ∀ (ds : List Deferred) (p : Option Value) (h : AH), CLe (leaveA P c rs e ds p h) (leaveA P c' rs e ds p h) := by
  intro ds
  induction ds with
  | nil => intro p h; cases p <;> exact .rfl
  | cons x ds ih =>
    intro p h
    rw [leaveA_cons, leaveA_cons]
    split
    · split
      · rename_i b _
        split
        · generalize hq : (p.map fun v => (v, false)) = q
          generalize envFrom 0 _ env0 = ee
          rcases codeD_mono (P := P) hc b.code ee [] h q with hs | hs
          · cases hx : codeD P c b.code ee [] h q with
            | mk r p' =>
              rw [hx] at hs
              simp only [RD.r] at hs
              subst hs
              exact .inl rfl
          · rw [hs]
            cases codeD P c' b.code ee [] h q with
            | mk r p' =>
              cases r with
              | norm e' d' h' =>
                cases d' with
                | nil =>
                  simp only [leaveK]
                  cases resA P b.res e' h' with
                  | none => exact .rfl
                  | some v => exact ih _ _
                | cons _ _ => exact .rfl
              | ret e' d' h' =>
                cases d' with
                | nil =>
                  simp only [leaveK]
                  cases resA P b.res e' h' with
                  | none => exact .rfl
                  | some v => exact ih _ _
                | cons _ _ => exact .rfl
              | _ => exact .rfl
        · exact .rfl
      · exact .rfl
    · exact .rfl
end mono

/-! ## Values -/

theorem bR_eq (b : Bool) (x y : R) : bR b x y = if b then x else y := by cases b <;> rfl
theorem fR_eq (n : Nat) (k : Nat → R) : fR n k = k n := by cases n <;> rfl
theorem kO_some (v : Value) (k : Value → R) : kO (some v) k = k v := rfl

theorem onInt_eq (v : Value) (f : IntKind → Nat → R) (s : R) : onInt v f s = match v with | .int k (.ofNat n) => f k n | _ => s := by
  cases v <;> first | rfl | skip
  rename_i k i
  cases i <;> rfl
theorem onNat_eq (v : Value) (f : Nat → R) : onNat v f = match v with | .int _ (.ofNat n) => f n | _ => .stuck := by
  cases v <;> first | rfl | skip
  rename_i k i
  cases i <;> rfl
theorem onBool_eq (v : Value) (x y s : R) : onBool v x y s = match v with | .bool true => x | .bool false => y | _ => s := by
  cases v <;> first | rfl | skip
  rename_i b
  cases b <;> rfl
theorem onPtr_eq (v : Value) (f : Nat → Nat → R) (s : R) : onPtr v f s = match v with | .pointer (some ⟨b, o, none⟩) => f b o | .pointer (some ⟨_, _, some _⟩) => .stuck | _ => s := by
  cases v <;> first | rfl | skip
  rename_i a
  rcases a with _ | ⟨b, o, _ | s⟩ <;> rfl
theorem onSl_eq (v : Value) (f : Option Addr → Nat → R) : onSl v f = match v with | .slice a n _ => f a n | _ => .stuck := by
  cases v <;> rfl
theorem onOA_eq (a : Option Addr) (f : Nat → Nat → R) : onOA a f = match a with | some ⟨b, o, none⟩ => f b o | _ => .stuck := by
  rcases a with _ | ⟨b, o, _ | s⟩ <;> rfl
theorem onFlat_eq (v : Value) (x s : R) : onFlat v x s = if flat v then x else s := by
  cases v <;> rfl

theorem hget_eq (h : AH) (b : Nat) : hget h b = h.get b := by
  unfold hget AH.get
  cases Nat.blt b 65536 <;> rfl
theorem onBlk_eq (x : Option Blk) (k : Blk → R) : onBlk x k = match x with | some b => k b | none => .stuck := by cases x <;> rfl

theorem nthK_eq : ∀ (cs : List Value) (i : Nat) (k : Value → R), nthK cs i k = kO (nth cs i) k
  | [], i, k => rfl
  | v :: cs, 0, k => rfl
  | v :: cs, i + 1, k => nthK_eq cs i k
theorem vK_eq (t : V3) (n i : Nat) (k : Value → R) : vK t n i k = kO (iB (Nat.blt i n) (fN i fun i => some ((va i).get t)) none) k := by
  unfold vK
  rw [fN_eq, fR_eq]
  cases Nat.blt i n <;> rfl
theorem cellK_eq (b : Blk) (i : Nat) (k : Value → R) : cellK b i k = kO (bget b i) k := by
  cases b with
  | cells cs => exact nthK_eq cs i k
  | vec t n => exact vK_eq t n i k
  | rom t n => exact vK_eq t n i k
  | map es => rfl

theorem hnewK_eq (h : AH) (x : Blk) (k : Nat → AH → R) : hnewK h x k = h.new x R.stuck k := by
  unfold hnewK AH.new
  rw [fR_eq, fN_eq]
  cases Nat.ble 65000 h.next <;> rfl

theorem ovOf_get (x : Operand) (e : Env) : (ovOf x).get e = evalE e x := by cases x <;> rfl
theorem daOf_put (d : Option Tmp) (e : Env) (v : Value) : (daOf d).put e v = putD e d v := by cases d <;> rfl
theorem olOf_get : ∀ (l : List Operand) (e : Env), (olOf l).get e = mapL (evalE e) l
  | [], e => rfl
  | x :: l, e => by
    show (ovOf x).get e :: (olOf l).get e = evalE e x :: mapL (evalE e) l
    rw [ovOf_get, olOf_get l e]
end Go.Ab
/- The evaluator in stages, operation by operation. -/
namespace Go.Ab
open Go

section
variable {P : Program} {cl : Rec}

/-- a value's way on -/
noncomputable def vK' (K : Env → List Deferred → AH → R) (dst : Option Tmp) (e : Env) (d : List Deferred) (h : AH) : Option Value → R
  | some v => K (putD e dst v) d h
  | none => .stuck
noncomputable def valA (K : Env → List Deferred → AH → R) (dst : Option Tmp) (e : Env) (d : List Deferred) : AN → R
  | .val v h => K (putD e dst v) d h
  | _ => .stuck
noncomputable def stepK (c' : Rec) (K : Env → List Deferred → AH → R) (dst : Option Tmp) (e : Env) (d : List Deferred) : AN → R
  | .val v h => K (putD e dst v) d h
  | .call f args h => match c' f args h with
    | .ret v h' => K (putD e dst v) d h'
    | .pan v h' => .pan v e d h'
    | .stuck => .stuck
  | .defer x h => K (putD e dst undef) (x :: d) h
  | .panic v h => .pan v e d h
  | .stuck => .stuck
noncomputable def stepE (c' : Rec) (K : Env → List Deferred → AH → R) (dst : Option Tmp) (e : Env) (d : List Deferred) : AN → R
  | .val v h => K (putD e dst v) d h
  | .call f args h => match c' f args h with
    | .ret v h' => K (putD e dst v) d h'
    | .pan v h' => panE v e d h'
    | .stuck => .stuck
  | _ => .stuck

theorem valA_K {K : Env → List Deferred → AH → R} {dst : Option Tmp} {e : Env} {d : List Deferred} (c' : Rec) (A : AN) : RLe (valA K dst e d A) (stepK c' K dst e d A) := by
  cases A <;> first | exact .rfl | exact .bot
theorem valA_E {K : Env → List Deferred → AH → R} {dst : Option Tmp} {e : Env} {d : List Deferred} (c' : Rec) (A : AN) : RLe (valA K dst e d A) (stepE c' K dst e d A) := by
  cases A <;> first | exact .rfl | exact .bot
theorem valA_ofO {K : Env → List Deferred → AH → R} {dst : Option Tmp} {e : Env} {d : List Deferred} (h : AH) (ov : Option Value) : valA K dst e d (ofO h ov) = vK' K dst e d h ov := by
  cases ov <;> rfl

theorem kB_rfl (k : IntKind) : kB k k = true := by cases k <;> rfl
theorem wrapF_lim {k : IntKind} {m : Nat} (h : m < lim k) : wrapF k (.ofNat m) = some (.int k (.ofNat m)) := by
  show fN m (fun m => iB (Nat.blt m (lim k)) (some (.int k (.ofNat m))) (fI k (k.wrap (.ofNat m)))) = _
  rw [fN_eq, blt_t.2 h]; rfl
theorem fI_nat (k : IntKind) (m : Nat) : fI k (.ofNat m) = some (.int k (.ofNat m)) := by
  show fN m (fun m => some (Value.int k (.ofNat m))) = _
  rw [fN_eq]

section two
variable {K : Env → List Deferred → AH → R} {dst : Option Tmp} {e : Env} {d : List Deferred} {h : AH}
variable {k : Value → R} (hk : ∀ v, RLe (k v) (K (putD e dst v) d h)) {t : TypeId} {q : IntKind} {a b : Nat} {s : R}
include hk
theorem fB_le (x : Bool) : RLe (fB k x) (vK' K dst e d h (mkB x)) := by cases x <;> exact hk _
theorem fAdd_le (hs : RLe s (vK' K dst e d h (intF P .add t q (.ofNat a) q (.ofNat b)))) : RLe (fAdd k q a b s) (vK' K dst e d h (intF P .add t q (.ofNat a) q (.ofNat b))) := by
  unfold fAdd
  rw [bR_eq]
  split
  · rename_i hb
    rw [fR_eq]
    have : intF P .add t q (.ofNat a) q (.ofNat b) = some (.int q (.ofNat (Nat.add a b))) := by
      simp only [intF, kB_rfl]
      exact wrapF_lim (blt_t.1 hb)
    rw [this]
    exact hk _
  · exact hs
theorem fSub_le (hs : RLe s (vK' K dst e d h (intF P .sub t q (.ofNat a) q (.ofNat b)))) : RLe (fSub k q a b s) (vK' K dst e d h (intF P .sub t q (.ofNat a) q (.ofNat b))) := by
  unfold fSub
  rw [bR_eq]
  split
  · rename_i h1
    rw [bR_eq]
    split
    · rename_i h2
      rw [fR_eq]
      have : intF P .sub t q (.ofNat a) q (.ofNat b) = some (.int q (.ofNat (Nat.sub a b))) := by
        simp only [intF, kB_rfl, subI, h1]
        exact wrapF_lim (Nat.lt_of_le_of_lt (Nat.sub_le a b) (blt_t.1 h2))
      rw [this]
      exact hk _
    · exact hs
  · exact hs
theorem fLss_le : RLe (fLss k q a b s) (vK' K dst e d h (intF P .lss t q (.ofNat a) q (.ofNat b))) := by
  have : intF P .lss t q (.ofNat a) q (.ofNat b) = mkB (Nat.blt a b) := by simp only [intF, kB_rfl]; rfl
  rw [this]; exact fB_le hk _
theorem fGtr_le : RLe (fGtr k q a b s) (vK' K dst e d h (intF P .gtr t q (.ofNat a) q (.ofNat b))) := by
  have : intF P .gtr t q (.ofNat a) q (.ofNat b) = mkB (Nat.blt b a) := by simp only [intF, kB_rfl]; rfl
  rw [this]; exact fB_le hk _
theorem not_blt (a b : Nat) : (!Nat.blt b a) = Nat.ble a b := by
  cases h : Nat.blt b a with
  | true => rw [blt_t] at h; cases h2 : Nat.ble a b with
    | true => rw [ble_t] at h2; omega
    | false => rfl
  | false => rw [blt_f] at h; exact (ble_t.2 h).symm
theorem fLeq_le : RLe (fLeq k q a b s) (vK' K dst e d h (intF P .leq t q (.ofNat a) q (.ofNat b))) := by
  have : intF P .leq t q (.ofNat a) q (.ofNat b) = mkB (Nat.ble a b) := by
    simp only [intF, kB_rfl]
    show iB true (mkB (!Nat.blt b a)) none = _
    rw [not_blt hk]; rfl
  rw [this]; exact fB_le hk _
theorem fGeq_le : RLe (fGeq k q a b s) (vK' K dst e d h (intF P .geq t q (.ofNat a) q (.ofNat b))) := by
  have : intF P .geq t q (.ofNat a) q (.ofNat b) = mkB (Nat.ble b a) := by
    simp only [intF, kB_rfl]
    show iB true (mkB (!Nat.blt a b)) none = _
    rw [not_blt hk]; rfl
  rw [this]; exact fB_le hk _
theorem fEql_le : RLe (fEql k q a b s) (vK' K dst e d h (intF P .eql t q (.ofNat a) q (.ofNat b))) := by
  have : intF P .eql t q (.ofNat a) q (.ofNat b) = mkB (Nat.beq a b) := by simp only [intF, kB_rfl]; rfl
  rw [this]; exact fB_le hk _
theorem fNeq_le : RLe (fNeq k q a b s) (vK' K dst e d h (intF P .neq t q (.ofNat a) q (.ofNat b))) := by
  have : intF P .neq t q (.ofNat a) q (.ofNat b) = mkB (!Nat.beq a b) := by simp only [intF, kB_rfl]; rfl
  rw [this]
  unfold fNeq
  cases Nat.beq a b <;> exact hk _
theorem fAnd_le (hs : RLe s (vK' K dst e d h (intF P .and t q (.ofNat a) q (.ofNat b)))) : RLe (fAnd k q a b s) (vK' K dst e d h (intF P .and t q (.ofNat a) q (.ofNat b))) := by
  unfold fAnd
  rw [bR_eq]
  split
  · rename_i h1
    rw [bR_eq]
    split
    · rename_i h2
      rw [fR_eq]
      have : intF P .and t q (.ofNat a) q (.ofNat b) = some (.int q (.ofNat (Nat.land a b))) := by
        simp only [intF, kB_rfl, h1, h2]
        exact fI_nat _ _
      rw [this]
      exact hk _
    · exact hs
  · exact hs
theorem fQuo_le (hs : RLe s (vK' K dst e d h (intF P .quo t q (.ofNat a) q (.ofNat b)))) : RLe (fQuo k q a b s) (vK' K dst e d h (intF P .quo t q (.ofNat a) q (.ofNat b))) := by
  unfold fQuo
  rw [bR_eq]
  split
  · rename_i h1
    rw [bR_eq]
    split
    · rename_i h2
      rw [fR_eq]
      have : intF P .quo t q (.ofNat a) q (.ofNat b) = some (.int q (.ofNat (Nat.div a b))) := by
        cases b with
        | zero => exact nomatch h2
        | succ b =>
          simp only [intF, kB_rfl]
          exact wrapF_lim (Nat.lt_of_le_of_lt (Nat.div_le_self a (b + 1)) (blt_t.1 h1))
      rw [this]
      exact hk _
    · exact hs
  · exact hs
theorem fRem_le (hs : RLe s (vK' K dst e d h (intF P .rem t q (.ofNat a) q (.ofNat b)))) : RLe (fRem k q a b s) (vK' K dst e d h (intF P .rem t q (.ofNat a) q (.ofNat b))) := by
  unfold fRem
  rw [bR_eq]
  split
  · rename_i h2
    rw [fR_eq]
    have : intF P .rem t q (.ofNat a) q (.ofNat b) = some (.int q (.ofNat (Nat.mod a b))) := by
      cases b with
      | zero => exact nomatch h2
      | succ b =>
        simp only [intF, kB_rfl]
        exact fI_nat _ _
    rw [this]
    exact hk _
  · exact hs
theorem fShr_le {q' : IntKind} (hs : RLe s (vK' K dst e d h (intF P .shr t q (.ofNat a) q' (.ofNat b)))) : RLe (fShr k q a b s) (vK' K dst e d h (intF P .shr t q (.ofNat a) q' (.ofNat b))) := by
  unfold fShr
  rw [bR_eq]
  split
  · rename_i h2
    rw [fR_eq]
    have e1 : fShr.k0 q = q.bits + 1 := by cases q <;> rfl
    have : intF P .shr t q (.ofNat a) q' (.ofNat b) = some (.int q (.ofNat (Nat.div a (Nat.pow 2 b)))) := by
      rw [e1] at h2
      simp only [intF, h2]
      exact fI_nat _ _
    rw [this]
    exact hk _
  · exact hs
end two

theorem two_le {V : Option Value → R} {f : IntKind → Nat → Nat → R → R} {s : R} {op : BinOp} {t : TypeId} {c : Bool} {x y : Value}
    (hf : ∀ q a b, x = .int q (.ofNat a) → y = .int q (.ofNat b) → RLe (f q a b s) (V (binA P op t c x y))) (hs : RLe s (V (binA P op t c x y))) : RLe (two x y f s) (V (binA P op t c x y)) := by
  unfold two
  rw [onInt_eq]
  split
  · rename_i q a
    rw [onInt_eq]
    split
    · rename_i q' b
      rw [bR_eq]
      split
      · rename_i hb
        have := kB_eq hb
        subst this
        exact hf q a b rfl rfl
      · exact hs
    · exact hs
  · exact hs

section ops
variable {K : Env → List Deferred → AH → R} {rest : T} (hr : ∀ e d h, RLe (rest.run cl e d h) (K e d h)) {dst : Option Tmp} {e : Env} {d : List Deferred} {h : AH}
include hr

theorem goes (v : Value) (h : AH) : RLe (rest.run cl ((daOf dst).put e v) d h) (K (putD e dst v) d h) := by rw [daOf_put]; exact hr _ _ _

theorem kO_le (ov : Option Value) : RLe (kO ov fun v => rest.run cl ((daOf dst).put e v) d h) (vK' K dst e d h ov) := by
  cases ov with
  | none => exact .bot
  | some v => exact goes hr v h
theorem kV_le (A : AN) : RLe (kV A fun v h => rest.run cl ((daOf dst).put e v) d h) (valA K dst e d A) := by
  cases A with
  | val v h => exact goes hr v h
  | _ => exact .bot

theorem tBin_le (op : BinOp) (t : TypeId) (b : Bool) (x z : Operand) : RLe ((tBin P op t b (ovOf x) (ovOf z) (daOf dst) rest).run cl e d h) (vK' K dst e d h (binA P op t b (evalE e x) (evalE e z))) := by
  show RLe (kO (binA P op t b ((ovOf x).get e) ((ovOf z).get e)) fun v => rest.run cl ((daOf dst).put e v) d h) _
  rw [ovOf_get, ovOf_get]
  exact kO_le hr _

theorem tTwo_le {f : (Value → R) → IntKind → Nat → Nat → R → R} {op : BinOp} (t : TypeId) (b : Bool) (x z : Operand)
    (hf : ∀ (q : IntKind) (a c : Nat) (s : R), RLe s (vK' K dst e d h (intF P op t q (.ofNat a) q (.ofNat c))) →
      RLe (f (fun v => rest.run cl ((daOf dst).put e v) d h) q a c s) (vK' K dst e d h (intF P op t q (.ofNat a) q (.ofNat c)))) :
    RLe ((tTwo P f op t b (ovOf x) (ovOf z) (daOf dst) rest).run cl e d h) (vK' K dst e d h (binA P op t b (evalE e x) (evalE e z))) := by
  show RLe (two ((ovOf x).get e) ((ovOf z).get e) (f fun v => rest.run cl ((daOf dst).put e v) d h) ((tBin P op t b (ovOf x) (ovOf z) (daOf dst) rest).run cl e d h)) _
  rw [ovOf_get, ovOf_get]
  have hs := tBin_le (P := P) hr (dst := dst) (e := e) (d := d) (h := h) op t b x z
  refine two_le (fun q a c hx hy => ?_) hs
  rw [hx, hy] at hs ⊢
  exact hf q a c _ hs

theorem tShr_le (t : TypeId) (b' : Bool) (x z : Operand) : RLe ((tShr P t b' (ovOf x) (ovOf z) (daOf dst) rest).run cl e d h) (vK' K dst e d h (binA P .shr t b' (evalE e x) (evalE e z))) := by
  have hs := tBin_le (P := P) hr (dst := dst) (e := e) (d := d) (h := h) .shr t b' x z
  have e1 : (tShr P t b' (ovOf x) (ovOf z) (daOf dst) rest).run cl e d h = onInt ((ovOf x).get e) (fun q a => onInt ((ovOf z).get e) (fun _ b => fShr (fun v => rest.run cl ((daOf dst).put e v) d h) q a b
      ((tBin P .shr t b' (ovOf x) (ovOf z) (daOf dst) rest).run cl e d h)) ((tBin P .shr t b' (ovOf x) (ovOf z) (daOf dst) rest).run cl e d h)) ((tBin P .shr t b' (ovOf x) (ovOf z) (daOf dst) rest).run cl e d h) := rfl
  rw [e1, ovOf_get, ovOf_get]
  generalize (tBin P .shr t b' (ovOf x) (ovOf z) (daOf dst) rest).run cl e d h = s at hs
  generalize evalE e x = vx at hs
  generalize evalE e z = vz at hs
  rw [onInt_eq]
  split
  · rw [onInt_eq]
    split
    · exact fShr_le (fun v => goes hr v h) hs
    · exact hs
  · exact hs

theorem tBinOp_le (op : BinOp) (t : TypeId) (b : Bool) (x z : Operand) : RLe ((tBinOp P op t b (ovOf x) (ovOf z) (daOf dst) rest).run cl e d h) (vK' K dst e d h (binA P op t b (evalE e x) (evalE e z))) := by
  have hk := fun v => goes hr (dst := dst) (e := e) (d := d) v h
  cases op <;> first
    | exact tTwo_le hr t b x z fun q a c s hs => fAdd_le hk hs
    | exact tTwo_le hr t b x z fun q a c s hs => fSub_le hk hs
    | exact tTwo_le hr t b x z fun q a c s hs => fLss_le hk
    | exact tTwo_le hr t b x z fun q a c s hs => fLeq_le hk
    | exact tTwo_le hr t b x z fun q a c s hs => fGtr_le hk
    | exact tTwo_le hr t b x z fun q a c s hs => fGeq_le hk
    | exact tTwo_le hr t b x z fun q a c s hs => fEql_le hk
    | exact tTwo_le hr t b x z fun q a c s hs => fNeq_le hk
    | exact tTwo_le hr t b x z fun q a c s hs => fAnd_le hk hs
    | exact tTwo_le hr t b x z fun q a c s hs => fQuo_le hk hs
    | exact tTwo_le hr t b x z fun q a c s hs => fRem_le hk hs
    | exact tShr_le hr t b x z
    | exact tBin_le hr _ t b x z
end ops
end
end Go.Ab
