/- THE EVALUATOR IS SOUND, part 3: the evaluator in stages; calls whose outcome has been worked out before. -/
import Derived.Test.YtoboobobndefgaaGreatDoorSoundB
set_option linter.all false
/- THE EVALUATOR IN STAGES IS SOUND. -/
namespace Go.Ab
open Go Go.RowKit

section
variable {P : Program} {cl : Rec}

theorem zipL_eq (ρ : Operand → Value) : ∀ (pl : List ((Nat × Nat) × Operand)), zipL pl (mapL ρ (pl.map (·.2))) = zipV ρ pl
  | [] => rfl
  | (p, x) :: l => by
    show (p, ρ x) :: zipL l (mapL ρ (l.map (·.2))) = (p, ρ x) :: zipV ρ l
    rw [zipL_eq ρ l]

section ops
variable {K : Env → List Deferred → AH → R} {rest : T} (hr : ∀ e d h, RLe (rest.run cl e d h) (K e d h)) {dst : Option Tmp} {e : Env} {d : List Deferred} {h : AH}
include hr

theorem t0_le (f : AH → AN) : RLe ((t0 f (daOf dst) rest).run cl e d h) (valA K dst e d (f h)) := kV_le hr _
theorem t1_le (f : AH → Value → Option Value) (x : Operand) : RLe ((t1 f (ovOf x) (daOf dst) rest).run cl e d h) (vK' K dst e d h (f h (evalE e x))) := by
  rw [← ovOf_get]; exact kO_le hr _
theorem t2_le (f : AH → Value → Value → Option Value) (x z : Operand) : RLe ((t2 f (ovOf x) (ovOf z) (daOf dst) rest).run cl e d h) (vK' K dst e d h (f h (evalE e x) (evalE e z))) := by
  rw [← ovOf_get, ← ovOf_get]; exact kO_le hr _
theorem t3_le (f : Value → Value → Value → Option Value) (x z u : Operand) : RLe ((t3 f (ovOf x) (ovOf z) (ovOf u) (daOf dst) rest).run cl e d h) (vK' K dst e d h (f (evalE e x) (evalE e z) (evalE e u))) := by
  rw [← ovOf_get, ← ovOf_get, ← ovOf_get]; exact kO_le hr _
theorem n1_le (f : AH → Value → AN) (x : Operand) : RLe ((n1 f (ovOf x) (daOf dst) rest).run cl e d h) (valA K dst e d (f h (evalE e x))) := by
  rw [← ovOf_get]; exact kV_le hr _
theorem n2_le (f : AH → Value → Value → AN) (x z : Operand) : RLe ((n2 f (ovOf x) (ovOf z) (daOf dst) rest).run cl e d h) (valA K dst e d (f h (evalE e x) (evalE e z))) := by
  rw [← ovOf_get, ← ovOf_get]; exact kV_le hr _
theorem nL_le (f : AH → List Value → AN) (l : List Operand) : RLe ((nL f (olOf l) (daOf dst) rest).run cl e d h) (valA K dst e d (f h (mapL (evalE e) l))) := by
  rw [← olOf_get]; exact kV_le hr _
/-- what has been written -/
noncomputable def undA (h : Option AH) : AN := match h with
  | some h' => .val undef h'
  | none => .stuck
theorem kH_le (oh : Option AH) : RLe (kH oh fun h => rest.run cl ((daOf dst).put e undef) d h) (valA K dst e d (match oh with | some h' => .val undef h' | none => .stuck)) := by
  cases oh with
  | none => exact .bot
  | some h' => exact goes hr _ _
theorem w2_le (f : AH → Value → Value → Option AH) (x z : Operand) : RLe ((w2 f (ovOf x) (ovOf z) (daOf dst) rest).run cl e d h) (valA K dst e d (match f h (evalE e x) (evalE e z) with | some h' => .val undef h' | none => .stuck)) := by
  rw [← ovOf_get, ← ovOf_get]; exact kH_le hr _
theorem w3_le (f : AH → Value → Value → Value → Option AH) (x z u : Operand) : RLe ((w3 f (ovOf x) (ovOf z) (ovOf u) (daOf dst) rest).run cl e d h) (valA K dst e d (match f h (evalE e x) (evalE e z) (evalE e u) with | some h' => .val undef h' | none => .stuck)) := by
  rw [← ovOf_get, ← ovOf_get, ← ovOf_get]; exact kH_le hr _

theorem tLoad1_le (n : Nat) (x : Operand) : RLe ((tLoad1 (ovOf x) (daOf dst) rest).run cl e d h) (vK' K dst e d h (loadS false n h (evalE e x))) := by
  have e1 : (tLoad1 (ovOf x) (daOf dst) rest).run cl e d h = onPtr ((ovOf x).get e) (fun b o => onBlk (hget h b) fun y => cellK y o fun v => rest.run cl ((daOf dst).put e v) d h) R.stuck := rfl
  rw [e1, ovOf_get, onPtr_eq]
  generalize evalE e x = v
  split
  · rename_i b o
    rw [onBlk_eq, hget_eq]
    show RLe _ (vK' K dst e d h (oB (h.get b) none fun k => iB false _ (bget k o)))
    cases h.get b with
    | none => exact .bot
    | some k =>
      simp only [cellK_eq]
      exact kO_le hr _
  · exact .bot
  · exact .bot

theorem tFieldAddr_le (off n : Nat) (agg : Bool) (x : Operand) : RLe ((tFieldAddr off (ovOf x) (daOf dst) rest).run cl e d h) (vK' K dst e d h (fieldAddrA (some (off, n + 1, agg)) (evalE e x))) := by
  have e1 : (tFieldAddr off (ovOf x) (daOf dst) rest).run cl e d h = onPtr ((ovOf x).get e) (fun b o => rest.run cl ((daOf dst).put e (.pointer (some ⟨b, Nat.add o off, none⟩))) d h) R.stuck := rfl
  rw [e1, ovOf_get, onPtr_eq]
  generalize evalE e x = v
  split
  · exact goes hr _ _
  · exact .bot
  · exact .bot

theorem tIndexSl_le (sz : Nat) (x z : Operand) : RLe ((tIndexSl sz (ovOf x) (ovOf z) (daOf dst) rest).run cl e d h) (vK' K dst e d h (indexAddrA (.sl sz) (evalE e x) (evalE e z))) := by
  have e1 : (tIndexSl sz (ovOf x) (ovOf z) (daOf dst) rest).run cl e d h = onSl ((ovOf x).get e) fun a len => onNat ((ovOf z).get e) fun n => bR (Nat.blt n len)
    (onOA a fun b o => rest.run cl ((daOf dst).put e (.pointer (some ⟨b, Nat.add o (Nat.mul n sz), none⟩))) d h) R.stuck := rfl
  rw [e1, ovOf_get, ovOf_get, onSl_eq]
  generalize evalE e x = v
  generalize evalE e z = i
  split
  · rename_i a len c
    rw [onNat_eq]
    split
    · rename_i k n
      rw [bR_eq]
      split
      · rename_i hb
        rw [onOA_eq]
        split
        · rename_i b o
          have : indexAddrA (.sl sz) (.slice (some ⟨b, o, none⟩) len c) (.int k (.ofNat n)) = some (.pointer (some (addrAdd ⟨b, o, none⟩ (n * sz)))) := by simp only [indexAddrA, hb]
          rw [this]
          exact goes hr _ _
        · exact .bot
      · exact .bot
    · exact .bot
  · exact .bot

theorem tLenSl_le (x : Operand) : RLe ((tLenSl (ovOf x) (daOf dst) rest).run cl e d h) (valA K dst e d (lenA 1 h (evalE e x))) := by
  have e1 : (tLenSl (ovOf x) (daOf dst) rest).run cl e d h = onSl ((ovOf x).get e) fun _ n => rest.run cl ((daOf dst).put e (.int .i64 (.ofNat n))) d h := rfl
  rw [e1, ovOf_get, onSl_eq]
  generalize evalE e x = v
  split
  · exact goes hr _ _
  · exact .bot

theorem tNil_le (x : Operand) : RLe ((tNil (t1 (fun _ => nilCheckA)) (ovOf x) (daOf dst) rest).run cl e d h) (vK' K dst e d h (nilCheckA (evalE e x))) := by
  have hs := t1_le hr (dst := dst) (e := e) (d := d) (h := h) (fun _ => nilCheckA) x
  have e1 : (tNil (t1 (fun _ => nilCheckA)) (ovOf x) (daOf dst) rest).run cl e d h = onPtr ((ovOf x).get e) (fun b o => rest.run cl ((daOf dst).put e (.pointer (some ⟨b, o, none⟩))) d h) ((t1 (fun _ => nilCheckA) (ovOf x) (daOf dst) rest).run cl e d h) := rfl
  rw [e1, ovOf_get, onPtr_eq]
  generalize (t1 (fun _ => nilCheckA) (ovOf x) (daOf dst) rest).run cl e d h = s at hs
  generalize evalE e x = v at hs
  split
  · exact goes hr _ _
  · exact .bot
  · exact hs

theorem tPick_le (x z u : Operand) : RLe ((tPick (ovOf x) (ovOf z) (ovOf u) (daOf dst) rest).run cl e d h) (vK' K dst e d h (pickA (evalE e x) (evalE e z) (evalE e u))) := by
  have e1 : (tPick (ovOf x) (ovOf z) (ovOf u) (daOf dst) rest).run cl e d h = onBool ((ovOf x).get e) (rest.run cl ((daOf dst).put e ((ovOf z).get e)) d h) (rest.run cl ((daOf dst).put e ((ovOf u).get e)) d h) R.stuck := rfl
  rw [e1, ovOf_get, ovOf_get, ovOf_get, onBool_eq]
  generalize evalE e x = v
  split
  · exact goes hr _ _
  · exact goes hr _ _
  · exact .bot

theorem new_le (b : Blk) (Kv : Addr → Value) : RLe (hnewK h b fun b h => rest.run cl ((daOf dst).put e (Kv ⟨b, 0, none⟩)) d h) (valA K dst e d (newB h (some b) Kv)) := by
  rw [hnewK_eq]
  show RLe _ (valA K dst e d (h.new b AN.stuck fun b h' => .val (Kv ⟨b, 0, none⟩) h'))
  unfold AH.new
  rw [fN_eq, fN_eq]
  cases Nat.ble 65000 h.next with
  | true => exact .bot
  | false => exact goes hr _ _

theorem tBox_le (x : Operand) : RLe ((tBox (n1 boxA) (ovOf x) (daOf dst) rest).run cl e d h) (valA K dst e d (boxA h (evalE e x))) := by
  have hs := n1_le hr (dst := dst) (e := e) (d := d) (h := h) boxA x
  have e1 : (tBox (n1 boxA) (ovOf x) (daOf dst) rest).run cl e d h = onFlat ((ovOf x).get e) (hnewK h (.cells [(ovOf x).get e]) fun b h => rest.run cl ((daOf dst).put e (.pointer (some ⟨b, 0, none⟩))) d h) ((n1 boxA (ovOf x) (daOf dst) rest).run cl e d h) := rfl
  rw [e1, ovOf_get, onFlat_eq]
  generalize (n1 boxA (ovOf x) (daOf dst) rest).run cl e d h = s at hs
  generalize evalE e x = v at hs
  split
  · rename_i hf
    have hc : cellsL v = some [v] := by cases v <;> first | rfl | exact nomatch hf
    have e2 : boxA h v = newB h (some (.cells [v])) fun a => .pointer (some a) := by
      unfold boxA
      rw [hc]
      rfl
    rw [e2]
    exact new_le hr _ fun a => .pointer (some a)
  · exact hs

theorem tStore1_le (x z : Operand) : RLe ((tStore1 (w2 (storeS 1)) (ovOf x) (ovOf z) (daOf dst) rest).run cl e d h) (valA K dst e d (match storeS 1 h (evalE e x) (evalE e z) with | some h' => .val undef h' | none => .stuck)) := by
  have hs := w2_le hr (dst := dst) (e := e) (d := d) (h := h) (storeS 1) x z
  have e1 : (tStore1 (w2 (storeS 1)) (ovOf x) (ovOf z) (daOf dst) rest).run cl e d h = onFlat ((ovOf z).get e) (onPtr ((ovOf x).get e) (fun b o => onBlk (hget h b) fun y => onBlk (bput y o [(ovOf z).get e]) fun y' =>
    rest.run cl ((daOf dst).put e undef) d (hputK h b y')) R.stuck) ((w2 (storeS 1) (ovOf x) (ovOf z) (daOf dst) rest).run cl e d h) := rfl
  rw [e1, ovOf_get, ovOf_get, onFlat_eq]
  generalize (w2 (storeS 1) (ovOf x) (ovOf z) (daOf dst) rest).run cl e d h = s at hs
  generalize evalE e x = va at hs
  generalize evalE e z = v at hs
  split
  · rename_i hf
    have hc : cellsL v = some [v] := by cases v <;> first | rfl | exact nomatch hf
    rw [onPtr_eq]
    split
    · rename_i b o
      rw [onBlk_eq, hget_eq]
      have e2 : storeS 1 h (.pointer (some ⟨b, o, none⟩)) v = oB (h.get b) none fun k => oB (bput k o [v]) none fun k' => some (h.put b (some k')) := by
        simp only [storeS, hc]
        rfl
      rw [e2]
      cases h.get b with
      | none => exact .bot
      | some k =>
        simp only
        rw [onBlk_eq]
        cases hp : bput k o [v] with
        | none => exact .bot
        | some k' =>
          simp only [oB_some, hp]
          exact goes hr _ _
    · exact .bot
    · exact .bot
  · exact hs

theorem valO {A : AN} {ov : Option Value} {r : R} (hA : A = ofO h ov) (hl : RLe r (vK' K dst e d h ov)) : RLe r (valA K dst e d A) := by
  rw [hA, valA_ofO]; exact hl

theorem tOpV_le (ty : TypeId) (op : Op) (t : T) (ht : tOpV P (daOf dst) rest op = some t) : RLe (t.run cl e d h) (valA K dst e d (opA P ty (evalE e) h op)) := by
  cases op <;> simp only [tOpV] at ht <;> first | (cases ht; done) | skip
  case move x => cases ht; exact valO hr (ov := some (evalE e x)) rfl (by rw [← ovOf_get]; exact goes hr _ _)
  case assign x => cases ht; exact valO hr (ov := some (evalE e x)) rfl (by rw [← ovOf_get]; exact goes hr _ _)
  case pick c a b => cases ht; exact valO hr rfl (tPick_le hr c a b)
  case alloc e' =>
    cases ht
    simp only [opA]
    cases zeroL P e' with
    | none => exact .bot
    | some z =>
      simp only [tO, newCells]
      cases bnew z with
      | none => exact .bot
      | some b => exact new_le hr b fun a => .pointer (some a)
  case box e' x => cases ht; exact tBox_le hr x
  case build t' parts =>
    cases ht
    simp only [opA, buildA]
    cases zeroL P t' with
    | none => exact .bot
    | some z =>
      simp only [tO]
      cases placesB P t' parts.toList with
      | none => exact .bot
      | some pl =>
        have := nL_le hr (dst := dst) (e := e) (d := d) (h := h) (fun h vs => ofO h (match fillA z (zipL pl vs) with | some l => some (.agg ⟨l⟩) | none => none)) (pl.map (·.2))
        rw [zipL_eq] at this
        exact this
  case load t' a =>
    cases ht
    simp only [opA]
    cases aggB P t' with
    | none => exact .bot
    | some b =>
      cases szOf P t' with
      | none => exact .bot
      | some n =>
        cases b with
        | false => exact valO hr rfl (tLoad1_le hr n a)
        | true => exact valO hr rfl (t1_le hr (loadS true n) a)
  case store t' a x =>
    cases ht
    simp only [opA]
    cases szOf P t' with
    | none => exact .bot
    | some n =>
      simp only [tO]
      split
      · exact tStore1_le hr a x
      · exact w2_le hr _ a x
  case nilCheck x => cases ht; exact valO hr rfl (tNil_le hr x)
  case binOp op t' x z yt => cases ht; exact valO hr rfl (tBinOp_le hr op t' _ x z)
  case unOp op t' x => cases ht; exact valO hr rfl (t1_le hr (fun _ => unA P op) x)
  case convert s d' x => cases ht; exact n1_le hr _ x
  case makeMap t' r =>
    cases r with
    | none => cases ht; exact t0_le hr _
    | some x => exact nomatch ht
  case makeSlice t' l c =>
    cases ht
    simp only [opA]
    cases elemT P t' with
    | none => exact .bot
    | some e' =>
      simp only [tO]
      cases zeroE P e' with
      | none => exact .bot
      | some z => exact n2_le hr (fun h l c => makeSliceA (some z) l c h) l c
  case fieldAddr s x f =>
    cases ht
    refine valO hr rfl ?_
    split
    · rename_i off n agg hk
      rw [fN_eq, hk]
      exact tFieldAddr_le hr off n agg x
    · exact .bot
  case field t' x f => cases ht; exact valO hr rfl (t1_le hr (fun _ => fieldA (fkOf P t' f)) x)
  case indexAddr t' x i =>
    cases ht
    refine valO hr rfl ?_
    split
    · rename_i sz hk
      rw [hk]
      exact tIndexSl_le hr sz x i
    · exact t2_le hr (fun _ => indexAddrA _) x i
  case index t' x i => cases ht; exact valO hr rfl (t2_le hr (fun _ => indexA (ikOf P t')) x i)
  case lookup t' x i ok => cases ht; exact valO hr rfl (t2_le hr (fun h x i => lookupA (mkOf P t') h x i ok) x i)
  case mapUpdate t' m k v => cases ht; exact w3_le hr _ m k v
  case extract x i => cases ht; exact valO hr rfl (t1_le hr (fun _ x => extractA x i) x)
  case slice t' x lo hi mx =>
    cases mx with
    | some m => cases lo <;> cases hi <;> exact nomatch ht
    | none =>
      cases lo with
      | none =>
        cases hi with
        | none => cases ht; exact valO hr rfl (t1_le hr (fun _ x => sliceA (skOf P t') x none none none) x)
        | some hi => cases ht; exact valO hr rfl (t2_le hr (fun _ x hi => sliceA (skOf P t') x none (some hi) none) x hi)
      | some lo =>
        cases hi with
        | none => cases ht; exact valO hr rfl (t2_le hr (fun _ x lo => sliceA (skOf P t') x (some lo) none none) x lo)
        | some hi => cases ht; exact valO hr rfl (t3_le hr (fun x lo hi => sliceA (skOf P t') x (some lo) (some hi) none) x lo hi)
  case call c =>
    split at ht
    · rename_i b hb
      simp only [opA, hb]
      split at ht
      · rename_i x hargs
        cases ht
        rw [hargs]
        simp only [builtinA, mapL]
        cases lnB P c.argTypes.toList with
        | none => exact .bot
        | some k =>
          simp only [tO]
          split
          · exact tLenSl_le hr x
          · exact n1_le hr (lenA _) x
      · rename_i s x hargs
        cases ht
        rw [hargs]
        exact n2_le hr (appendA (akOf P c.argTypes.toList)) s x
      · rename_i s x hargs
        cases ht
        rw [hargs]
        exact n2_le hr (copyA (ckOf P c.argTypes.toList)) s x
      · exact nomatch ht
    · exact nomatch ht
end ops
end
end Go.Ab
/- THE EVALUATOR IN STAGES IS SOUND: code, calls. -/
namespace Go.Ab
open Go Go.RowKit

section
variable {P : Program} {cl cl' : Rec} (hc : RecLe cl cl')

section ops
variable {K : Env → List Deferred → AH → R} {rest : T} (hr : ∀ e d h, RLe (rest.run cl e d h) (K e d h)) {dst : Option Tmp} {e : Env} {d : List Deferred} {h : AH}
include hr hc

theorem tGen_le (ty : TypeId) (op : Op) : RLe ((tGen P ty op (daOf dst) rest).run cl e d h) (stepK cl' K dst e d (opA P ty (evalE e) h op)) := by
  have e1 : (tGen P ty op (daOf dst) rest).run cl e d h = kA (opA P ty (evalE e) h op) (fun v h => rest.run cl ((daOf dst).put e v) d h)
    (fun f args h => kC (cl f args h) (fun v h => rest.run cl ((daOf dst).put e v) d h) (fun v h => R.pan v e d h)) (fun x h => rest.run cl ((daOf dst).put e undef) (x :: d) h) (fun v h => R.pan v e d h) := rfl
  rw [e1]
  cases opA P ty (evalE e) h op with
  | val v h' => exact goes hr v h'
  | call f args h' =>
    show RLe (kC (cl f args h') _ _) (stepK cl' K dst e d (.call f args h'))
    rcases hc f args h' with hs | hs
    · rw [hs]; exact .bot
    · rw [hs]
      simp only [stepK]
      cases cl' f args h' with
      | ret v h'' => exact goes hr v h''
      | pan v h'' => exact .rfl
      | stuck => exact .rfl
  | defer x h' => show RLe (rest.run cl ((daOf dst).put e undef) (x :: d) h') _; rw [daOf_put]; exact hr _ _ _
  | panic v h' => exact .rfl
  | stuck => exact .rfl

theorem tEff_le (ty : TypeId) (op : Op) : RLe ((tEff P ty op (daOf dst) rest).run cl e d h) (stepE cl' K dst e d (opA P ty (evalE e) h op)) := by
  have e1 : (tEff P ty op (daOf dst) rest).run cl e d h = kA (opA P ty (evalE e) h op) (fun v h => rest.run cl ((daOf dst).put e v) d h)
    (fun f args h => kC (cl f args h) (fun v h => rest.run cl ((daOf dst).put e v) d h) (fun v h => panE v e d h)) (fun _ _ => R.stuck) (fun _ _ => R.stuck) := rfl
  rw [e1]
  cases opA P ty (evalE e) h op with
  | val v h' => exact goes hr v h'
  | call f args h' =>
    show RLe (kC (cl f args h') _ _) (stepE cl' K dst e d (.call f args h'))
    rcases hc f args h' with hs | hs
    · rw [hs]; exact .bot
    · rw [hs]
      simp only [stepE]
      cases cl' f args h' with
      | ret v h'' => exact goes hr v h''
      | pan v h'' => exact .rfl
      | stuck => exact .rfl
  | defer x h' => exact .bot
  | panic v h' => exact .bot
  | stuck => exact .rfl

theorem tCallF_le (f : FuncId) (l : List Operand) : RLe ((tCallF f (olOf l) (daOf dst) rest).run cl e d h) (stepK cl' K dst e d (.call f (mapL (evalE e) l) h)) := by
  have e1 : (tCallF f (olOf l) (daOf dst) rest).run cl e d h = kC (cl f ((olOf l).get e) h) (fun v h => rest.run cl ((daOf dst).put e v) d h) (fun v h => R.pan v e d h) := rfl
  rw [e1, olOf_get]
  rcases hc f (mapL (evalE e) l) h with hs | hs
  · rw [hs]; exact .bot
  · rw [hs]
    simp only [stepK]
    cases cl' f (mapL (evalE e) l) h with
    | ret v h'' => exact goes hr v h''
    | pan v h'' => exact .rfl
    | stuck => exact .rfl
theorem tCallE_le (f : FuncId) (l : List Operand) : RLe ((tCallE f (olOf l) (daOf dst) rest).run cl e d h) (stepE cl' K dst e d (.call f (mapL (evalE e) l) h)) := by
  have e1 : (tCallE f (olOf l) (daOf dst) rest).run cl e d h = kC (cl f ((olOf l).get e) h) (fun v h => rest.run cl ((daOf dst).put e v) d h) (fun v h => panE v e d h) := rfl
  rw [e1, olOf_get]
  rcases hc f (mapL (evalE e) l) h with hs | hs
  · rw [hs]; exact .bot
  · rw [hs]
    simp only [stepE]
    cases cl' f (mapL (evalE e) l) h with
    | ret v h'' => exact goes hr v h''
    | pan v h'' => exact .rfl
    | stuck => exact .rfl

theorem callOp (ty : TypeId) (c : Call) (f : FuncId) (hcal : c.callee = .value (.func f)) : opA P ty (evalE e) h (.call c) = .call f (mapL (evalE e) c.args.toList) h := by
  simp only [opA, hcal, evalE, callA]
  show AN.call f ([] ++ (mapL (evalE e) c.args.toList ++ [])) h = _
  simp

theorem tOp_le (ty : TypeId) (op : Op) : RLe ((tOp P ty (daOf dst) rest op).run cl e d h) (stepK cl' K dst e d (opA P ty (evalE e) h op)) := by
  unfold tOp
  split
  · rename_i t ht
    exact (tOpV_le hr ty op t ht).trans (valA_K _ _)
  · split
    · rename_i c _
      split
      · rename_i f hf
        rw [callOp hc hr ty c f hf]
        exact tCallF_le hc hr f _
      · exact tGen_le hc hr ty _
    · exact tGen_le hc hr ty _
theorem tOpE_le (ty : TypeId) (op : Op) : RLe ((tOpE P ty (daOf dst) rest op).run cl e d h) (stepE cl' K dst e d (opA P ty (evalE e) h op)) := by
  unfold tOpE
  split
  · rename_i t ht
    exact (tOpV_le hr ty op t ht).trans (valA_E _ _)
  · split
    · rename_i c _
      split
      · rename_i f hf
        rw [callOp hc hr ty c f hf]
        exact tCallE_le hc hr f _
      · exact tEff_le hc hr ty _
    · exact tEff_le hc hr ty _

omit hc in
theorem tG_le (g : Option (Option Tmp × Bool)) (a : T) {X : R} (ha : RLe (a.run cl e d h) X) :
    RLe ((tG g a (daOf dst) rest).run cl e d h) (match wantG g e with | true => X | false => K (putD e dst undef) d h) := by
  rcases g with _ | ⟨_ | t, w⟩
  · exact ha
  · exact goes hr _ _
  · have hx : (ovOf (.tmp t)).get e = (ea t).get e := ovOf_get (.tmp t) e
    cases w with
    | true =>
      have e1 : (tG (some (some t, true)) a (daOf dst) rest).run cl e d h = onBool ((ovOf (.tmp t)).get e) (a.run cl e d h) (rest.run cl ((daOf dst).put e undef) d h) (rest.run cl ((daOf dst).put e undef) d h) := rfl
      rw [e1, hx, onBool_eq]
      simp only [wantG]
      generalize (ea t).get e = v
      cases v <;> first | exact goes hr _ _ | skip
      rename_i b
      cases b
      · exact goes hr _ _
      · exact ha
    | false =>
      have e1 : (tG (some (some t, false)) a (daOf dst) rest).run cl e d h = onBool ((ovOf (.tmp t)).get e) (rest.run cl ((daOf dst).put e undef) d h) (a.run cl e d h) (rest.run cl ((daOf dst).put e undef) d h) := rfl
      rw [e1, hx, onBool_eq]
      simp only [wantG]
      generalize (ea t).get e = v
      cases v <;> first | exact goes hr _ _ | skip
      rename_i b
      cases b
      · exact ha
      · exact goes hr _ _
end ops

include hc
/-- STEPS, and what goes on behind them. -/
theorem tSteps_le {φ : R → R} (rest : T) (hn : ∀ e d h, RLe (rest.run cl e d h) (φ (.norm e d h))) (hp : ∀ v e d h, φ (.pan v e d h) = .pan v e d h) (hst : φ .stuck = .stuck) :
    ∀ (l : List Stp) (e : Env) (d : List Deferred) (h : AH), RLe ((tSteps P rest l).run cl e d h) (φ (opsA P cl' l e d h))
  | [], e, d, h => hn e d h
  | .op g o :: l, e, d, h => by
    have ih := tSteps_le rest hn hp hst l
    have h1 := tOp_le hc (P := P) ih (dst := o.dst) (e := e) (d := d) (h := h) o.type o.op
    have h2 := tG_le ih (dst := o.dst) g _ h1
    refine h2.trans (.of_eq ?_)
    simp only [opsA]
    cases wantG g e with
    | false => rfl
    | true =>
      simp only
      cases opA P o.type (evalE e) h o.op with
      | call f args h' =>
        simp only [stepK]
        cases cl' f args h' with
        | ret v h'' => rfl
        | pan v h'' => exact (hp _ _ _ _).symm
        | stuck => exact hst.symm
      | panic v h' => exact (hp _ _ _ _).symm
      | stuck => exact hst.symm
      | _ => rfl
  | .eff g o :: l, e, d, h => by
    have ih := tSteps_le rest hn hp hst l
    have h1 := tOpE_le hc (P := P) ih (dst := o.dst) (e := e) (d := d) (h := h) o.type o.op
    have h2 := tG_le ih (dst := o.dst) g _ h1
    refine h2.trans (.of_eq ?_)
    simp only [opsA]
    cases wantG g e with
    | false => rfl
    | true =>
      simp only
      cases opA P o.type (evalE e) h o.op with
      | call f args h' =>
        simp only [stepE]
        cases cl' f args h' with
        | ret v h'' => rfl
        | pan v h'' => cases d with
          | nil => exact (hp _ _ _ _).symm
          | cons _ _ => exact hst.symm
        | stuck => exact hst.symm
      | val v h' => rfl
      | _ => exact hst.symm
  | .chk g o :: l, e, d, h => by
    have ih := tSteps_le rest hn hp hst l e d h
    have e1 : (tSteps P rest (.chk g o :: l)).run cl e d h = (match wantG g e with
      | true => match opA P o.type (evalE e) h o.op with
        | .val v _ => match o.dst with
          | some t => match sameV v ((ea t).get e) with
            | true => (tSteps P rest l).run cl e d h
            | false => .stuck
          | none => .stuck
        | _ => .stuck
      | false => (tSteps P rest l).run cl e d h) := rfl
    rw [e1]
    simp only [opsA]
    cases wantG g e with
    | false => exact ih
    | true =>
      simp only
      cases opA P o.type (evalE e) h o.op with
      | val v h' =>
        simp only
        cases o.dst with
        | none => exact .bot
        | some t =>
          simp only
          cases sameV v ((ea t).get e) with
          | false => exact .bot
          | true => exact ih
      | _ => exact .bot

theorem tIter_le {a : F} {a' : Env → List Deferred → AH → R} (ha : ∀ e d h, RLe (a cl e d h) (a' e d h)) : ∀ (n : Nat) (e : Env) (d : List Deferred) (h : AH), RLe (tIter a cl n e d h) (iterA a' n e d h)
  | 0, e, d, h => .rfl
  | n + 1, e, d, h => by
    show RLe (onR (a cl e d h) (tIter a cl n) R.exit) _
    simp only [iterA]
    rcases ha e d h with hs | hs
    · rw [hs]; exact .bot
    · rw [hs]
      cases a' e d h with
      | norm e' d' h' => exact tIter_le ha n _ _ _
      | _ => exact .rfl

/-- what goes on behind code -/
noncomputable def kont (cl : Rec) (k : T) (x : Exs) : R → R
  | .norm e d h => k.run cl e d h
  | .exit i e d h => (exT i x).run cl e d h
  | r => r

omit hc in
theorem exL_eq (c : Rec) : ∀ (x : Exs) (i : Nat) (e : Env) (d : List Deferred) (h : AH), (exL x).run c i e d h = (exT i x).run c e d h
  | [], i, e, d, h => rfl
  | (j, t) :: l, i, e, d, h => by
    show bR (Nat.beq i j) (t.run c e d h) ((exL l).run c i e d h) = _
    rw [exL_eq c l]
    simp only [exT]
    cases Nat.beq i j <;> rfl

omit hc in
theorem iterA_norm {a' : Env → List Deferred → AH → R} : ∀ (n : Nat) (e : Env) (d : List Deferred) (h : AH) (e' : Env) (d' : List Deferred) (h' : AH), iterA a' n e d h ≠ .norm e' d' h'
  | 0, e, d, h, e', d', h' => by simp [iterA]
  | n + 1, e, d, h, e', d', h' => by
    simp only [iterA]
    cases hx : a' e d h with
    | norm e1 d1 h1 => exact iterA_norm n _ _ _ _ _ _
    | _ => simp

theorem tCode_le : ∀ (c : Code) (k : T) (x : Exs) (e : Env) (d : List Deferred) (h : AH), RLe ((tCode P c k x).run cl e d h) (kont cl k x (codeA P cl' c e d h)) := by
  intro c
  induction c with
  | skip => intro k x e d h; exact .rfl
  | label l => intro k x e d h; exact .rfl
  | exit id => intro k x e d h; exact .rfl
  | ret => intro k x e d h; exact .rfl
  | goto l => intro k x e d h; exact .rfl
  | refuse s => intro k x e d h; exact .rfl
  | rangeFunc f ps a b => intro k x e d h; exact .rfl
  | region id ops draw =>
    intro k x e d h
    simp only [tCode, codeA]
    cases planOf P ops.toList draw with
    | none => exact .rfl
    | some s => exact tSteps_le hc (φ := kont cl k x) k (fun _ _ _ => .rfl) (fun _ _ _ _ => rfl) rfl s e d h
  | seq a b iha ihb =>
    intro k x e d h
    simp only [tCode, codeA]
    refine (iha (tCode P b k x) x e d h).trans ?_
    cases codeA P cl' a e d h with
    | norm e' d' h' => exact ihb k x e' d' h'
    | _ => exact .rfl
  | cond y a b iha ihb =>
    intro k x e d h
    have e1 : (tCode P (.cond y a b) k x).run cl e d h = onBool ((ovOf y).get e) ((tCode P a k x).run cl e d h) ((tCode P b k x).run cl e d h) R.stuck := rfl
    rw [e1, ovOf_get, onBool_eq]
    simp only [codeA]
    generalize evalE e y = v
    split
    · exact iha k x e d h
    · exact ihb k x e d h
    · exact .bot
  | block id a ih =>
    intro k x e d h
    simp only [tCode, codeA]
    refine (ih k ((id, k) :: x) e d h).trans (.of_eq ?_)
    cases codeA P cl' a e d h with
    | exit i e' d' h' =>
      simp only [kont, exT]
      cases Nat.beq i id <;> rfl
    | _ => rfl
  | scope a ih => intro k x e d h; exact ih k x e d h
  | loop a ih =>
    intro k x e d h
    have e1 : (tCode P (.loop a) k x).run cl e d h = onR (tIter (tCode P a tEnd []).run cl 100000 e d h) (fun _ _ _ => R.stuck) (fun i e d h => (exL x).run cl i e d h) := rfl
    rw [e1]
    have hb : ∀ e d h, RLe ((tCode P a tEnd []).run cl e d h) (codeA P cl' a e d h) := fun e d h => by
      refine (ih tEnd [] e d h).trans (.of_eq ?_)
      cases codeA P cl' a e d h <;> rfl
    simp only [codeA]
    rcases tIter_le hc (a := (tCode P a tEnd []).run) hb 100000 e d h with hs | hs
    · rw [hs]; exact .bot
    · rw [hs]
      cases hx : iterA (codeA P cl' a) 100000 e d h with
      | norm e' d' h' => exact .bot
      | exit i e' d' h' => exact .of_eq (exL_eq cl x i e' d' h')
      | _ => exact .rfl

omit hc in
theorem leL_eq : ∀ (l : List Value) (n : Nat), leL l n = Nat.ble l.length n
  | [], n => by cases n <;> rfl
  | v :: l, 0 => rfl
  | v :: l, n + 1 => by
    show leL l n = _
    rw [leL_eq l n]
    rfl

omit hc in
theorem ev0_eq (l : List Value) : ev0 l = envFrom 0 l env0 := by
  rcases l with _ | ⟨x0, _ | ⟨x1, _ | ⟨x2, _ | ⟨x3, _ | ⟨x4, _ | ⟨x5, _ | ⟨x6, _ | ⟨x7, l⟩⟩⟩⟩⟩⟩⟩⟩
  · rfl
  all_goals
    simp only [envFrom, ea_put]
    rfl

theorem fRun_le (b : FB) (n : Nat) (hbn : b.n = n) (args : List Value) (h : AH) : CLe ((fRun P ⟨n, b.code, b.res⟩ (tCode P b.code tEnd [])).run cl args h) (match Nat.ble args.length b.n with
    | true => match codeA P cl' b.code (envFrom 0 args env0) [] h with
      | .norm e d h' => leaveA P cl' b.res e d none h'
      | .ret e d h' => leaveA P cl' b.res e d none h'
      | .pan v e d h' => leaveA P cl' b.res e d (some v) h'
      | _ => .stuck
    | false => .stuck) := by
  subst hbn
  have hrt : ∀ e h, CLe ((rtOf P b.res).get e h) (leaveA P cl' b.res e [] none h) := fun e h => by
    simp only [leaveA]
    generalize b.res = rs
    unfold rtOf
    split
    · exact .rfl
    · exact .rfl
    · exact .rfl
  have e1 : (fRun P ⟨b.n, b.code, b.res⟩ (tCode P b.code tEnd [])).run cl args h = Bool.rec (motive := fun _ => C) .stuck
    (onRC ((tCode P b.code tEnd []).run cl (ev0 args) [] h) (fun e d h' => List.rec (motive := fun _ => C) ((rtOf P b.res).get e h') (fun _ _ _ => leaveA P cl b.res e d none h') d)
      (fun v e d h' => List.rec (motive := fun _ => C) (.pan v h') (fun _ _ _ => leaveA P cl b.res e d (some v) h') d)) (leL args b.n) := rfl
  rw [e1, leL_eq, ev0_eq]
  cases Nat.ble args.length b.n with
  | false => exact .rfl
  | true =>
    have hle := tCode_le hc (P := P) b.code tEnd [] (envFrom 0 args env0) [] h
    have hk : kont cl tEnd [] (codeA P cl' b.code (envFrom 0 args env0) [] h) = codeA P cl' b.code (envFrom 0 args env0) [] h := by
      cases codeA P cl' b.code (envFrom 0 args env0) [] h <;> rfl
    rw [hk] at hle
    simp only
    rcases hle with hs | hs
    · rw [hs]; exact .bot
    · rw [hs]
      cases codeA P cl' b.code (envFrom 0 args env0) [] h with
      | norm e d h' => cases d with
        | nil => exact hrt e h'
        | cons x ds => exact leaveA_mono hc b.res e (x :: ds) none h'
      | ret e d h' => cases d with
        | nil => exact hrt e h'
        | cons x ds => exact leaveA_mono hc b.res e (x :: ds) none h'
      | pan v e d h' => cases d with
        | nil => exact .rfl
        | cons x ds => exact leaveA_mono hc b.res e (x :: ds) (some v) h'
      | _ => exact .rfl

theorem callT_step : RecLe (fun f args h => (ftOf P f).run cl args h) (callB P cl') := by
  intro f args h
  show CLe ((ftOf P f).run cl args h) (callB P cl' f args h)
  unfold ftOf callB
  cases bodyOf P f with
  | some b =>
    simp only
    rw [fN_eq]
    exact fRun_le hc b b.n rfl args h
  | none => exact .rfl
end

/-- THE EVALUATOR IN STAGES comes to what the evaluator comes to, or is stuck. -/
theorem callT_le (P : Program) : ∀ n, RecLe (callT P n) (callF P n)
  | 0 => fun _ _ _ => .rfl
  | n + 1 => callT_step (callT_le P n)

theorem CallOK.of_le {P : Program} {G : Nat} {c c' : Rec} (h : RecLe c c') (ok : CallOK P G c') : CallOK P G c := by
  intro f args hh B w0 β w args' r hg ha
  have := ok f args hh B w0 β w args' r hg ha
  rcases h f args hh with hs | hs
  · rw [hs]; trivial
  · rw [hs]; exact this

theorem callT_ok {P : Program} (hm : P.follows .mixedOrders = true) (n : Nat) : CallOK P P.globals.size (callT P n) := (callF_ok hm n).of_le (callT_le P n)
end Go.Ab
/- Calls whose outcome has been worked out before: an evaluator that asks a table. -/
namespace Go.Ab
open Go Go.RowKit

/-- the same value, numbers with a point among them -/
noncomputable def eq1 (x y : Value) : Bool := match x with
  | .float k a => match y with
    | .float j b => match k, j with
      | .f64, .f64 => Nat.beq a b
      | .f32, .f32 => Nat.beq a b
      | _, _ => false
    | _ => false
  | x => same1 x y
noncomputable def eqL : List Value → List Value → Bool
  | [], [] => true
  | x :: l, y :: m => match eq1 x y with
    | true => eqL l m
    | false => false
  | _, _ => false
noncomputable def eqV (x y : Value) : Bool := match x with
  | .agg ⟨a⟩ => match y with
    | .agg ⟨b⟩ => eqL a b
    | _ => false
  | x => eq1 x y
noncomputable def eqVL : List Value → List Value → Bool
  | [], [] => true
  | x :: l, y :: m => match eqV x y with
    | true => eqVL l m
    | false => false
  | _, _ => false
noncomputable def eqW (x y : Value) : Bool := match x with
  | .tuple ⟨a⟩ => match y with
    | .tuple ⟨b⟩ => eqVL a b
    | _ => false
  | x => eqV x y

theorem eq1_eq {x y : Value} (h : eq1 x y = true) : x = y := by
  cases x with
  | float k a =>
    cases y <;> first | (cases h; done) | skip
    rename_i j b
    cases k <;> cases j <;> first | (cases h; done) | skip
    · simp only [eq1, beq_t] at h; rw [h]
    · simp only [eq1, beq_t] at h; rw [h]
  | _ => exact same1_eq h
theorem eqL_eq : ∀ (a b : List Value), eqL a b = true → a = b
  | [], [], _ => rfl
  | x :: l, y :: m, h => by
    simp only [eqL] at h
    split at h
    · rename_i h1; rw [eq1_eq h1, eqL_eq l m h]
    · exact nomatch h
  | [], _ :: _, h => nomatch h
  | _ :: _, [], h => nomatch h
theorem eqV_eq {x y : Value} (h : eqV x y = true) : x = y := by
  cases x with
  | agg a =>
    obtain ⟨a⟩ := a
    cases y <;> first | (cases h; done) | skip
    rename_i b
    obtain ⟨b⟩ := b
    rw [eqL_eq a b h]
  | _ => exact eq1_eq h
theorem eqVL_eq : ∀ (a b : List Value), eqVL a b = true → a = b
  | [], [], _ => rfl
  | x :: l, y :: m, h => by
    simp only [eqVL] at h
    split at h
    · rename_i h1; rw [eqV_eq h1, eqVL_eq l m h]
    · exact nomatch h
  | [], _ :: _, h => nomatch h
  | _ :: _, [], h => nomatch h
theorem eqW_eq {x y : Value} (h : eqW x y = true) : x = y := by
  cases x with
  | tuple a =>
    obtain ⟨a⟩ := a
    cases y <;> first | (cases h; done) | skip
    rename_i b
    obtain ⟨b⟩ := b
    rw [eqVL_eq a b h]
  | _ => exact eqV_eq h

/-- a block that is only read -/
noncomputable def romB (l : List Value) : Blk := .rom (vput vec0 0 l) l.length
theorem romB_at {l : List Value} (hl : l.length ≤ 4096) {i : Nat} (hi : i < l.length) : bat (romB l) i = l.getD i undef := by
  show (va i).get (vput vec0 0 l) = _
  rw [vput_get _ _ _ _ (by omega) (by omega), if_pos (Nat.zero_le _), if_pos (by omega)]
  rfl

/-- blocks laid into a heap -/
noncomputable def layH : List (Nat × List Value) → H4 → H4
  | [], t => t
  | (b, l) :: m, t => layH m ((ha b).put t (some (romB l)))

/-- A call that has been worked out: of what function, of what arguments, what blocks it reads, from what number on its blocks lie; what it hands back, its new blocks that the answer names (by the run's numbers: the table numbers them anew), the blocks of it that are kept, and where the next one lies. -/
structure Ent where
  f : FuncId
  args : List Value
  need : List (Nat × List Value)
  base : Nat
  v : Value
  L : List Nat
  put : List (Nat × List Value)
  fin : Nat

noncomputable def Ent.start (e : Ent) : AH := ⟨layH e.need heap0, e.base⟩

noncomputable def nthN : List Nat → Nat → Option Nat
  | [], _ => none
  | x :: l, n => match n with
    | 0 => some x
    | m + 1 => nthN l m
/-- Is this number of the run that number of the table? -/
noncomputable def gB (base : Nat) (L : List Nat) (b b' : Nat) : Bool := match Nat.beq b nob with
  | true => Nat.beq b' nob
  | false => match Nat.blt b' base with
    | true => Nat.beq b b'
    | false => match nthN L (b' - base) with
      | some x => Nat.beq b x
      | none => false
/-- the same value, but for the numbers of blocks -/
noncomputable def eqR1 (g : Nat → Nat → Bool) (x y : Value) : Bool := match x with
  | .pointer (some ⟨a, i, none⟩) => match y with
    | .pointer (some ⟨b, j, none⟩) => match g a b with
      | true => Nat.beq i j
      | false => false
    | _ => false
  | .slice (some ⟨a, i, none⟩) m c => match y with
    | .slice (some ⟨b, j, none⟩) n d => match g a b, Nat.beq i j, Nat.beq m n with
      | true, true, true => Nat.beq c d
      | _, _, _ => false
    | _ => false
  | .map (some _) => false
  | .func _ _ _ => false
  | x => eq1 x y
noncomputable def eqRL (g : Nat → Nat → Bool) : List Value → List Value → Bool
  | [], [] => true
  | x :: l, y :: m => match eqR1 g x y with
    | true => eqRL g l m
    | false => false
  | _, _ => false
noncomputable def eqRV (g : Nat → Nat → Bool) (x y : Value) : Bool := match x with
  | .agg ⟨a⟩ => match y with
    | .agg ⟨b⟩ => eqRL g a b
    | _ => false
  | x => eqR1 g x y
noncomputable def eqRVL (g : Nat → Nat → Bool) : List Value → List Value → Bool
  | [], [] => true
  | x :: l, y :: m => match eqRV g x y with
    | true => eqRVL g l m
    | false => false
  | _, _ => false
noncomputable def eqRW (g : Nat → Nat → Bool) (x y : Value) : Bool := match x with
  | .tuple ⟨a⟩ => match y with
    | .tuple ⟨b⟩ => eqRVL g a b
    | _ => false
  | x => eqRV g x y

/-- are these blocks there, to be read? -/
noncomputable def hasR (h : AH) : List (Nat × List Value) → Bool
  | [] => true
  | (b, l) :: m => match h.get b with
    | some (.rom t n) => match Nat.beq n l.length, bcut (.rom t n) 0 l.length with
      | true, some l' => match eqL l' l with
        | true => hasR h m
        | false => false
      | _, _ => false
    | _ => false
/-- the cells of a block that was newly made -/
noncomputable def cellsN (h : AH) (n : Nat) : Option Nat → Option (List Value)
  | none => none
  | some x => match h.get x with
    | some (.cells cs) => bcut (.cells cs) 0 n
    | some (.vec t m) => bcut (.vec t m) 0 n
    | _ => none
/-- do these blocks lie there, newly made? -/
noncomputable def hasN (h : AH) (base : Nat) (L : List Nat) : List (Nat × List Value) → Bool
  | [] => true
  | (b, l) :: m => match Nat.ble l.length 4096, cellsN h l.length (nthN L (b - base)) with
    | true, some l' => match eqRL (gB base L) l' l with
      | true => hasN h base L m
      | false => false
    | _, _ => false
/-- each number below the next, and none twice -/
noncomputable def rising (fin : Nat) : Nat → List (Nat × List Value) → Bool
  | _, [] => true
  | lo, (b, l) :: m => match Nat.ble lo b, Nat.blt b fin, Nat.ble l.length 4096 with
    | true, true, true => rising fin (b + 1) m
    | _, _, _ => false
noncomputable def upL : Nat → List Nat → Bool
  | _, [] => true
  | lo, x :: l => match Nat.ble lo x with
    | true => upL (x + 1) l
    | false => false

/-- does a run come to what the table says? -/
noncomputable def Ent.check (e : Ent) (r : C) : Bool := match r with
  | .ret v h => eqRW (gB e.base e.L) v e.v && hasN h e.base e.L e.put && rising e.fin e.base e.put && Nat.beq (e.base + e.L.length) e.fin && upL e.base e.L && rising e.base 0 e.need && Nat.ble e.fin 65001
  | _ => false

/-- what the table answers -/
noncomputable def Ent.ans (e : Ent) (args : List Value) (h : AH) : Option C := match eqVL args e.args, Nat.ble h.next e.base, hasR h e.need with
  | true, true, true => some (.ret e.v ⟨layH e.put h.t, e.fin⟩)
  | _, _, _ => none

noncomputable def askT : List Ent → FuncId → List Value → AH → C → C
  | [], _, _, _, r => r
  | e :: l, f, args, h, r => match Nat.beq e.f f with
    | true => match e.ans args h with
      | some c => c
      | none => askT l f args h r
    | false => askT l f args h r

/-- an evaluator that asks the table ahead of another -/
noncomputable def orc (l : List Ent) (c : Rec) : Rec := fun f args h => askT l f args h (c f args h)
/-- one call, its own calls by another -/
noncomputable def once (P : Program) (c : Rec) : Rec := fun f args h => (ftOf P f).run c args h

section
variable {P : Program} {B : Nat} {w0 : World} {β : Beta} {h : AH} {w : World}

theorem layH_get : ∀ (l : List (Nat × List Value)) (t : H4) (n lo fin : Nat), rising fin lo l = true → fin ≤ 65536 → ∀ b, (AH.mk (layH l t) n).get b = match l.find? (fun p => p.1 == b) with | some p => some (romB p.2) | none => (AH.mk t n).get b
  | [], t, n, lo, fin, _, _, b => rfl
  | (b', l') :: m, t, n, lo, fin, hr, hf, b => by
    simp only [rising] at hr
    split at hr
    · rename_i h1 h2 h3
      rw [blt_t] at h2
      simp only [layH]
      rw [layH_get m _ n (b' + 1) fin hr hf b]
      have hget := AH.get_put (AH.mk t n) b' b (some (romB l')) (by omega)
      have e0 : (AH.mk t n).put b' (some (romB l')) = AH.mk ((ha b').put t (some (romB l'))) n := rfl
      rw [e0] at hget
      rw [hget, List.find?_cons]
      by_cases hb : b' = b
      · subst hb
        have : m.find? (fun p => p.1 == b') = none := by
          rw [List.find?_eq_none]
          intro p hp
          have := rising_lo m (b' + 1) fin hr p hp
          simp
          omega
        rw [this]
        simp
      · have e1 : ((b', l').1 == b) = false := by simp [hb]
        rw [e1]
        simp only
        cases m.find? (fun p => p.1 == b) with
        | some p => rfl
        | none => simp only; rw [if_neg (fun e => hb e.symm)]
    · exact nomatch hr
  where
  rising_lo : ∀ (m : List (Nat × List Value)) (lo fin : Nat), rising fin lo m = true → ∀ p ∈ m, lo ≤ p.1
    | [], _, _, _, p, hp => absurd hp (by simp)
    | (b, l) :: m, lo, fin, hr, p, hp => by
      simp only [rising] at hr
      split at hr
      · rename_i h1 h2 h3
        rw [ble_t] at h1
        rcases List.mem_cons.1 hp with rfl | hp
        · exact h1
        · have := rising_lo m (b + 1) fin hr p hp; omega
      · exact nomatch hr

theorem rising_mem : ∀ (m : List (Nat × List Value)) (lo fin : Nat), rising fin lo m = true → ∀ p ∈ m, lo ≤ p.1 ∧ p.1 < fin ∧ p.2.length ≤ 4096
  | [], _, _, _, p, hp => absurd hp (by simp)
  | (b, l) :: m, lo, fin, hr, p, hp => by
    simp only [rising] at hr
    split at hr
    · rename_i h1 h2 h3
      rw [ble_t] at h1 h3
      rw [blt_t] at h2
      rcases List.mem_cons.1 hp with rfl | hp
      · exact ⟨h1, h2, h3⟩
      · obtain ⟨g1, g2, g3⟩ := rising_mem m (b + 1) fin hr p hp
        exact ⟨by omega, g2, g3⟩
    · exact nomatch hr

theorem heap0_get (n b : Nat) : (AH.mk heap0 n).get b = none := by
  rw [AH.get_eq]
  split
  · rename_i hb
    show (ha b).get heap0 = none
    rw [ha_get]
    unfold heap0
    rw [sel_rep _ _ (by omega), sel_rep _ _ (by omega), sel_rep _ _ (by omega), sel_rep _ _ (by omega)]
  · rfl

theorem cut_all {k : Blk} {l l' : List Value} (hc : bcut k 0 l.length = some l') (he : l' = l) : l.length ≤ bsize k ∧ ∀ i, i < l.length → bat k i = l.getD i undef := by
  subst he
  obtain ⟨h1, h2, h3⟩ := bcut_eq hc
  refine ⟨by omega, fun i hi => ?_⟩
  have := h3 i hi
  rw [Nat.zero_add] at this
  exact this.symm

theorem hasR_mem : ∀ (m : List (Nat × List Value)), hasR h m = true → ∀ p ∈ m, ∃ t n, h.get p.1 = some (.rom t n) ∧ n = p.2.length ∧ ∀ i, i < p.2.length → bat (.rom t n) i = p.2.getD i undef
  | [], _, p, hp => absurd hp (by simp)
  | (b, l) :: m, hr, p, hp => by
    simp only [hasR] at hr
    split at hr
    · rename_i t n hb
      split at hr
      · rename_i l' h1 h2
        split at hr
        · rename_i h3
          rcases List.mem_cons.1 hp with rfl | hp
          · exact ⟨t, n, hb, beq_t.1 h1, (cut_all h2 (eqL_eq _ _ h3)).2⟩
          · exact hasR_mem m hr p hp
        · exact nomatch hr
      · exact nomatch hr
    · exact nomatch hr

theorem nthN_eq : ∀ (L : List Nat) (i : Nat), nthN L i = L[i]?
  | [], i => by simp [nthN]
  | x :: l, 0 => rfl
  | x :: l, i + 1 => by simp only [nthN, List.getElem?_cons_succ]; exact nthN_eq l i
theorem upL_ge : ∀ (L : List Nat) (lo : Nat), upL lo L = true → ∀ (i x : Nat), L[i]? = some x → lo ≤ x
  | [], _, _, i, x, h => by simp at h
  | y :: l, lo, hu, i, x, h => by
    simp only [upL] at hu
    split at hu
    · rename_i h1
      rw [ble_t] at h1
      cases i with
      | zero => simp at h; omega
      | succ i =>
        rw [List.getElem?_cons_succ] at h
        have := upL_ge l (y + 1) hu i x h
        omega
    · exact nomatch hu
theorem upL_inj : ∀ (L : List Nat) (lo : Nat), upL lo L = true → ∀ (i j x : Nat), L[i]? = some x → L[j]? = some x → i = j
  | [], _, _, i, j, x, h, _ => by simp at h
  | y :: l, lo, hu, i, j, x, hi, hj => by
    simp only [upL] at hu
    split at hu
    · cases i with
      | zero =>
        cases j with
        | zero => rfl
        | succ j =>
          rw [List.getElem?_cons_succ] at hj
          have := upL_ge l (y + 1) hu j x hj
          simp at hi
          omega
      | succ i =>
        cases j with
        | zero =>
          rw [List.getElem?_cons_succ] at hi
          have := upL_ge l (y + 1) hu i x hi
          simp at hj
          omega
        | succ j =>
          rw [List.getElem?_cons_succ] at hi hj
          rw [upL_inj l (y + 1) hu i j x hi hj]
    · exact nomatch hu

theorem eqRL_get {g : Nat → Nat → Bool} : ∀ (a b : List Value), eqRL g a b = true → a.length = b.length ∧ ∀ i, i < a.length → eqR1 g (a.getD i undef) (b.getD i undef) = true
  | [], [], _ => ⟨rfl, fun i hi => absurd hi (by simp)⟩
  | x :: l, y :: m, h => by
    simp only [eqRL] at h
    split at h
    · rename_i h1
      obtain ⟨g1, g2⟩ := eqRL_get l m h
      refine ⟨by simp [g1], fun i hi => ?_⟩
      cases i with
      | zero => exact h1
      | succ i => exact g2 i (by simpa using hi)
    · exact nomatch h
  | [], _ :: _, h => nomatch h
  | _ :: _, [], h => nomatch h
theorem eqRVL_get {g : Nat → Nat → Bool} : ∀ (a b : List Value), eqRVL g a b = true → a.length = b.length ∧ ∀ i, i < a.length → eqRV g (a.getD i undef) (b.getD i undef) = true
  | [], [], _ => ⟨rfl, fun i hi => absurd hi (by simp)⟩
  | x :: l, y :: m, h => by
    simp only [eqRVL] at h
    split at h
    · rename_i h1
      obtain ⟨g1, g2⟩ := eqRVL_get l m h
      refine ⟨by simp [g1], fun i hi => ?_⟩
      cases i with
      | zero => exact h1
      | succ i => exact g2 i (by simpa using hi)
    · exact nomatch h
  | [], _ :: _, h => nomatch h
  | _ :: _, [], h => nomatch h

section
variable {g : Nat → Nat → Bool} {β1 β2 : Beta}

theorem eqR1_rel (hg : ∀ b b' e, g b b' = true → β1 b = some e → β2 b' = some e) (hn : ∀ b', g nob b' = true → b' = nob) {x y v : Value} (r : VRel β1 x v) (h : eqR1 g x y = true) : VRel β2 y v ∧ flat y = true := by
  cases r with
  | bool b => have := eq1_eq (x := .bool b) (y := y) h; subst this; exact ⟨.bool b, rfl⟩
  | int k n => have := eq1_eq (x := .int k n) (y := y) h; subst this; exact ⟨.int k n, rfl⟩
  | float k n => have := eq1_eq (x := .float k n) (y := y) h; subst this; exact ⟨.float k n, rfl⟩
  | string s => have := eq1_eq (x := .string s) (y := y) h; subst this; exact ⟨.string s, rfl⟩
  | ptrN => have := eq1_eq (x := .pointer none) (y := y) h; subst this; exact ⟨.ptrN, rfl⟩
  | ptr he =>
    simp only [eqR1] at h
    split at h
    · split at h
      · rename_i h1
        rw [beq_t] at h
        subst h
        exact ⟨.ptr (hg _ _ _ h1 he), rfl⟩
      · exact nomatch h
    · exact nomatch h
  | slN n c => have := eq1_eq (x := .slice none n c) (y := y) h; subst this; exact ⟨.slN n c, rfl⟩
  | sl hc he =>
    simp only [eqR1] at h
    split at h
    · split at h
      · rename_i h1 h2 h3
        rw [beq_t] at h h2 h3
        subst h; subst h2; subst h3
        exact ⟨.sl hc (hg _ _ _ h1 he), rfl⟩
      · exact nomatch h
    · exact nomatch h
  | slU he hn hl =>
    simp only [eqR1] at h
    split at h
    · split at h
      · rename_i h1 h2 h3
        rw [beq_t] at h h2 h3
        subst h; subst h2; subst h3
        exact ⟨.slU (hg _ _ _ h1 he) hn hl, rfl⟩
      · exact nomatch h
    · exact nomatch h
  | slE a =>
    simp only [eqR1] at h
    split at h
    · split at h
      · rename_i h1 h2 h3
        rw [beq_t] at h h2 h3
        subst h; subst h2; subst h3
        rw [hn _ h1]
        exact ⟨.slE a, rfl⟩
      · exact nomatch h
    · exact nomatch h
  | mapN => have := eq1_eq (x := .map none) (y := y) h; subst this; exact ⟨.mapN, rfl⟩
  | map he => exact nomatch h
  | func _ _ _ _ _ => exact nomatch h
  | nilFunc => have := eq1_eq (x := .nilFunc) (y := y) h; subst this; exact ⟨.nilFunc, rfl⟩
  | iface t r => exact nomatch h
  | nilIface => have := eq1_eq (x := .nilIface) (y := y) h; subst this; exact ⟨.nilIface, rfl⟩
  | agg _ _ _ => exact nomatch h
  | tuple _ _ => exact nomatch h

theorem eqRV_rel (hg : ∀ b b' e, g b b' = true → β1 b = some e → β2 b' = some e) (hn : ∀ b', g nob b' = true → b' = nob) {x y v : Value} (r : VRel β1 x v) (h : eqRV g x y = true) : VRel β2 y v := by
  cases r with
  | agg h1 h2 h3 =>
    simp only [eqRV] at h
    split at h
    · obtain ⟨k1, k2⟩ := eqRL_get _ _ h
      refine .agg (by omega) (fun i hi => ?_) (fun i hi => ?_)
      · exact (eqR1_rel hg hn (h3 i (by omega)) (k2 i (by omega))).2
      · exact (eqR1_rel hg hn (h3 i (by omega)) (k2 i (by omega))).1
    · exact nomatch h
  | bool b => exact (eqR1_rel hg hn (.bool b) h).1
  | int k n => exact (eqR1_rel hg hn (.int k n) h).1
  | float k n => exact (eqR1_rel hg hn (.float k n) h).1
  | string s => exact (eqR1_rel hg hn (.string s) h).1
  | ptrN => exact (eqR1_rel hg hn .ptrN h).1
  | ptr he => exact (eqR1_rel hg hn (.ptr he) h).1
  | slN n c => exact (eqR1_rel hg hn (.slN n c) h).1
  | sl hc he => exact (eqR1_rel hg hn (.sl hc he) h).1
  | slU he h1 h2 => exact (eqR1_rel hg hn (.slU he h1 h2) h).1
  | slE a => exact (eqR1_rel hg hn (.slE a) h).1
  | mapN => exact (eqR1_rel hg hn .mapN h).1
  | map he => exact nomatch h
  | func _ _ _ _ _ => exact nomatch h
  | nilFunc => exact (eqR1_rel hg hn .nilFunc h).1
  | iface t r => exact nomatch h
  | nilIface => exact (eqR1_rel hg hn .nilIface h).1
  | tuple _ _ => exact nomatch h

theorem eqRW_rel (hg : ∀ b b' e, g b b' = true → β1 b = some e → β2 b' = some e) (hn : ∀ b', g nob b' = true → b' = nob) {x y v : Value} (r : VRel β1 x v) (h : eqRW g x y = true) : VRel β2 y v := by
  cases x with
  | tuple a =>
    cases r with
    | tuple h1 h2 =>
      simp only [eqRW] at h
      split at h
      · obtain ⟨k1, k2⟩ := eqRVL_get _ _ h
        exact .tuple (by omega) (fun i hi => eqRV_rel hg hn (h2 i (by omega)) (k2 i (by omega)))
      · exact nomatch h
  | _ => exact eqRV_rel hg hn r h
end

theorem cellsN_eq {n : Nat} {o : Option Nat} {l : List Value} (hc : cellsN h n o = some l) : ∃ x k, o = some x ∧ h.get x = some k ∧ BM k ∧ ¬ isMap k ∧ n ≤ bsize k ∧ l.length = n ∧ ∀ i, i < n → l.getD i undef = bat k i := by
  cases o with
  | none => exact nomatch hc
  | some x =>
    simp only [cellsN] at hc
    split at hc
    · rename_i cs hb
      obtain ⟨h1, h2, h3⟩ := bcut_eq hc
      exact ⟨x, _, rfl, hb, trivial, fun x => x, by omega, h2, fun i hi => by have := h3 i hi; rwa [Nat.zero_add] at this⟩
    · rename_i t m hb
      obtain ⟨h1, h2, h3⟩ := bcut_eq hc
      exact ⟨x, _, rfl, hb, trivial, fun x => x, by omega, h2, fun i hi => by have := h3 i hi; rwa [Nat.zero_add] at this⟩
    · exact nomatch hc

theorem hasN_mem {base : Nat} {L : List Nat} : ∀ (m : List (Nat × List Value)), hasN h base L m = true → ∀ p ∈ m, p.2.length ≤ 4096 ∧ ∃ x k, L[p.1 - base]? = some x ∧ h.get x = some k ∧ BM k ∧ ¬ isMap k ∧ p.2.length ≤ bsize k ∧ ∀ i, i < p.2.length → eqR1 (gB base L) (bat k i) (p.2.getD i undef) = true
  | [], _, p, hp => absurd hp (by simp)
  | (b, l) :: m, hr, p, hp => by
    simp only [hasN] at hr
    split at hr
    · rename_i l' h1 h2
      split at hr
      · rename_i h3
        rcases List.mem_cons.1 hp with rfl | hp
        · obtain ⟨x, k, g1, g2, g3, g4, g5, g6, g7⟩ := cellsN_eq h2
          rw [nthN_eq] at g1
          obtain ⟨k1, k2⟩ := eqRL_get _ _ h3
          refine ⟨ble_t.1 h1, x, k, g1, g2, g3, g4, g5, fun i hi => ?_⟩
          have := k2 i (by have : i < l.length := hi; omega)
          rw [g7 i hi] at this
          exact this
        · exact hasN_mem m hr p hp
      · exact nomatch hr
    · exact nomatch hr

/-- the blocks as the table numbers them -/
def ren (β β' : Beta) (base : Nat) (L : List Nat) : Beta := fun b => if b < base then β b else match L[b - base]? with
  | some x => β' x
  | none => none

/-- THE TABLE's ANSWER IS SOUND. -/
theorem ans_ok {c : Rec} (hc : CallOK P P.globals.size c) (e : Ent) (hchk : e.check (c e.f e.args e.start) = true) {args args' : List Value} (r : Rel B w0 β h w) (hg : GRel P.globals.size β) (ha : LRel β args args') {v : Value} {h' : AH}
    (hans : e.ans args h = some (.ret v h')) : (∃ v' β' w', (callFunc e.f ⟨args'⟩).run P w = .ok (.value v') w' ∧ Sim B w0 β h w β' h' w' ∧ VRel β' v v') ∨
      ((callFunc e.f ⟨args'⟩).run P w = .ok (.enter e.f ⟨args'⟩) w ∧ Calls P e.f ⟨args'⟩ w fun en w' => ∃ v' β', en = .returned v' ∧ Sim B w0 β h w β' h' w' ∧ VRel β' v v') := by
  unfold Ent.ans at hans
  split at hans
  · rename_i h1 h2 h3
    cases hans
    have hargs := eqVL_eq _ _ h1
    subst hargs
    rw [ble_t] at h2
    unfold Ent.check at hchk
    split at hchk
    · rename_i v1 h1' hrun
      simp only [Bool.and_eq_true, beq_t, ble_t] at hchk
      obtain ⟨⟨⟨⟨⟨⟨k1, k2⟩, k3⟩, k4⟩, kL⟩, k5⟩, k6⟩ := hchk
      -- the state from which it was worked out
      have hsg : ∀ b k, e.start.get b = some k → ∃ p ∈ e.need, p.1 = b ∧ k = romB p.2 := fun b k hb => by
        have := layH_get e.need heap0 e.base 0 e.base k5 (by omega) b
        have e0 : e.start = AH.mk (layH e.need heap0) e.base := rfl
        rw [e0, this] at hb
        cases hf : e.need.find? (fun p => p.1 == b) with
        | none => rw [hf] at hb; simp only [heap0_get] at hb; exact nomatch hb
        | some p =>
          rw [hf] at hb
          cases hb
          exact ⟨p, List.mem_of_find?_eq_some hf, by simpa using List.find?_some hf, rfl⟩
      have hold : ∀ b k e', e.start.get b = some k → β b = some e' → BRel β k e' w := fun b k e' hb he => by
        obtain ⟨p, hp, rfl, rfl⟩ := hsg b k hb
        obtain ⟨t, n, g1, g2, g3⟩ := hasR_mem e.need h3 p hp
        obtain ⟨_, _, g4⟩ := rising_mem _ _ _ k5 p hp
        have := (r.blk _ _ _ g1 he).cells (fun x => x)
        obtain ⟨q1, cs, el, fr, q2, q3, q4, q5⟩ := this
        refine BRel.of_cells (k := romB p.2) (fun x => x) ?_
        refine ⟨by show e'.s + p.2.length ≤ e'.n; rw [← g2]; exact q1, cs, el, fr, q2, q3, fun x => x.elim, fun i hi => ?_⟩
        have hi' : i < p.2.length := hi
        rw [romB_at g4 hi', ← g3 i hi']
        exact q5 i (by show i < n; omega)
      have rs : Rel w.heap.size w β e.start w :=
        ⟨fun b k hb => by obtain ⟨p, hp, rfl, rfl⟩ := hsg b k hb; exact (rising_mem _ _ _ k5 p hp).2.1, by show e.base ≤ 65001; omega, fun b hb => r.fresh b (by have : e.base ≤ b := hb; omega),
          fun b k hb => by obtain ⟨p, hp, rfl, rfl⟩ := hsg b k hb; exact (rising_mem _ _ _ k5 p hp).2.2, hold, fun b k e' hb he hm => by obtain ⟨p, hp, rfl, rfl⟩ := hsg b k hb; exact hm.elim,
          fun b b' k k' e1 e2 hb hb' he he' hcc => by
            obtain ⟨p, hp, rfl, rfl⟩ := hsg b k hb
            obtain ⟨p', hp', rfl, rfl⟩ := hsg b' k' hb'
            obtain ⟨t, n, g1, _⟩ := hasR_mem e.need h3 p hp
            obtain ⟨t', n', g1', _⟩ := hasR_mem e.need h3 p' hp'
            exact r.inj _ _ _ _ _ _ g1 g1' he he' hcc, Nat.le_refl _, Below.refl _ _⟩
      have key := hc e.f e.args e.start w.heap.size w β w args' rs hg ha
      rw [hrun] at key
      -- what it left, in the caller's heap
      have lift : ∀ (β' : Beta) (w' : World) (v' : Value), Sim w.heap.size w β e.start w β' h1' w' → VRel β' v1 v' → Sim B w0 β h w (ren β β' e.base e.L) ⟨layH e.put h.t, e.fin⟩ w' ∧ VRel (ren β β' e.base e.L) e.v v' := by
        intro β' w' v' s hv
        have r1 := s.rel
        have hnob : β' nob = none := r1.fresh _ (by have := r1.nx; unfold nob; omega)
        have hold' : ∀ b, b < e.base → β' b = β b := fun b hb => by
          cases hx : β b with
          | none => exact (s.keep b hb hx).1
          | some x => exact s.ext _ _ hx
        have hgB : ∀ b b' x, gB e.base e.L b b' = true → β' b = some x → ren β β' e.base e.L b' = some x := fun b b' x hb he => by
          unfold gB at hb
          split at hb
          · rename_i h4
            rw [beq_t] at h4
            rw [h4, hnob] at he
            exact nomatch he
          · split at hb
            · rename_i h5
              rw [blt_t] at h5
              rw [beq_t] at hb
              subst hb
              show (if b < e.base then β b else _) = _
              rw [if_pos h5, ← hold' _ h5]
              exact he
            · rename_i h5
              have h5' : ¬ b' < e.base := fun h6 => by rw [blt_t.2 h6] at h5; exact nomatch h5
              split at hb
              · rename_i y h6
                rw [beq_t] at hb
                rw [nthN_eq] at h6
                show (if b' < e.base then β b' else _) = _
                rw [if_neg h5', h6]
                show β' y = some x
                rw [← hb]
                exact he
              · exact nomatch hb
        have hgn : ∀ b', gB e.base e.L nob b' = true → b' = nob := fun b' hb => by
          unfold gB at hb
          rw [beq_t.2 rfl] at hb
          exact beq_t.1 hb
        have hren : BLe β (ren β β' e.base e.L) := fun b x hb => by
          have hlt : b < e.base := by
            apply Nat.lt_of_not_le
            intro h4
            rw [r.fresh b (by omega)] at hb
            exact nomatch hb
          show (if b < e.base then β b else _) = _
          rw [if_pos hlt]
          exact hb
        have hput : ∀ b, (AH.mk (layH e.put h.t) e.fin).get b = match e.put.find? (fun p => p.1 == b) with | some p => some (romB p.2) | none => h.get b :=
          fun b => layH_get e.put h.t e.fin e.base e.fin k3 (by omega) b
        have hcase : ∀ b k, (AH.mk (layH e.put h.t) e.fin).get b = some k → (∃ p ∈ e.put, p.1 = b ∧ k = romB p.2) ∨ (h.get b = some k) := fun b k hb => by
          rw [hput] at hb
          cases hf : e.put.find? (fun p => p.1 == b) with
          | none => rw [hf] at hb; exact .inr hb
          | some p =>
            rw [hf] at hb
            cases hb
            exact .inl ⟨p, List.mem_of_find?_eq_some hf, by simpa using List.find?_some hf, rfl⟩
        have hβ : ∀ b k e', h.get b = some k → ren β β' e.base e.L b = some e' → β b = some e' := fun b k e' hb he => by
          have hlt := r.wf _ _ hb
          have he' : (if b < e.base then β b else _) = some e' := he
          rw [if_pos (by omega)] at he'
          exact he'
        have hβp : ∀ p ∈ e.put, ∀ x e', e.L[p.1 - e.base]? = some x → ren β β' e.base e.L p.1 = some e' → β' x = some e' := fun p hp x e' hx he => by
          have := (rising_mem _ _ _ k3 p hp).1
          have he' : (if p.1 < e.base then β p.1 else match e.L[p.1 - e.base]? with
            | some x => β' x
            | none => none) = some e' := he
          rw [if_neg (by omega), hx] at he'
          exact he'
        have hsz := r1.below.size
        refine ⟨⟨hren, ⟨fun b k hb => ?_, by show e.fin ≤ 65001; omega, fun b hb => ?_, fun b k hb => ?_, fun b k e' hb he => ?_, fun b k e' hb he hm => ?_, fun b b' k k' e1 e2 hb hb' he he' hcc => ?_, ?_, ?_⟩, ?_, ?_⟩, eqRW_rel hgB hgn hv k1⟩
        · show b < e.fin
          rcases hcase b k hb with ⟨p, hp, rfl, rfl⟩ | hb
          · exact (rising_mem _ _ _ k3 p hp).2.1
          · have := r.wf _ _ hb
            omega
        · have hb' : e.fin ≤ b := hb
          show (if b < e.base then β b else _) = _
          rw [if_neg (by omega), List.getElem?_eq_none (by omega)]
        · rcases hcase b k hb with ⟨p, hp, rfl, rfl⟩ | hb
          · exact (rising_mem _ _ _ k3 p hp).2.2
          · exact r.bw _ _ hb
        · rcases hcase b k hb with ⟨p, hp, rfl, rfl⟩ | hb
          · obtain ⟨g0, x, k0, gx, g1, g2, g3, g4, g5⟩ := hasN_mem e.put k2 p hp
            obtain ⟨q1, cs, el, fr, q2, q3, q4, q5⟩ := (r1.blk _ _ _ g1 (hβp p hp x e' gx he)).cells g3
            refine BRel.of_cells (k := romB p.2) (fun x => x) ?_
            refine ⟨by show e'.s + p.2.length ≤ e'.n; omega, cs, el, fr, q2, q3, fun x => x.elim, fun i hi => ?_⟩
            have hi' : i < p.2.length := hi
            rw [romB_at g0 hi']
            obtain ⟨t1, t2⟩ := eqR1_rel hgB hgn (q5 i (by omega)).2 (g5 i hi')
            exact ⟨t2, t1⟩
          · have hr := r.blk b k e' hb (hβ b k e' hb he)
            exact hr.mono hren (r1.below.block _ hr.lt)
        · rcases hcase b k hb with ⟨p, hp, rfl, rfl⟩ | hb
          · exact hm.elim
          · exact r.lo b k e' hb (hβ b k e' hb he) hm
        · rcases hcase b k hb with ⟨p, hp, rfl, rfl⟩ | hb
          · obtain ⟨g0, x, k0, gx, g1, g2, g3, g4, _⟩ := hasN_mem e.put k2 p hp
            have hex := hβp p hp x _ gx he
            have hlo := r1.lo _ _ _ g1 hex g2
            rcases hcase b' k' hb' with ⟨p', hp', rfl, rfl⟩ | hb'
            · obtain ⟨g0', x', k0', gx', g1', g2', _⟩ := hasN_mem e.put k2 p' hp'
              have := r1.inj _ _ _ _ _ _ g1 g1' hex (hβp p' hp' x' _ gx' he') hcc
              subst this
              have := upL_inj _ _ kL _ _ _ gx gx'
              have := (rising_mem _ _ _ k3 p hp).1
              have := (rising_mem _ _ _ k3 p' hp').1
              omega
            · have := (r.blk _ _ _ hb' (hβ _ _ _ hb' he')).lt
              omega
          · rcases hcase b' k' hb' with ⟨p', hp', rfl, rfl⟩ | hb'
            · obtain ⟨g0', x', k0', gx', g1', g2', _⟩ := hasN_mem e.put k2 p' hp'
              have hlo := r1.lo _ _ _ g1' (hβp p' hp' x' _ gx' he') g2'
              have := (r.blk _ _ _ hb (hβ _ _ _ hb he)).lt
              omega
            · exact r.inj _ _ _ _ _ _ hb hb' (hβ _ _ _ hb he) (hβ _ _ _ hb' he') hcc
        · have := r.low; omega
        · exact r.below.trans (r1.below.mono r.low)
        · show h.next ≤ e.fin
          omega
        · intro b hb hn
          refine ⟨?_, ?_⟩
          · show (if b < e.base then β b else _) = _
            rw [if_pos (by omega)]
            exact hn
          · rw [hput]
            cases hf : e.put.find? (fun p => p.1 == b) with
            | none => rfl
            | some p =>
              have h5 := (rising_mem _ _ _ k3 p (List.mem_of_find?_eq_some hf)).1
              have h6 : p.1 = b := by simpa using List.find?_some hf
              omega
      rcases key with ⟨v', β', w', g1, g2, g3⟩ | ⟨g1, g2⟩
      · obtain ⟨t1, t2⟩ := lift _ _ _ g2 g3
        exact .inl ⟨v', _, w', g1, t1, t2⟩
      · exact .inr ⟨g1, g2.mono fun en w' ⟨v', β', he, hs, hv⟩ => by
          obtain ⟨t1, t2⟩ := lift _ _ _ hs hv
          exact ⟨v', _, he, t1, t2⟩⟩
    · exact nomatch hchk
  · exact nomatch hans

/-- An entry of the table that has been worked out by a sound evaluator. -/
def EntOK (P : Program) (e : Ent) : Prop := ∃ c, CallOK P P.globals.size c ∧ e.check (c e.f e.args e.start) = true

theorem ans_ret {e : Ent} {args : List Value} {h : AH} {c : C} (ha : e.ans args h = some c) : ∃ v h', c = .ret v h' := by
  unfold Ent.ans at ha
  split at ha
  · cases ha; exact ⟨_, _, rfl⟩
  · exact nomatch ha

theorem orc_ok {c : Rec} (hc : CallOK P P.globals.size c) : ∀ (l : List Ent), (∀ e ∈ l, EntOK P e) → CallOK P P.globals.size (orc l c)
  | [], _ => hc
  | e :: l, hl => by
    intro f args h B w0 β w args' r hg ha
    have ih := orc_ok hc l (fun e he => hl e (by simp [he])) f args h B w0 β w args' r hg ha
    have e1 : orc (e :: l) c f args h = match Nat.beq e.f f with
      | true => match e.ans args h with
        | some c => c
        | none => orc l c f args h
      | false => orc l c f args h := rfl
    rw [e1]
    cases hf : Nat.beq e.f f with
    | false => exact ih
    | true =>
      rw [beq_t] at hf
      subst hf
      simp only
      cases hans : e.ans args h with
      | none => exact ih
      | some x =>
        obtain ⟨v, h', rfl⟩ := ans_ret hans
        obtain ⟨c0, hc0, hchk⟩ := hl e (by simp)
        exact ans_ok hc0 e hchk r hg ha hans

theorem once_ok {c : Rec} (hm : P.follows .mixedOrders = true) (hc : CallOK P P.globals.size c) : CallOK P P.globals.size (once P c) :=
  (callB_ok hm hc).of_le (callT_step (fun _ _ _ => .rfl))
end
end Go.Ab
