/- The evaluator's operations answer as the model's do, second part; regions and calls. -/
import Derived.Test.YtehbdakjkjkekaaGreatDoorEvalB
import Derived.Laws.IdiomStrings
import Derived.Laws.RangeString
import Derived.Laws.AppendOwn
import Derived.Lib.UnsafeStr
import Derived.Test.YtehbdakjkjkekaaGreatDoorEvalA
import Derived.Calls
import Derived.LoopN
set_option linter.all false
set_option linter.unusedSectionVars false
set_option linter.deprecated false
section
namespace Go.Ai
open Go Go.RowKit
section
variable {P : Program} {tt : TT} {ρ : Pos -> Loc} {C : Cells} {st : St} {w w' : World}
theorem delO_get (del : Option Pos) (h : T AB) {b : Pos} {x : AB} (hb : (delO del h).get b = some x) : h.get b = some x /\ ∀ c, del = some c -> b ≠ c := by
  cases del with
  | none => exact ⟨hb, fun _ h => by cases h⟩
  | some c =>
    by_cases he : c = b
    . subst he; simp only [delO] at hb; rw [T.get_put] at hb; cases hb
    . simp only [delO] at hb; rw [T.get_put_ne _ he] at hb
      exact ⟨hb, fun d hd => by cases hd; exact fun e => he e.symm⟩
theorem new_ok (hW : WRel ρ C st w) {o : Obj} {x0 : AB} {base size : Nat} (del : Option Pos) (hh : w'.heap = w.heap.push o) (h1 : w'.os = w.os) (h2 : w'.tape = w.tape) (h3 : w'.output = w.output)
    (hB : ∀ ρ' n', (∀ b : Pos, b.toNat < st.next.toNat -> ρ' b = ρ b) -> st.next.toNat <= n' -> BRel ρ' n' C ⟨w.heap.size, base, size⟩ w' x0) :
    ∃ ρ' : Pos -> Loc, (∀ b : Pos, b.toNat < st.next.toNat -> ρ' b = ρ b) /\ ρ' st.next = ⟨w.heap.size, base, size⟩ /\ WRel ρ' C (st.eff del none (some x0)) w' /\ Evo ρ st w ρ' (st.eff del none (some x0)) w' := by
  let ρ' : Pos -> Loc := fun b => if b = st.next then ⟨w.heap.size, base, size⟩ else ρ b
  have ak : ∀ b : Pos, b.toNat < st.next.toNat -> ρ' b = ρ b := fun b hb => if_neg (fun e => by rw [e] at hb; omega)
  have aJ : ρ' st.next = ⟨w.heap.size, base, size⟩ := if_pos rfl
  have aZ : w'.heap.size = w.heap.size + 1 := by rw [hh]; simp
  have hold : ∀ k, k < w.heap.size -> w'.heap[k]? = w.heap[k]? := fun k hk => by rw [hh, Array.getElem?_push, if_neg (by omega)]
  refine ⟨ρ', ak, aJ, ?_, ⟨h1, h2, h3, by omega, fun k hk _ => hold k hk, fun b x hb => ?_⟩⟩
  rotate_left
  . by_cases he : b = st.next
    . right; rw [he, aJ]; exact Nat.le_refl _
    . left
      simp only [St.eff, putO] at hb
      rw [T.get_put_ne _ (fun e => he e.symm)] at hb
      have bQ := (delO_get del _ hb).1
      exact ⟨b, x, bQ, by rw [ak b (hW.live b x bQ).1]⟩
  refine hW.put1 (b0 := st.next) (x0 := x0) (by rw [Pos.toNat_succ]; omega) (by rw [Pos.toNat_succ]; omega) (by rw [T.get_put]) ?_ ak (by rw [aJ]; exact hB _ _ ak (by rw [Pos.toNat_succ]; omega)) ?_ (by rw [aJ, aZ]; simp) (by omega) (fun k hk _ => hold k hk)
  . intro b x hb hx
    rw [T.get_put_ne _ (fun e => hb e.symm)] at hx
    have hx := (delO_get del _ hx).1
    refine ⟨hx, ?_⟩
    rw [aJ]
    have := (hW.live b x hx).2.1
    simp only; omega
  . intro a v ha
    have := World.block_lt_of_cell? _ _ (hW.froz a v ha).1
    rw [aJ]; simp only; omega
theorem set_ok (hW : WRel ρ C st w) {b : Pos} {x x0 : AB} (hb : st.heap.get b = some x) (h1 : w'.os = w.os) (h2 : w'.tape = w.tape) (h3 : w'.output = w.output) (aZ : w'.heap.size = w.heap.size)
    (gI : ∀ k, k ≠ (ρ b).blk -> w'.heap[k]? = w.heap[k]?) (hB : BRel ρ st.next.toNat C (ρ b) w' x0) :
    WRel ρ C (st.eff none (some (b, x0)) none) w' /\ Evo ρ st w ρ (st.eff none (some (b, x0)) none) w' := by
  obtain ⟨aA, dJ, _⟩ := hW.live b x hb
  refine ⟨?_, ⟨h1, h2, h3, by omega, fun k _ hk => gI k (fun e => hk b x hb e.symm), fun c y hc => ?_⟩⟩
  rotate_left
  . left
    by_cases he : c = b
    . exact ⟨b, x, hb, by rw [he]⟩
    . simp only [St.eff, putO, delO] at hc
      rw [T.get_put_ne _ (fun e => he e.symm)] at hc
      exact ⟨c, y, hc, rfl⟩
  refine hW.put1 (b0 := b) (x0 := x0) (Nat.le_refl _) aA (by simp only [putO, delO]; rw [T.get_put]) ?_ (fun _ _ => rfl) hB ?_ (by omega) (by omega) (fun k _ hk => gI k hk)
  . intro c y hc hy
    simp only [putO, delO] at hy
    rw [T.get_put_ne _ (fun e => hc e.symm)] at hy
    exact ⟨hy, fun e => hc (hW.inj _ _ _ _ hy hb e)⟩
  . exact fun a v ha e => (hW.froz a v ha).2 b x hb e.symm
theorem cells_new {cs : List AV} {c : Array Value} {e : TypeId} {fr : Nat × Nat} {g : Nat} {n : Nat} (hg : w'.heap[g]? = some (.cells c e fr)) (hle : cs.length <= c.size) (hv : VsRel ρ n C cs (c.toList.take cs.length))
    (hf : ∀ i, i < c.size -> ¬ (fr.1 <= i /\ i < fr.2)) : BRel ρ n C ⟨g, 0, c.size⟩ w' (.cells cs 0) :=
  ⟨c, e, fr, hg, rfl, by simpa using hle, by simpa using hv, fun i _ hi => by simpa using hf i (by simpa using hi)⟩
theorem snd_alloc (hT : TTOk P tt) (t : TypeId) : OpSound P tt (.alloc t) := by
  intro ρ C st w k xs cls fr a o vs res ho hc hW hF hx hr
  simp only [cOp] at hc
  split at hc <;> first | (cases hc; done) | skip
  rename_i ti aO
  split at hc <;> first | (cases hc; done) | skip
  rename_i z hz
  split at hc
  . cases hc
    simp only [evsA, Option.some.injEq] at hx; subst hx
    simp only [OpK.run, runAllocT, Option.some.injEq] at hr; subst hr
    obtain ⟨zv, iA, _, fB⟩ := zero_rel hT aO hz (ρ := ρ) (n := st.next.toNat) (C := C) w
    have hl : z.length = zv.cells.size := by simpa using fB.1
    obtain ⟨ρ', ak, aJ, aS, hE⟩ := new_ok (w' := w.alloc (.cells zv.cells t)) (o := .cells zv.cells t) (x0 := .typed t z) (base := 0) (size := zv.cells.size) hW none rfl rfl rfl rfl (fun ρ' n' ak hn =>
      ⟨zv.cells, (0, 0), by show (w.heap.push _)[w.heap.size]? = _; simp, rfl, by simp only [Nat.zero_add]; omega, by rw [hl, List.drop_zero, List.take_of_length_le (by simp)]; exact fB.mono ak hn, fun i _ => by simp, rfl⟩)
    refine ⟨_, .pointer (some ⟨w.heap.size, 0, none⟩), _, ρ', ?_, Yields.value _, ak, aS, ?_, hE⟩
    . simp [execOp, ho, Instr.alloc, iA, newVar, newRow]
    . have := VRel.ptr (ρ := ρ') (n := (st.eff none none (some (.typed t z))).next.toNat) (C := C) st.next 0 (by simp [St.eff, Pos.toNat_succ])
      rw [aJ] at this; simpa using this
  cases hc
  simp only [evsA, Option.some.injEq] at hx; subst hx
  simp only [OpK.run, runAlloc, Option.some.injEq] at hr; subst hr
  obtain ⟨zv, iA, _, fB⟩ := zero_rel hT aO hz (ρ := ρ) (n := st.next.toNat) (C := C) w
  have hl : z.length = zv.cells.size := by simpa using fB.1
  obtain ⟨ρ', ak, aJ, aS, hE⟩ := new_ok (w' := w.alloc (.cells zv.cells t)) (o := .cells zv.cells t) (x0 := .cells z 0) (base := 0) (size := zv.cells.size) hW none rfl rfl rfl rfl (fun ρ' n' ak hn =>
    cells_new (w' := w.alloc (.cells zv.cells t)) (e := t) (fr := (0, 0)) (by show (w.heap.push _)[w.heap.size]? = _; simp) (by omega) (by rw [hl, List.take_of_length_le (by simp)]; exact fB.mono ak hn) (fun i _ => by simp))
  refine ⟨_, .pointer (some ⟨w.heap.size, 0, none⟩), _, ρ', ?_, Yields.value _, ak, aS, ?_, hE⟩
  . simp [execOp, ho, Instr.alloc, iA, newVar, newRow]
  . have := VRel.ptr (ρ := ρ') (n := (st.eff none none (some (.cells z 0))).next.toNat) (C := C) st.next 0 (by simp [St.eff, Pos.toNat_succ])
    rw [aJ] at this; simpa using this
theorem snd_box (t : TypeId) (x : Operand) : OpSound P tt (.box t x) := by
  intro ρ C st w k xs cls fr a o vs res ho hc hW hF hx hr
  simp only [cOp] at hc
  split at hc <;> first | (cases hc; done) | skip
  rename_i b hb
  cases hc
  obtain ⟨v, rfl, hv⟩ := cOpd_rel1 hb hF hx
  simp only [OpK.run, runBox, Option.some.injEq] at hr; subst hr
  have fB := hv.cells
  have hl : v.cells.length = (a.eval x).cells.size := by simpa using fB.1
  obtain ⟨ρ', ak, aJ, aS, hE⟩ := new_ok (w' := w.alloc (.cells (a.eval x).cells t)) (o := .cells (a.eval x).cells t) (x0 := .cells v.cells 0) (base := 0) (size := (a.eval x).cells.size) hW none rfl rfl rfl rfl (fun ρ' n' ak hn =>
    cells_new (w' := w.alloc (.cells (a.eval x).cells t)) (e := t) (fr := (0, 0)) (by show (w.heap.push _)[w.heap.size]? = _; simp) (by omega) (by rw [hl, List.take_of_length_le (by simp)]; exact fB.mono ak hn) (fun i _ => by simp))
  refine ⟨_, .pointer (some ⟨w.heap.size, 0, none⟩), _, ρ', ?_, Yields.value _, ak, aS, ?_, hE⟩
  . simp [execOp, ho, Instr.box, newVar, newRow]
  . have := VRel.ptr (ρ := ρ') (n := (st.eff none none (some (.cells v.cells 0))).next.toNat) (C := C) st.next 0 (by simp [St.eff, Pos.toNat_succ])
    rw [aJ] at this; simpa using this
theorem repeatL_rel {n : Nat} {z : List AV} {zs : List Value} (h : VsRel ρ n C z zs) : ∀ m, VsRel ρ n C (repeatL z m) (repeatL zs m)
  | 0 => VsRel.nil
  | m + 1 => h.append (repeatL_rel h m)
theorem repeatL_length {α : Type} (z : List α) : ∀ m, (repeatL z m).length = m * z.length
  | 0 => by simp [repeatL]
  | m + 1 => by simp [repeatL, repeatL_length z m, Nat.add_mul, Nat.add_comm]
theorem repeatL_get {α : Type} (z : List α) : ∀ (m i : Nat), i < m * z.length -> (repeatL z m)[i]? = z[i % z.length]?
  | 0, i, h => by simp at h
  | m + 1, i, h => by
    simp only [repeatL]
    by_cases hi : i < z.length
    . rw [List.getElem?_append_left hi, Nat.mod_eq_of_lt hi]
    . have hi : z.length <= i := by omega
      rw [List.getElem?_append_right hi, repeatL_get z m _ (by rw [Nat.add_mul] at h; omega)]
      congr 1
      rw [<- Nat.mod_eq_sub_mod hi]
theorem zero_row (z : Array Value) (m : Nat) (hz : 0 < z.size) : ((Array.range (m * z.size)).map (z[· % z.size]!)).toList = repeatL z.toList m := by
  apply List.ext_getElem?
  intro i
  by_cases hi : i < m * z.size
  . rw [repeatL_get _ _ _ (by simpa using hi)]
    have aA : i % z.size < z.size := Nat.mod_lt _ hz
    simp [hi, aA]
  . rw [List.getElem?_eq_none (by simp; omega), List.getElem?_eq_none (by rw [repeatL_length]; simp; omega)]
theorem slice_new {ρ' : Pos -> Loc} {b : Pos} {n g len es aj size : Nat} {cap : Option Nat} (hb : b.toNat < n) (ak : ρ' b = ⟨g, 0, size⟩) (hl : len <= aj) (hc : ∀ c, cap = some c -> c = aj) (hs : aj * es <= size) :
    VRel ρ' n C (.slice b 0 len cap es) (.slice (some ⟨g, 0, none⟩) len aj) :=
  .slice _ _ _ _ _ _ _ hl hc (fun _ => ⟨hb, by rw [ak], by rw [ak]; simpa using hs⟩) (fun _ => hb)
theorem zero_cells {z : List AV} {zv : Value} {n m size : Nat} (fB : VsRel ρ n C z zv.cells.toList) (hl : z.length = size) :
    VsRel ρ n C (repeatL z m) ((Array.range (m * size)).map ((if m * size = 0 then (#[] : Array Value) else zv.cells)[· % (if m * size = 0 then (#[] : Array Value) else zv.cells).size]!)).toList /\
    ((Array.range (m * size)).map ((if m * size = 0 then (#[] : Array Value) else zv.cells)[· % (if m * size = 0 then (#[] : Array Value) else zv.cells).size]!)).size = m * size := by
  refine ⟨?_, by simp⟩
  by_cases h0 : m * size = 0
  . have : repeatL z m = [] := by apply List.eq_nil_of_length_eq_zero; rw [repeatL_length, hl]; exact h0
    rw [this]
    have : (Array.range (m * size)) = #[] := by rw [h0]; rfl
    rw [this]; simpa using (VsRel.nil : VsRel ρ n C [] [])
  . rw [if_neg h0]
    have qo : zv.cells.size = size := by have := fB.1; simp at this; omega
    have rK : 0 < zv.cells.size := by
      rw [qo]; rcases Nat.eq_zero_or_pos size with h | h
      . rw [h] at h0; simp at h0
      . exact h
    have := zero_row zv.cells m rK
    rw [qo] at this ⊢
    rw [this]
    exact repeatL_rel fB m
theorem wrap_in {k : IntKind} {i : Int} (h1 : loI k <= i) (h2 : i <= hiI k) : k.wrap i = i := by
  rw [<- wrapI_eq]
  unfold wrapI
  split
  . split
    . rfl
    . exact absurd h2 (by assumption)
  . exact absurd h1 (by assumption)
theorem wrap_nat {j : Nat} (h : j <= 9223372036854775807) : IntKind.i64.wrap (j : Int) = (j : Int) := wrap_in (by simp only [loI]; omega) (by simp only [hiI]; omega)
theorem snd_mkSlice (hT : TTOk P tt) (t : TypeId) (l c : Operand) : OpSound P tt (.makeSlice t l c) := by
  intro ρ C st w k xs cls fr a o vs res ho hc hW hF hx hr
  simp only [cOp] at hc
  split at hc <;> first | (cases hc; done) | skip
  rename_i ti l0 aO hl
  split at hc <;> first | (cases hc; done) | skip
  rename_i e hk
  split at hc <;> first | (cases hc; done) | skip
  rename_i te bu
  split at hc <;> first | (cases hc; done) | skip
  rename_i z hz
  cases hc
  obtain ⟨d, hd, aE⟩ := (hT.at aO).und
  rw [hk] at aE; rw [tk_slice aE] at hd
  obtain ⟨i0, cX, cI, Bt, iz⟩ := (hT.at bu).info
  obtain ⟨u, v, rfl, h1, h2⟩ := evs2 hl hF hx
  simp only [OpK.run, runMkSlice] at hr
  split at hr <;> first | (cases hr; done) | skip
  rename_i jl jc hjl hjc
  split at hr <;> first | (cases hr; done) | skip
  rename_i e1 e2 e3
  have e1 := Nat.le_of_ble_eq_true e1
  have e2 := Nat.le_of_ble_eq_true e2
  have e3 := Nat.le_of_ble_eq_true e3
  simp only [Option.some.injEq] at hr; subst hr
  obtain ⟨kl, hkl⟩ := asIx_rel h1 hjl
  obtain ⟨kc, hkc⟩ := asIx_rel h2 hjc
  obtain ⟨Ge, Gf, _, oU, _⟩ := iz z hz
  obtain ⟨zv, iA, _, fB⟩ := zero_rel hT bu hz (ρ := ρ) (n := st.next.toNat) (C := C) w
  obtain ⟨gV, qa⟩ := zero_cells (m := jc) fB oU
  generalize bn : (Array.range (jc * te.size)).map ((if jc * te.size = 0 then (#[] : Array Value) else zv.cells)[· % (if jc * te.size = 0 then (#[] : Array Value) else zv.cells).size]!) = row at gV qa
  obtain ⟨ρ', ak, aJ, aS, hE⟩ := new_ok (w' := w.alloc (.cells row e)) (o := .cells row e) (x0 := .cells (repeatL z jc) 0) (base := 0) (size := row.size) hW none rfl rfl rfl rfl (fun ρ' n' ak hn =>
    cells_new (w' := w.alloc (.cells row e)) (e := e) (fr := (0, 0)) (by show (w.heap.push _)[w.heap.size]? = _; simp) (by rw [repeatL_length, qa, oU]; exact Nat.le_refl _)
      (by rw [repeatL_length, oU, <- qa, <- Array.length_toList, List.take_length]; exact gV.mono ak hn) (fun i _ => by simp))
  refine ⟨_, .slice (some ⟨w.heap.size, 0, none⟩) jl jc, _, ρ', ?_, Yields.value _, ak, aS, ?_, hE⟩
  . have bJ := wrap_nat (Nat.le_trans e1 e3)
    have eT := wrap_nat e3
    have hb : ¬ ((te.bytes : Int) * (jc : Int) > 2 ^ 48) := by
      have h := Int.ofNat_le.2 e2
      rw [Int.natCast_mul] at h
      exact Int.not_lt.2 h
    have aB : (Instr.makeSlice t (.int kl jl) (.int kc jc)).run P w = .ok (.slice (some ⟨w.heap.size, 0, none⟩) jl jc) (w.alloc (.cells row e)) := by
      unfold Instr.makeSlice
      simp only [Sem.run_bind, run_und hd, Result.andThen_ok, asInt, asIntOf, Sem.run_pure, run_info cX, bJ, eT, Bt]
      have wQ : ¬ ((decide ((jc : Int) < 0) || decide ((te.bytes : Int) * (jc : Int) > 2 ^ 48) || decide ((jl : Int) < 0) || decide ((jl : Int) > (jc : Int))) = true) := by
        simp only [Bool.or_eq_true, decide_eq_true_eq]
        rintro (((h | h) | h) | h)
        . omega
        . exact hb h
        . omega
        . omega
      rw [if_neg wQ]
      simp only [Sem.run_bind, run_askRoom, Result.andThen_ok, run_size cX, cI, Int.toNat_natCast]
      rw [<- bn]
      by_cases h0 : jc * te.size = 0
      . simp only [h0, if_true, Sem.run_bind, Sem.run_pure, Result.andThen_ok, newRow, run_newObj, World.alloc_eq]
      . simp only [h0, if_false, Sem.run_bind, Sem.run_pure, Result.andThen_ok, iA, newRow, run_newObj, World.alloc_eq]
    simp [execOp, ho, hkl, hkc, aB]
  . exact slice_new (by simp [St.eff, Pos.toNat_succ]) aJ e1 (fun c hc => by cases hc; rfl) (by rw [qa]; exact Nat.le_refl _)
theorem snd_buildSlice (hT : TTOk P tt) (t : TypeId) (len : Nat) (ps : Array (Nat × Operand)) : OpSound P tt (.buildSlice t len ps) := by
  intro ρ C st w k xs cls fr a o vs res ho hc hW hF hx hr
  simp only [cOp] at hc
  split at hc <;> first | (cases hc; done) | skip
  rename_i ti l0 aO hl
  split at hc <;> first | (cases hc; done) | skip
  rename_i e hk
  split at hc <;> first | (cases hc; done) | skip
  rename_i te bu
  split at hc <;> first | (cases hc; done) | skip
  rename_i z hz Gg
  have Gg := Nat.le_of_ble_eq_true Gg
  cases hc
  obtain ⟨d, hd, aE⟩ := (hT.at aO).und
  rw [hk] at aE; rw [tk_slice aE] at hd
  obtain ⟨i0, cX, cI, Bt, iz⟩ := (hT.at bu).info
  have hv := cOpds_rel hl hF hx
  simp only [OpK.run, runBuildSlice] at hr
  split at hr <;> first | (cases hr; done) | skip
  rename_i cs nI
  simp only [Option.some.injEq] at hr; subst hr
  obtain ⟨Ge, Gf, _, oU, _⟩ := iz z hz
  obtain ⟨zv, iA, _, fB⟩ := zero_rel hT bu hz (ρ := ρ) (n := st.next.toNat) (C := C) w
  obtain ⟨gV, qa⟩ := zero_cells (m := len) fB oU
  generalize bn : (Array.range (len * te.size)).map ((if len * te.size = 0 then (#[] : Array Value) else zv.cells)[· % (if len * te.size = 0 then (#[] : Array Value) else zv.cells).size]!) = row at gV qa
  have vQ : (ps.map fun (i, x) => (i, a.eval x)).toList = ps.toList.map fun x => (x.1, a.eval x.2) := by simp
  obtain ⟨eJ, e1, e2⟩ := fill_rel (fun i => some (i * te.size, te.size)) nI gV (ps := ps.toList.map fun x => (x.1, a.eval x.2)) (by simpa [List.map_map, Function.comp_def] using hv) (by simp [List.map_map, Function.comp_def])
  have hlen : cs.length = eJ.size := by simpa using e2.1
  have nJ : ∀ {pp : List (Nat × Nat)} {vs cells r : List AV}, fillA cells pp vs = some r -> r.length = cells.length := by
    intro pp
    induction pp with
    | nil => intro vs cells r h; unfold fillA at h; split at h <;> first | (cases h; done) | (simp only [Option.some.injEq] at h; subst h; rfl) | (rename_i hh; cases hh)
    | cons p pp ih =>
      intro vs cells r h
      unfold fillA at h
      split at h <;> first | (cases h; done) | (rename_i hh; cases hh; done) | skip
      rename_i hh
      simp only [List.cons.injEq] at hh
      obtain ⟨rfl, rfl⟩ := hh
      split at h <;> first | (cases h; done) | skip
      rename_i g1 g2
      have g1 := Nat.eq_of_beq_eq_true g1
      have g2 := Nat.le_of_ble_eq_true g2
      rw [ih h]; simp [splice]; omega
  have Lt := nJ nI
  rw [repeatL_length, oU] at Lt
  obtain ⟨ρ', ak, aJ, aS, hE⟩ := new_ok (w' := w.alloc (.cells eJ e)) (o := .cells eJ e) (x0 := .cells cs 0) (base := 0) (size := eJ.size) hW none rfl rfl rfl rfl (fun ρ' n' ak hn =>
    cells_new (w' := w.alloc (.cells eJ e)) (e := e) (fr := (0, 0)) (by show (w.heap.push _)[w.heap.size]? = _; simp) (by omega)
      (by rw [hlen, <- Array.length_toList, List.take_length]; exact e2.mono ak hn) (fun i _ => by simp))
  refine ⟨_, .slice (some ⟨w.heap.size, 0, none⟩) len len, _, ρ', ?_, Yields.value _, ak, aS, ?_, hE⟩
  . have aB : (Instr.buildSlice t len (ps.map fun (i, x) => (i, a.eval x))).run P w = .ok (.slice (some ⟨w.heap.size, 0, none⟩) len len) (w.alloc (.cells eJ e)) := by
      unfold Instr.buildSlice
      simp only [Sem.run_bind, run_und hd, Result.andThen_ok, run_size cX, cI]
      rw [if_neg (by omega)]
      by_cases h0 : len * te.size = 0
      . simp only [h0, if_true, Sem.run_bind, Sem.run_pure, Result.andThen_ok]
        simp only [h0, if_true] at bn
        rw [bn, vQ, e1]
        simp only [newRow, Sem.run_bind, run_newObj, World.alloc_eq, Result.andThen_ok, Sem.run_pure]
      . simp only [h0, if_false, Sem.run_bind, Sem.run_pure, Result.andThen_ok, iA]
        simp only [h0, if_false] at bn
        rw [bn, vQ, e1]
        simp only [newRow, Sem.run_bind, run_newObj, World.alloc_eq, Result.andThen_ok, Sem.run_pure]
    simp only [execOp, ho, Sem.run_bind]
    rw [aB]; rfl
  . exact slice_new (by simp [St.eff, Pos.toNat_succ]) aJ (Nat.le_refl _) (fun c hc => by cases hc; rfl) (by omega)
theorem snd_mkMap (t : TypeId) (r : Option Operand) (hT : TTOk P tt) : OpSound P tt (.makeMap t r) := by
  intro ρ C st w k xs cls fr a o vs res ho hc hW hF hx hr
  have key : k = .mkMap /\ (execOp a.eval o).run P w = .ok (.value (.map (some w.heap.size))) (w.alloc (.map #[] 0)) := by
    simp only [cOp] at hc
    split at hc <;> first | (cases hc; done) | skip
    rename_i ti aO
    obtain ⟨d, hd, aE⟩ := (hT.at aO).und
    split at hc <;> first | (cases hc; done) | skip
    . cases hc
      exact ⟨rfl, by simp [execOp, ho, Instr.makeMap]⟩
    . rename_i hk
      rw [hk] at aE; rw [tk_map aE] at hd
      cases hc
      exact ⟨rfl, by simp [execOp, ho, Instr.makeMap, run_und hd, Act.eval, asInt, asIntOf]⟩
  obtain ⟨rfl, aB⟩ := key
  simp only [OpK.run, runMkMap, Option.some.injEq] at hr; subst hr
  obtain ⟨ρ', ak, aJ, aS, hE⟩ := new_ok (w' := w.alloc (.map #[] 0)) (o := .map #[] 0) (x0 := .map [] 0) (base := 0) (size := 0) hW none rfl rfl rfl rfl (fun ρ' n' ak hn =>
    ⟨#[], by show (w.heap.push _)[w.heap.size]? = _; simp, rfl, fun i e e' h => by simp at h⟩)
  refine ⟨_, _, _, ρ', aB, Yields.value _, ak, aS, ?_, hE⟩
  have := VRel.map (ρ := ρ') (n := (st.eff none none (some (.map [] 0))).next.toNat) (C := C) st.next (by simp [St.eff, Pos.toNat_succ])
  rw [aJ] at this; exact this
theorem snd_rangeS (hT : TTOk P tt) (t : TypeId) (x : Operand) : OpSound P tt (.range t x) := by
  intro ρ C st w k xs cls fr a o vs res ho hc hW hF hx hr
  simp only [cOp] at hc
  split at hc <;> first | (cases hc; done) | skip
  rename_i ti b aO hb
  split at hc <;> first | (cases hc; done) | skip
  rename_i hk
  cases hc
  obtain ⟨d, hd, aE⟩ := (hT.at aO).und
  rw [hk] at aE; rw [tk_string aE] at hd
  obtain ⟨v, rfl, hv⟩ := cOpd_rel1 hb hF hx
  simp only [OpK.run, runRangeS] at hr
  split at hr <;> first | (cases hr; done) | skip
  rename_i s
  simp only [Option.some.injEq] at hr; subst hr
  obtain ⟨bs, he, hs⟩ := hv.str_inv
  obtain ⟨ρ', ak, aJ, aS, hE⟩ := new_ok (w' := w.alloc (.stringIter bs 0)) (o := .stringIter bs 0) (x0 := .siter s 0) (base := 0) (size := 0) hW none rfl rfl rfl rfl (fun ρ' n' ak hn =>
    ⟨bs, by show (w.heap.push _)[w.heap.size]? = _; simp, hs, rfl⟩)
  refine ⟨_, .pointer (some ⟨w.heap.size, 0, none⟩), _, ρ', ?_, Yields.value _, ak, aS, ?_, hE⟩
  . simp [execOp, ho, he, Instr.range, run_und hd]
  . have := VRel.ptr (ρ := ρ') (n := (st.eff none none (some (.siter s 0))).next.toNat) (C := C) st.next 0 (by simp [St.eff, Pos.toNat_succ])
    rw [aJ] at this; simpa using this
theorem snd_convBytes (hT : TTOk P tt) (src dst : TypeId) (x : Operand) (hb : ∃ xs cls, cOp tt (.convert src dst x) = some (.conv .bytes, xs, cls)) : OpSound P tt (.convert src dst x) := by
  intro ρ C st w k xs cls fr a o vs res ho hc hW hF hx hr
  obtain ⟨_, _, bQ⟩ := hb
  rw [hc] at bQ
  simp only [Option.some.injEq, Prod.mk.injEq] at bQ
  obtain ⟨rfl, _⟩ := bQ
  simp only [cOp] at hc
  split at hc <;> first | (cases hc; done) | skip
  rename_i s d b hs hd hb
  obtain ⟨ds, jC, kR⟩ := (hT.at hs).und
  obtain ⟨dd, hdd, aE⟩ := (hT.at hd).und
  split at hc <;> first | (cases hc; done) | skip
  . rename_i e h1 h2
    split at hc <;> first | (cases hc; done) | skip
    rename_i te bu
    split at hc <;> first | (cases hc; done) | skip
    rename_i oR
    cases hc
    rw [h1] at kR; rw [h2] at aE
    rw [tk_string kR] at jC; rw [tk_slice aE] at hdd
    obtain ⟨de, xW, xX⟩ := (hT.at bu).und
    rw [oR] at xX; rw [tk_int xX] at xW
    obtain ⟨v, rfl, hv⟩ := cOpd_rel1 hb hF hx
    simp only [OpK.run, runConv] at hr
    split at hr <;> first | (cases hr; done) | (rename_i heq; cases heq; done) | (rename_i heq; cases heq)
    rename_i u
    simp only [Option.some.injEq] at hr; subst hr
    obtain ⟨bs, he, hs⟩ := hv.str_inv
    have aB := run_bytes_of_string (P := P) w src dst e bs jC hdd xW
    have iE : bs.size <= grownCap w bs.size 0 e := by unfold grownCap Question.cut; exact Nat.le_add_right _ _
    generalize grownCap w bs.size 0 e = cap at aB iE
    have aZ : (bytesRow bs cap).size = cap := by
      have : bs.data.size = bs.size := rfl
      simp [bytesRow, this]; omega
    have vR : u.length = bs.size := (str_size hs).symm
    have hrel : ∀ ρ' n', VsRel ρ' n' C (u.map fun c => AV.int .u8 (.ofNat c)) ((bytesRow bs cap).toList.take (u.map fun c => AV.int .u8 (.ofNat c)).length) := by
      intro ρ' n'
      have h1 : (bytesRow bs cap).toList.take (u.map fun c => AV.int .u8 (.ofNat c)).length = u.map fun c => Value.int .u8 (.ofNat c) := by
        have hdl : bs.data.toList.length = bs.size := by simp
        rw [List.length_map, vR]
        simp only [bytesRow, Array.toList_append, Array.toList_map]
        rw [List.take_left' (by simp), <- hs, List.map_map]
        rfl
      rw [h1]
      refine ⟨by simp, fun i v x hv hx => ?_⟩
      simp only [List.getElem?_map, Option.map_eq_some_iff] at hv hx
      obtain ⟨c, hc, rfl⟩ := hv
      obtain ⟨c', gl, rfl⟩ := hx
      rw [hc] at gl; cases gl
      exact .int _ _
    obtain ⟨ρ', ak, aJ, aS, hE⟩ := new_ok (w' := w.drew.alloc (.cells (bytesRow bs cap) e ((bytesRow bs cap).size, (bytesRow bs cap).size + 1))) (o := .cells (bytesRow bs cap) e ((bytesRow bs cap).size, (bytesRow bs cap).size + 1))
      (x0 := .cells (u.map fun c => AV.int .u8 (.ofNat c)) 0) (base := 0) (size := (bytesRow bs cap).size) hW none rfl rfl rfl rfl (fun ρ' n' ak hn =>
      cells_new (e := e) (fr := ((bytesRow bs cap).size, (bytesRow bs cap).size + 1)) (by show (w.heap.push _)[w.heap.size]? = _; simp) (by rw [List.length_map, vR, aZ]; exact iE) (hrel _ _) (fun i hi => by simp; omega))
    refine ⟨_, .slice (some ⟨w.heap.size, 0, none⟩) u.length cap, _, ρ', ?_, Yields.value _, ak, aS, ?_, hE⟩
    . simp only [execOp, ho, he, Sem.run_bind]
      rw [aB, vR]; rfl
    . exact slice_new (by simp [St.eff, Pos.toNat_succ]) aJ (by omega) (fun c hc => by cases hc) (by omega)
  all_goals
    repeat' split at hc
    all_goals (cases hc; done)
end
end Go.Ai
end
section
namespace Go.Ai
open Go Go.RowKit
section
variable {P : Program} {tt : TT} {ρ : Pos -> Loc} {C : Cells} {st : St} {w w' : World}
theorem allOne_one {n : Nat} : ∀ {l : List AV} {ys : List Value}, allOne l = true -> VsRel ρ n C l ys -> ∀ y ∈ ys, y.oneCell' = true
  | [], ys, _, h => by have := h.nil_inv; subst this; simp
  | v :: l, ys, h1, h => by
    unfold allOne at h1
    split at h1 <;> first | (cases h1; done) | skip
    rename_i ho
    obtain ⟨y, ys', rfl, hv, hs⟩ := h.cons_inv
    intro z hz
    simp at hz
    rcases hz with rfl | hz
    . cases hv <;> first | rfl | (simp [AV.one] at ho; done)
    . exact allOne_one h1 hs z hz
theorem splice_get {α : Type} (l : List α) {i : Nat} (vs : List α) (hi : i <= l.length) (k : Nat) : (splice l i vs)[k]? = if k < i then l[k]? else if k < i + vs.length then vs[k - i]? else l[k]? := by
  unfold splice
  have hl : (l.take i).length = i := by simp; omega
  split
  . rename_i h; rw [List.getElem?_append_left (by omega), List.getElem?_take, if_pos h]
  . rename_i h
    rw [List.getElem?_append_right (by omega), hl]
    split
    . rename_i h'; rw [List.getElem?_append_left (by omega)]
    . rename_i h'
      rw [List.getElem?_append_right (by omega), List.getElem?_drop]
      congr 1; omega
theorem drop_splice {α : Type} (l : List α) (b off : Nat) (vs : List α) (h : b + off <= l.length) : (splice l (b + off) vs).drop b = splice (l.drop b) off vs := by
  apply List.ext_getElem?
  intro k
  rw [List.getElem?_drop, splice_get l vs h, splice_get (l.drop b) vs (by simp; omega), List.getElem?_drop]
  by_cases h1 : k < off
  . rw [if_pos (by omega), if_pos h1]
  . rw [if_neg (by omega), if_neg h1]
    by_cases h2 : k < off + vs.length
    . rw [if_pos (by omega), if_pos h2]; congr 1; omega
    . rw [if_neg (by omega), if_neg h2]
theorem take_splice {α : Type} (l : List α) (off m : Nat) (vs : List α) (h : off + vs.length <= m) (h' : m <= l.length) : (splice l off vs).take m = splice (l.take m) off vs := by
  apply List.ext_getElem?
  intro k
  rw [List.getElem?_take, splice_get l vs (by omega), splice_get (l.take m) vs (by simp; omega), List.getElem?_take]
  by_cases h1 : k < off
  . rw [if_pos (by omega), if_pos h1, if_pos h1, if_pos (by omega)]
  . by_cases h2 : k < off + vs.length
    . rw [if_pos (by omega), if_neg h1, if_pos h2, if_neg h1, if_pos h2]
    . rw [if_neg h1, if_neg h2, if_neg h1, if_neg h2]
theorem store_ok (hW : WRel ρ C st w) {b : Pos} {cs vs : List AV} {fz off : Nat} {ys : List Value} (hb : st.heap.get b = some (.cells cs fz)) (hle : off + vs.length <= cs.length) (xS : fz <= off)
    (h1 : allOne vs = true) (hv : VsRel ρ st.next.toNat C vs ys) :
    ∃ w', (storeCells ⟨(ρ b).blk, (ρ b).base + off, none⟩ ys).run P w = .ok () w' /\ WRel ρ C (st.eff none (some (b, .cells (splice cs off vs) fz)) none) w' /\ Evo ρ st w ρ (st.eff none (some (b, .cells (splice cs off vs) fz)) none) w' := by
  obtain ⟨_, _, c, e, fr, g1, g2, g3, g4, g5⟩ := hW.live b _ hb
  have hl : vs.length = ys.length := hv.1
  obtain ⟨w', e1, e2, e3, e4, e5, e6, e7⟩ := run_storeCells_over (P := P) (ρ b).blk e fr ys 0 ((ρ b).base + off) c w g1 (by omega) (allOne_one h1 hv) (fun k hk eV => by
    have := g5 (k - (ρ b).base) (by omega) (by omega)
    rwa [show (ρ b).base + (k - (ρ b).base) = k from by omega] at this)
  simp only [Nat.add_zero] at e1 e2
  refine ⟨w', e1, ?_⟩
  have hlen : (splice cs off vs).length = cs.length := by simp [splice]; omega
  refine set_ok hW hb e5 e6 e7 e3 e4 ⟨_, e, fr, e2, ?_, ?_, ?_, fun i hi rL => g5 i hi ?_⟩
  . simp [splice]; omega
  . rw [hlen]; simp [splice]; omega
  . rw [hlen]
    rw [drop_splice _ _ _ _ (by simp; omega), take_splice _ _ _ _ (by omega) (by simp; omega)]
    exact g4.splice hv off
  . simp [splice] at rL; omega
theorem storeT_ok (hW : WRel ρ C st w) {b : Pos} {cs vs : List AV} {t : TypeId} {off : Nat} {ys : List Value} (hb : st.heap.get b = some (.typed t cs)) (hle : off + vs.length <= cs.length)
    (h1 : allOne vs = true) (hv : VsRel ρ st.next.toNat C vs ys) :
    ∃ w', (storeCells ⟨(ρ b).blk, (ρ b).base + off, none⟩ ys).run P w = .ok () w' /\ WRel ρ C (st.eff none (some (b, .typed t (splice cs off vs))) none) w' /\ Evo ρ st w ρ (st.eff none (some (b, .typed t (splice cs off vs))) none) w' := by
  obtain ⟨_, _, c, fr, g1, g2, g3, g4, g5, g6⟩ := hW.live b _ hb
  have hl : vs.length = ys.length := hv.1
  obtain ⟨w', e1, e2, e3, e4, e5, e6, e7⟩ := run_storeCells_over (P := P) (ρ b).blk t fr ys 0 ((ρ b).base + off) c w g1 (by omega) (allOne_one h1 hv) (fun k hk eV => by
    have := g5 (k - (ρ b).base) (by omega) (by omega)
    rwa [show (ρ b).base + (k - (ρ b).base) = k from by omega] at this)
  simp only [Nat.add_zero] at e1 e2
  refine ⟨w', e1, ?_⟩
  have hlen : (splice cs off vs).length = cs.length := by simp [splice]; omega
  refine set_ok hW hb e5 e6 e7 e3 e4 ⟨_, fr, e2, ?_, ?_, ?_, fun i hi rL => g5 i hi ?_, g6⟩
  . simp [splice]; omega
  . rw [hlen]; simp [splice]; omega
  . rw [hlen]
    rw [drop_splice _ _ _ _ (by simp; omega), take_splice _ _ _ _ (by omega) (by simp; omega)]
    exact g4.splice hv off
  . simp [splice] at rL; omega
theorem VRel.undef_ok {n : Nat} : VRel ρ n C .undef undef := .tuple [] #[] rfl (fun _ _ _ h => by simp at h)
theorem snd_store (hT : TTOk P tt) (t : TypeId) (x y : Operand) : OpSound P tt (.store t x y) := by
  intro ρ C st w k xs cls fr a o vs res ho hc hW hF hx hr
  simp only [cOp] at hc
  split at hc <;> first | (cases hc; done) | skip
  rename_i ti l aO hl
  cases hc
  obtain ⟨p, v, rfl, h1, h2⟩ := evs2 hl hF hx
  obtain ⟨i0, cX, cI, _⟩ := (hT.at aO).info
  simp only [OpK.run, runStore] at hr
  split at hr <;> first | (cases hr; done) | skip
  rename_i b off
  split at hr <;> first | (cases hr; done) | skip
  rotate_left
  . rename_i t0 cs hb
    split at hr <;> first | (cases hr; done) | skip
    rename_i e1 e2 e4
    have e1 := Nat.eq_of_beq_eq_true e1
    have e2 := Nat.le_of_ble_eq_true e2
    simp only [Option.some.injEq] at hr; subst hr
    obtain ⟨_, he⟩ := h1.ptr_inv
    have hc := h2.cells
    obtain ⟨w', aB, aS, hE⟩ := storeT_ok (P := P) (vs := v.cells) (off := off) hW hb (by omega) e4 hc
    refine ⟨.skip, undef, w', ρ, ?_, .inr ⟨rfl, rfl⟩, fun _ _ => rfl, aS, VRel.undef_ok, hE⟩
    have aZ : (a.eval y).cells.size = ti.size := by have := hc.1; simp at this; omega
    simp [execOp, ho, he, Instr.storeAt, Instr.sureAddr, storeVar, run_size cX, cI, aZ, aB]
  rename_i cs fz hb
  split at hr <;> first | (cases hr; done) | skip
  rename_i e1 e2 e3 e4
  have e1 := Nat.eq_of_beq_eq_true e1
  have e2 := Nat.le_of_ble_eq_true e2
  have e3 := Nat.le_of_ble_eq_true e3
  simp only [Option.some.injEq] at hr; subst hr
  obtain ⟨_, he⟩ := h1.ptr_inv
  have hc := h2.cells
  obtain ⟨w', aB, aS, hE⟩ := store_ok (P := P) hW hb (by omega) e3 e4 hc
  refine ⟨.skip, undef, w', ρ, ?_, .inr ⟨rfl, rfl⟩, fun _ _ => rfl, aS, VRel.undef_ok, hE⟩
  have aZ : (a.eval y).cells.size = ti.size := by have := hc.1; simp at this; omega
  simp [execOp, ho, he, Instr.storeAt, Instr.sureAddr, storeVar, run_size cX, cI, aZ, aB]
theorem run_setObj_map {r : Nat} {es : Array MapEntry} {c : Nat} {o : Obj} {w : World} (h : w.heap[r]? = some (.map es c)) : (setObj r o).run P w = .ok () { w with heap := w.heap.setIfInBounds r o } := by
  simp [setObj, Sem.run, h]
theorem map_set_ok (hW : WRel ρ C st w) {b : Pos} {es : List (AV × AV × Nat)} {clock : Nat} (hb : st.heap.get b = some (.map es clock)) {Gh : List (AV × AV × Nat)} {wR : Array MapEntry} {clock2 : Nat}
    (hE : EsRel ρ st.next.toNat C Gh wR.toList) :
    WRel ρ C (st.eff none (some (b, .map Gh clock2)) none) { w with heap := w.heap.setIfInBounds (ρ b).blk (.map wR clock2) } /\ Evo ρ st w ρ (st.eff none (some (b, .map Gh clock2)) none) { w with heap := w.heap.setIfInBounds (ρ b).blk (.map wR clock2) } := by
  have aA := (hW.live b _ hb).2.1
  refine set_ok hW hb rfl rfl rfl (by simp) (fun k hk => by simp [Array.getElem?_setIfInBounds_ne (Ne.symm hk)]) ⟨wR, by simp [aA], by simpa using hE.1, fun i e e' h1 h2 => hE.2 i e e' h1 (by simpa using h2)⟩
theorem sameBits_of_eqPK {n : Nat} {pk : PK} {u v : AV} {x y : Value} (h1 : VRel ρ n C u x) (h2 : VRel ρ n C v y) (h : eqPK pk u v = some true) (m : Nat) : Instr.sameBits m y x = true := by
  unfold eqPK at h
  split at h <;> first | (cases h; done) | skip
  . simp only [Option.some.injEq] at h
    rw [h1.bool_inv, h2.bool_inv]
    rename_i p q
    have : p = q := by simpa using h
    subst this
    cases m <;> simp [Instr.sameBits]
  . split at h <;> first | (cases h; done) | skip
    rename_i ki
    have := eqKind_eq ki; subst this
    simp only [Option.some.injEq, intEq_eq] at h
    rw [h1.int_inv, h2.int_inv]
    rename_i p q _
    have : p = q := by simpa using h
    subst this
    cases m <;> simp [Instr.sameBits]
  . simp only [Option.some.injEq] at h
    obtain ⟨bx, rfl, e1⟩ := h1.str_inv
    obtain ⟨bz, rfl, e2⟩ := h2.str_inv
    have : bz == bx := by rw [beq_toListBytes, str_beq e2 e1, beqNats_eq]; exact (beqNats_eq.1 h).symm
    cases m <;> simpa [Instr.sameBits] using this
theorem findA_key {pk : PK} {u : AV} : ∀ {es : List (AV × AV × Nat)} {i j : Nat} {v : AV}, findA pk u es i = some (some (j, v)) -> ∃ e, i <= j /\ es[j - i]? = some e /\ eqPK pk u e.1 = some true
  | [], i, j, v, h => by simp [findA] at h
  | (k', v', born) :: es, i, j, v, h => by
    unfold findA at h
    split at h <;> first | (cases h; done) | skip
    . rename_i hq
      simp only [Option.some.injEq, Prod.mk.injEq] at h
      obtain ⟨rfl, _⟩ := h
      exact ⟨(k', v', born), Nat.le_refl _, by simp, hq⟩
    . obtain ⟨e, h1, h2, h3⟩ := findA_key h
      refine ⟨e, by omega, ?_, h3⟩
      rw [show j - i = (j - (i + 1)) + 1 from by omega]
      simpa using h2
theorem setEntry_get (k v : AV) : ∀ (es : List (AV × AV × Nat)) (i j : Nat), (setEntry k v es i)[j]? = if j = i then (es[i]?).map (fun e => (k, v, e.2.2)) else es[j]?
  | [], i, j => by cases i <;> cases j <;> simp [setEntry]
  | (a, b, born) :: es, 0, j => by cases j <;> simp [setEntry]
  | e :: es, i + 1, j => by
    cases j with
    | zero => simp [setEntry]
    | succ j => simp [setEntry, setEntry_get k v es i j]
theorem snd_mapSet (hT : TTOk P tt) (op : Op) (t : TypeId) (m k0 v0 : Operand) (rM : op = .mapUpdate t m k0 v0 \/ op = .insert t m k0 v0) : OpSound P tt op := by
  intro ρ C st w k xs cls fr a o vs res ho hc hW hF hx hr
  have hc : cOp.cSet tt t m k0 v0 = some (k, xs, cls) := by rcases rM with rfl | rfl <;> simpa only [cOp] using hc
  have hex : (execOp a.eval o).run P w = ((Instr.mapUpdate t (a.eval m) (a.eval k0) (a.eval v0)).run P w).andThen fun _ w => .ok .skip w := by
    rcases rM with rfl | rfl <;> simp [execOp, ho]
  unfold cOp.cSet at hc
  split at hc <;> first | (cases hc; done) | skip
  rename_i ti l aO hl
  split at hc <;> first | (cases hc; done) | skip
  rename_i kt et hk
  split at hc <;> first | (cases hc; done) | skip
  rename_i tk rH
  obtain ⟨d, hd, aE⟩ := (hT.at aO).und
  rw [hk] at aE; rw [tk_map aE] at hd
  obtain ⟨dk, qm, ki⟩ := (hT.at rH).und
  have key : ∃ pk, k = .mapSet pk /\ xs = l /\ pk.fits dk = true := by
    split at hc <;> first | (cases hc; done) | skip
    all_goals
      rename_i h1
      cases hc
      refine ⟨_, rfl, rfl, pk_of tk.k ki ?_⟩
    . exact .inr (.inl ⟨⟨_, h1⟩, rfl⟩)
    . exact .inr (.inr ⟨h1, rfl⟩)
    . exact .inl ⟨h1, rfl⟩
  obtain ⟨pk, rfl, rfl, dR⟩ := key
  obtain ⟨mm, kk, vv, rfl, h1, h2, h3⟩ := evs3 hl hF hx
  have vP : ∀ e w, (Instr.checkKey e 10000 kt (a.eval k0)).run P w = .ok () w := fun e w => checkKey_plain qm dR e 9999 _ w
  simp only [OpK.run, runMapSet] at hr
  split at hr <;> first | (cases hr; done) | skip
  rename_i b
  split at hr <;> first | (cases hr; done) | skip
  rename_i es clock hb
  obtain ⟨_, he⟩ := h1.map_inv
  obtain ⟨_, _, es', cg, hlen, dS⟩ := hW.live _ _ hb
  have hE : EsRel ρ st.next.toNat C es es'.toList := ⟨by simpa using hlen, fun i e e' h1 h2 => dS i e e' h1 (by simpa using h2)⟩
  split at hr <;> first | (cases hr; done) | skip
  . rename_i i v hpk hf
    simp only [Option.some.injEq] at hr; subst hr
    obtain ⟨r', vS, cQ⟩ := findA_rel dR h2 hE hf
    rcases cQ with ⟨e1, _⟩ | ⟨j', v', y, e1, e2, e3, _, e5⟩
    . cases e1
    . cases e1; subst e2
      obtain ⟨e, _, Bu, hek⟩ := findA_key hf
      rw [Nat.sub_zero] at Bu
      have hi : i < es'.size := by omega
      have wS : es'[i]? = some es'[i] := Array.getElem?_eq_getElem hi
      have Lu := (dS i e es'[i] Bu wS).1
      have hsb := sameBits_of_eqPK h2 Lu hek 10000
      have Gi : EsRel ρ st.next.toNat C (setEntry kk vv es i) (es'.modify i fun e => { e with key := a.eval k0, val := a.eval v0 }).toList := by
        refine ⟨?_, fun j e e' g1 g2 => ?_⟩
        . have n8 : ∀ (es : List (AV × AV × Nat)) (i : Nat), (setEntry kk vv es i).length = es.length := by
            intro es
            induction es with
            | nil => intro i; cases i <;> rfl
            | cons e es ih => intro i; cases i with
              | zero => obtain ⟨a, b, c⟩ := e; rfl
              | succ i => simp [setEntry, ih i]
          rw [n8]; simpa using hlen
        . rw [setEntry_get] at g1
          simp only [Array.getElem?_toList, Array.getElem?_modify] at g2
          by_cases Gj : j = i
          . subst Gj
            rw [if_pos rfl, Bu] at g1
            simp [wS] at g1 g2
            subst g1; subst g2
            exact ⟨h2, h3, (dS j e es'[j] Bu wS).2.2⟩
          . rw [if_neg Gj] at g1
            rw [if_neg (fun e => Gj e.symm)] at g2
            exact dS j e e' g1 g2
      obtain ⟨aS, yb⟩ := map_set_ok hW hb (clock2 := clock) Gi
      refine ⟨.skip, undef, _, ρ, ?_, .inr ⟨rfl, rfl⟩, fun _ _ => rfl, aS, VRel.undef_ok, yb⟩
      rw [hex]
      simp only [Instr.mapUpdate, Sem.run_bind, run_und hd, Result.andThen_ok, he, run_getObj_map cg, vP, run_findKey qm vS, wS, Option.map_some, Option.getD_some, Instr.keyThatStays, hsb, if_true, Sem.run_pure, run_setObj_map cg]
  . rename_i hpk hf
    simp only [Option.some.injEq] at hr; subst hr
    obtain ⟨r', vS, cQ⟩ := findA_rel dR h2 hE hf
    rcases cQ with ⟨_, e2⟩ | ⟨j', v', y, e1, _⟩
    . subst e2
      have Gi : EsRel ρ st.next.toNat C (es ++ [(kk, vv, clock)]) (es'.push { key := a.eval k0, val := a.eval v0, born := clock }).toList := by
        refine ⟨by simp [hlen], fun j e e' g1 g2 => ?_⟩
        simp only [Array.toList_push] at g2
        rcases Nat.lt_or_ge j es.length with hj | hj
        . rw [List.getElem?_append_left hj] at g1
          rw [List.getElem?_append_left (by simp; omega)] at g2
          exact dS j e e' g1 (by simpa using g2)
        . rw [List.getElem?_append_right hj] at g1
          rw [List.getElem?_append_right (by simp; omega)] at g2
          have : j - es.length = 0 := by
            have := (List.getElem?_eq_some_iff.1 g1).1; simp at this; omega
          rw [this] at g1
          have : j - es'.toList.length = 0 := by simp; omega
          rw [this] at g2
          simp at g1 g2
          subst g1; subst g2
          exact ⟨h2, h3, rfl⟩
      obtain ⟨aS, yb⟩ := map_set_ok hW hb (clock2 := clock + 1) Gi
      refine ⟨.skip, undef, _, ρ, ?_, .inr ⟨rfl, rfl⟩, fun _ _ => rfl, aS, VRel.undef_ok, yb⟩
      rw [hex]
      simp only [Instr.mapUpdate, Sem.run_bind, run_und hd, Result.andThen_ok, he, run_getObj_map cg, vP, run_findKey qm vS, run_setObj_map cg]
    . cases e1
theorem snd_nextS (it : Operand) (Ga : Bool) : OpSound P tt (.next it Ga) := by
  intro ρ C st w k xs cls fr a o vs res ho hc hW hF hx hr
  simp only [cOp] at hc
  split at hc <;> first | (cases hc; done) | skip
  rename_i b hb
  cases hc
  obtain ⟨v, rfl, hv⟩ := cOpd_rel1 hb hF hx
  simp only [OpK.run, runNextS] at hr
  split at hr <;> first | (cases hr; done) | skip
  rename_i bb
  split at hr <;> first | (cases hr; done) | skip
  rename_i s pos cD
  obtain ⟨_, he⟩ := hv.ptr_inv
  obtain ⟨_, _, bs, cY, hs, ru⟩ := hW.live _ _ cD
  have aZ := str_size hs
  have dm : (getObj (ρ bb).blk).run P w = .ok (.stringIter bs pos) w := by simp [getObj, Sem.run, cY]
  rw [ru] at he
  split at hr
  . rename_i aA
    have aA : pos < s.length := by simpa using aA
    split at hr <;> first | (cases hr; done) | skip
    rename_i c wd oD
    simp only [Option.some.injEq] at hr; subst hr
    have lG : pos < bs.size := by omega
    unfold decodeA at oD
    split at oD <;> first | (cases oD; done) | skip
    rename_i c' gl
    split at oD <;> first | (cases oD; done) | skip
    rename_i An
    simp only [Option.some.injEq, Prod.mk.injEq] at oD
    obtain ⟨rfl, rfl⟩ := oD
    have An : c' < 128 := by simpa using An
    have hcb : (bs[pos]'lG).toNat = c' := by
      rw [nth_eq, <- hs, List.getElem?_map] at gl
      obtain ⟨b', aF, az⟩ := Option.map_eq_some_iff.1 gl
      obtain ⟨hl, Lv⟩ := List.getElem?_eq_some_iff.1 aF
      rw [<- az, <- Lv]; rfl
    have vT := decode_ascii bs pos lG (by rw [hcb]; exact An)
    rw [hcb] at vT
    have iF : (setObj (ρ bb).blk (.stringIter bs (pos + 1))).run P w = .ok () { w with heap := w.heap.setIfInBounds (ρ bb).blk (.stringIter bs (pos + 1)) } := by simp [setObj, Sem.run, cY]
    have Lw := (hW.live _ _ cD).2.1
    obtain ⟨aS, yb⟩ := set_ok (w' := { w with heap := w.heap.setIfInBounds (ρ bb).blk (.stringIter bs (pos + 1)) }) (x0 := .siter s (pos + 1)) hW cD rfl rfl rfl (by simp)
      (fun k hk => by simp [Array.getElem?_setIfInBounds_ne (Ne.symm hk)]) ⟨bs, by simp [Lw], hs, ru⟩
    refine ⟨.value (.tuple #[.bool true, goInt pos, .int .i32 (c' : Int)]), _, _, ρ, ?_, Yields.value _, fun _ _ => rfl, aS, ?_, yb⟩
    . simp only [execOp, ho, he, Instr.next, Sem.run_bind, dm, Result.andThen_ok, lG, if_true, vT, iF, Sem.run_pure]
    . exact .tuple_of (VsRel.cons (.bool true) (VsRel.cons (.int _ _) (VsRel.cons (.int _ _) VsRel.nil)))
  . rename_i aA
    have aA : ¬ pos < s.length := fun h => by
      have : Nat.blt pos s.length = true := by simpa using h
      rw [this] at aA; cases aA
    simp only [Option.some.injEq] at hr; subst hr
    have lG : ¬ pos < bs.size := by omega
    refine .pure (x := .tuple #[.bool false]) ?_ (.tuple_of (VsRel.cons (.bool false) VsRel.nil))
    simp only [execOp, ho, he, Instr.next, Sem.run_bind, dm, Result.andThen_ok, lG, if_false, Sem.run_pure]
end
end Go.Ai
end
section
namespace Go.Ai
open Go Go.RowKit
section
variable {P : Program} {tt : TT} {ρ : Pos -> Loc} {C : Cells} {st : St} {w w' : World}
theorem WRel.of_heap (hW : WRel ρ C st w) (h : w'.heap = w.heap) : WRel ρ C st w' where
  live b x hb := let ⟨h1, h2, h3⟩ := hW.live b x hb; ⟨h1, by rw [h]; exact h2, h3.of_heap (by rw [h])⟩
  inj := hW.inj
  froz a v ha := let ⟨h1, h2⟩ := hW.froz a v ha; ⟨by unfold World.cell? at h1 ⊢; rw [h]; exact h1, h2⟩
  whole a v ha o ho := by have := hW.whole a v ha o ho; unfold World.cell? at this ⊢; rw [h]; exact this
theorem flatten_get {es : Nat} : ∀ {xs : List (List AV)} (_h : ∀ (i : Nat) (cs : List AV), xs[i]? = some cs -> cs.length = es) (q : Nat) (v : AV),
    xs.flatten[q]? = some v -> ∃ cs, xs[q / es]? = some cs /\ cs[q % es]? = some v
  | [], _, q, v, hv => by simp at hv
  | c :: xs, h, q, v, hv => by
    have hc : c.length = es := h 0 c rfl
    have cj : ∀ (i : Nat) (cs : List AV), xs[i]? = some cs -> cs.length = es := fun i cs hi => h (i + 1) cs (by simpa using hi)
    rw [List.flatten_cons] at hv
    rcases Nat.lt_or_ge q c.length with hq | hq
    . rw [List.getElem?_append_left hq] at hv
      refine ⟨c, ?_, ?_⟩
      . rw [Nat.div_eq_of_lt (by omega)]; rfl
      . rw [Nat.mod_eq_of_lt (by omega)]; exact hv
    . rw [List.getElem?_append_right hq] at hv
      obtain ⟨cs, h1, h2⟩ := flatten_get cj (q - c.length) v hv
      rw [hc] at hq h1 h2
      have rK : 0 < es := by
        rcases Nat.eq_zero_or_pos es with h0 | h0
        . subst h0
          have hl := cj _ _ h1
          have := (List.getElem?_eq_some_iff.1 h2).1
          omega
        . exact h0
      refine ⟨cs, ?_, ?_⟩
      . rw [Nat.div_eq_sub_div rK hq]; simpa using h1
      . rw [Nat.mod_eq_sub_mod hq]; exact h2
theorem flatten_len {es : Nat} : ∀ {xs : List (List AV)} (_h : ∀ (i : Nat) (cs : List AV), xs[i]? = some cs -> cs.length = es), xs.flatten.length = xs.length * es
  | [], _ => by simp
  | c :: xs, h => by
    have hc : c.length = es := h 0 c rfl
    rw [List.flatten_cons, List.length_append, flatten_len (fun i cs hi => h (i + 1) cs (by simpa using hi)), hc, List.length_cons, Nat.add_mul]; omega
theorem firstA_rel (hW : WRel ρ C st w) {es m : Nat} {u : AV} {x : Value} {new : List AV} {k : Nat} (hu : VRel ρ st.next.toNat C u x) (hk : lenA u = some k) (qp : m <= k) (h : firstA es m (fun b => st.heap.get b) u = some new) (w2 : World) (eT : w2.heap = w.heap) :
    ∃ ys : List Value, (Builtin.firstCells es m x).run P w2 = .ok ys.toArray w2 /\ VsRel ρ st.next.toNat C new ys /\ (u = .nils \/ new.length = m * es) := by
  have hW2 := hW.of_heap (w' := w2) eT
  unfold firstA at h
  split at h
  . simp only [Option.some.injEq] at h; subst h
    rw [hu.nils_inv]
    exact ⟨[], by simp [Builtin.firstCells], VsRel.nil, .inl rfl⟩
  . rename_i b off len cap es'
    simp only [lenA, Option.some.injEq] at hk; subst hk
    obtain ⟨aa, aj, he, hle, _, ha⟩ := hu.slice_inv
    rw [he]
    split at h
    . rename_i h0
      have h0 := Nat.eq_of_beq_eq_true h0
      simp only [Option.some.injEq] at h; subst h
      exact ⟨[], by simp [Builtin.firstCells, h0, loadCells, loadCellsFrom], VsRel.nil, .inr (by simp [h0])⟩
    . rename_i h0
      have h0 := Nat.ne_of_beq_eq_false h0
      split at h <;> first | (cases h; done) | skip
      rename_i cs fz hb
      have hm : m ≠ 0 := by intro e; subst e; simp at h0
      obtain ⟨_, rfl, _⟩ := ha (by omega)
      obtain ⟨ys, h1, h2⟩ := hW2.loadCells (P := P) hb h
      exact ⟨ys, by simp only [Builtin.firstCells]; exact h1, h2, .inr (cut_length h)⟩
  . rename_i xs es'
    simp only [lenA, Option.some.injEq] at hk; subst hk
    split at h <;> first | (cases h; done) | skip
    rename_i rN vU
    have rN := Nat.eq_of_beq_eq_true rN
    have vU := Nat.le_of_ble_eq_true vU
    subst rN
    simp only [Option.some.injEq] at h; subst h
    obtain ⟨aa, aj, cell, he, hle, gU, g1, g2, g3⟩ := hu.fl_inv
    rw [he]
    have cg : ∀ (i : Nat) (cs : List AV), (xs.take m)[i]? = some cs -> cs.length = es := fun i cs hi => by
      rw [List.getElem?_take] at hi; split at hi
      . exact g1 i cs hi
      . cases hi
    have yc := flatten_len cg
    rw [List.length_take, Nat.min_eq_left vU] at yc
    have Bv : ∀ q v, (xs.take m).flatten[q]? = some v -> ∃ cs, xs[q / es]? = some cs /\ cs[q % es]? = some v := fun q v hv => by
      obtain ⟨cs, h1, h2⟩ := flatten_get cg q v hv
      rw [List.getElem?_take] at h1; split at h1
      . exact ⟨cs, h1, h2⟩
      . cases h1
    refine ⟨(List.range (m * es)).map fun q => cell (q / es) (q % es), ?_, ⟨by simp [yc], fun q v y hv hy => ?_⟩, .inr yc⟩
    . simp only [Builtin.firstCells]
      refine run_loadCells w2 _ _ _ fun q hq => ?_
      have aA : q < (xs.take m).flatten.length := by rw [yc]; exact hq
      obtain ⟨cs, h1, h2⟩ := Bv q _ (List.getElem?_eq_getElem aA)
      have gU := gU (by intro e; rw [e] at h1; simp at h1)
      obtain ⟨ab, ao, asp⟩ := aa
      simp only at gU; subst gU
      have := (hW2.froz _ _ (g2 _ _ _ _ h1 h2)).1
      rw [add_at]
      simp only at this
      rw [show ao + q = ao + q / es * es + q % es from by rw [Nat.add_assoc, Nat.mul_comm, Nat.div_add_mod]]
      exact this
    . obtain ⟨cs, h1, h2⟩ := Bv q v hv
      have hq : q < m * es := by rw [<- yc]; exact (List.getElem?_eq_some_iff.1 hv).1
      simp [hq] at hy
      subst hy
      exact g3 _ _ _ _ h1 h2
  . rename_i s
    simp only [lenA, Option.some.injEq] at hk; subst hk
    split at h <;> first | (cases h; done) | skip
    rename_i rN vU
    have rN := Nat.eq_of_beq_eq_true rN
    have vU := Nat.le_of_ble_eq_true vU
    subst rN
    simp only [Option.some.injEq] at h; subst h
    obtain ⟨bs, rfl, hs⟩ := hu.str_inv
    refine ⟨(s.take m).map fun (c : Nat) => Value.int .u8 (.ofNat c), ?_, ⟨by simp, fun q v y hv hy => ?_⟩, .inr (by simp; omega)⟩
    . simp only [Builtin.firstCells, Sem.run_pure]
      congr 1
      apply Array.ext'
      simp only [Array.toList_map, ByteArray.data_extract, Array.toList_extract, List.extract, List.drop_zero, Nat.sub_zero]
      rw [<- hs, <- List.map_take, List.map_map]; rfl
    . simp only [List.getElem?_map, Option.map_eq_some_iff] at hv hy
      obtain ⟨c, hc, rfl⟩ := hv
      obtain ⟨c', gl, rfl⟩ := hy
      rw [hc] at gl; cases gl
      exact .int _ _
  . cases h
theorem lenA_rel {n : Nat} {u : AV} {x : Value} {k : Nat} (hu : VRel ρ n C u x) (hk : lenA u = some k) : (Builtin.lenOf x).run P w = .ok k w := by
  unfold lenA at hk
  split at hk <;> first | (cases hk; done) | skip
  all_goals simp only [Option.some.injEq] at hk; subst hk
  . rw [hu.nils_inv]; rfl
  . obtain ⟨_, _, he, _⟩ := hu.slice_inv; rw [he]; rfl
  . obtain ⟨_, _, _, he, _⟩ := hu.fl_inv; rw [he]; rfl
  . obtain ⟨bs, rfl, hs⟩ := hu.str_inv; rw [<- str_size hs]; rfl
theorem growBy_le (nl : Nat) : ∀ (r c : Nat), c <= nl + (nl + 768) / 4 -> Builtin.growBy nl r c <= nl + (nl + 768) / 4
  | 0, c, h => h
  | r + 1, c, h => by
    unfold Builtin.growBy
    split
    . exact h
    . exact growBy_le nl r _ (by omega)
theorem nextslicecap_le {wT aK : Nat} (h : aK < wT) : Builtin.nextslicecap wT aK <= 2 * wT + 768 := by
  unfold Builtin.nextslicecap
  split
  . omega
  . split
    . omega
    . have := growBy_le wT 4 aK (by omega)
      omega
theorem run_append (hT : TTOk P tt) {t t2 e : Nat} {ts : Array TypeId} {ti l9 te : TI} (aO : tt.get (key t) = some ti) (mK : tt.get (key t2) = some l9) (hk : ti.k = .slice e) (jD : ∀ k, l9.k ≠ .int k)
    (bu : tt.get (key e) = some te) (h0 : ts[0]? = some t) (h1 : ts[1]? = some t2) (ty : TypeId) (base : Option Addr) (n cap m : Nat) (x : Value) (w : World)
    (hx : (Builtin.lenOf x).run P w = .ok m w) (hb : (2 * (n + m) + 768) * te.bytes <= 281474976710656) (hi : n + m <= 9223372036854775807) :
    (Builtin.append_ ts ty #[.slice base n cap, x]).run P w =
      if n + m <= cap then ((Builtin.firstCells te.size m x).run P w).andThen fun new w => ((match base with | some a => storeCells (a.add (n * te.size)) new.toList | none => pure ()).run P w).andThen fun _ w => .ok (.slice base (n + m) cap) w
      else ((Builtin.firstCells te.size n (.slice base n cap)).run P w.drew).andThen fun aK w1 => ((Builtin.firstCells te.size m x).run P w1).andThen fun new w2 => ((zeroValue e).run P w2).andThen fun z w3 =>
        .ok (.slice (some ⟨w3.heap.size, 0, none⟩) (n + m) (grownCap w (n + m) cap e)) (w3.alloc (.cells (aK ++ new ++ Builtin.zeroCells z.cells (grownCap w (n + m) cap e - (n + m))) e)) := by
  obtain ⟨d, hd, aE⟩ := (hT.at aO).und
  rw [hk] at aE; rw [tk_slice aE] at hd
  obtain ⟨d2, oO, Ao⟩ := (hT.at mK).und
  obtain ⟨i0, cX, cI, Bt, _⟩ := (hT.at bu).info
  have Kv : ∀ k, d2 ≠ .int k := by
    rintro k rfl
    cases ki : l9.k <;> rw [ki] at Ao <;> first | (simp [tkMatch] at Ao; done) | exact absurd ki (jD _)
  have wU : ¬ (((n + m : Nat) : Int) > IntKind.i64.max) := by
    have : IntKind.i64.max = 9223372036854775807 := by decide
    rw [this]; omega
  have Kw : ¬ (n + m <= cap) -> ¬ (Builtin.nextslicecap (n + m) cap * te.bytes > 2 ^ 48) := fun hc => by
    have h1 := nextslicecap_le (Nat.lt_of_not_le hc)
    have h2 := Nat.mul_le_mul_right te.bytes h1
    have : (2 : Nat) ^ 48 = 281474976710656 := by decide
    omega
  have iE : ∀ q, (Question.appendCap (n + m) cap e).forced = q -> q = false := by rintro q rfl; rfl
  clear Ao
  cases d2 <;> first | (exact absurd rfl (Kv _)) | skip
  all_goals
    unfold Builtin.append_
    simp only [h0, h1, List.getElem?_toArray, List.getElem?_cons_zero, List.getElem?_cons_succ, Sem.run_bind, run_und hd, Result.andThen_ok, run_size cX, cI, run_und oO, Sem.run_pure, hx, Bool.false_eq_true, if_false, Bool.not_false, if_true, Sem.run_ite]
    by_cases hc : n + m <= cap
    . rw [if_pos hc, if_pos hc]
      cases base <;> simp only [Sem.run_bind, Sem.run_pure, Result.andThen_ok]
    . rw [if_neg hc, if_neg hc]
      simp only [Sem.run_bind, run_info cX, Bt, Result.andThen_ok, wU, false_and, if_false, Kw hc, run_choose, Question.forced, Bool.false_eq_true, World.drew_eq, run_askRoom, Sem.run_pure, newRow, run_newObj, World.alloc_eq]
      rfl
end
end Go.Ai
end
section
namespace Go.Ai
open Go Go.RowKit
section
variable {P : Program} {tt : TT} {ρ : Pos -> Loc} {C : Cells} {st : St} {w w' : World}
theorem cells_fz {L : Loc} {cs : List AV} {n : Nat} (fz : Nat) (h : BRel ρ n C L w' (.cells cs 0)) : BRel ρ n C L w' (.cells cs fz) :=
  let ⟨c, e, fr, h1, h2, h3, h4, h5⟩ := h
  ⟨c, e, fr, h1, h2, h3, h4, fun i _ hi => h5 i (Nat.zero_le _) hi⟩
theorem append_new (hW : WRel ρ C st w) (del : Option Pos) (fz : Nat) {aK new rest : List Value} {ol nl : List AV} {e : TypeId} {n m es aj : Nat} (h1 : VsRel ρ st.next.toNat C ol aK) (h2 : VsRel ρ st.next.toNat C nl new)
    (n9 : ol.length = n * es) (oa : nl.length = m * es) (hr : rest.length = (aj - (n + m)) * es) (hc : n + m <= aj) {w2 : World} (eT : w2 = w.drew.alloc (.cells (aK ++ new ++ rest).toArray e)) :
    ∃ ρ' : Pos -> Loc, (∀ b : Pos, b.toNat < st.next.toNat -> ρ' b = ρ b) /\ WRel ρ' C (st.eff del none (some (.cells (ol ++ nl) fz))) w2 /\ Evo ρ st w ρ' (st.eff del none (some (.cells (ol ++ nl) fz))) w2 /\
      VRel ρ' (st.eff del none (some (.cells (ol ++ nl) fz))).next.toNat C (.slice st.next 0 (n + m) none es) (.slice (some ⟨w.heap.size, 0, none⟩) (n + m) aj) := by
  subst eT
  have eI : aK.length = n * es := by rw [<- h1.1, n9]
  have cO : new.length = m * es := by rw [<- h2.1, oa]
  have aZ : (aK ++ new ++ rest).length = aj * es := by
    simp only [List.length_append, eI, cO, hr]
    rw [<- Nat.add_mul, <- Nat.add_mul]; congr 1; omega
  obtain ⟨ρ', ak, aJ, aS, hE⟩ := new_ok (w' := w.drew.alloc (.cells (aK ++ new ++ rest).toArray e)) (o := .cells (aK ++ new ++ rest).toArray e) (x0 := .cells (ol ++ nl) fz) (base := 0) (size := (aK ++ new ++ rest).toArray.size) hW del rfl rfl rfl rfl (fun ρ' n' ak hn =>
    cells_fz fz <| cells_new (e := e) (fr := (0, 0)) (by show (w.heap.push _)[w.heap.size]? = _; simp) (by simp [n9, oa, eI, cO])
      (by
        have : (aK ++ new ++ rest).toArray.toList.take (ol ++ nl).length = aK ++ new := by
          rw [List.take_left' (by simp [n9, oa, eI, cO])]
        rw [this]; exact (h1.append h2).mono ak hn) (fun i _ => by simp))
  refine ⟨ρ', ak, aS, hE, slice_new (by simp [St.eff, Pos.toNat_succ]) aJ hc (fun c hc => by cases hc) (by simp only [List.size_toArray, aZ]; exact Nat.le_refl _)⟩
theorem zeroCells_len (z : Array Value) (m : Nat) : (Builtin.zeroCells z m).toList.length = m * z.size := by simp [Builtin.zeroCells]
theorem beqM {m : Nat} (h : Nat.beq m 0 = false) : m ≠ 0 := Nat.ne_of_beq_eq_false h
theorem append_rel (hT : TTOk P tt) {t t2 e : Nat} {ts : Array TypeId} {ti l9 te : TI} {z : List AV} (aO : tt.get (key t) = some ti) (mK : tt.get (key t2) = some l9) (hk : ti.k = .slice e) (jD : ∀ k, l9.k ≠ .int k)
    (bu : tt.get (key e) = some te) (hz : te.zero = some z) (h0 : ts[0]? = some t) (h1 : ts[1]? = some t2) (ty : TypeId) {s u : AV} {xs xu : Value} {res : ARes} (hW : WRel ρ C st w)
    (hs : VRel ρ st.next.toNat C s xs) (hu : VRel ρ st.next.toNat C u xu) (hr : runAppend (fun b => st.heap.get b) st.next te.size te.bytes [s, u] = some res) :
    ResOk P ρ C st w (((Builtin.append_ ts ty #[xs, xu]).run P w).andThen fun v w => .ok (.value v) w) res := by
  simp only [runAppend] at hr
  split at hr <;> first | (cases hr; done) | skip
  rename_i n m hn hm
  split at hr <;> first | (cases hr; done) | skip
  rename_i b1 b2
  have b1 := Nat.le_of_ble_eq_true b1
  have b2 := Nat.le_of_ble_eq_true b2
  have hlen := lenA_rel (P := P) (w := w) hu hm
  obtain ⟨i0, cX, cI, _, iz⟩ := (hT.at bu).info
  obtain ⟨Ge, Gf, _, oU, _⟩ := iz z hz
  have oT := fun w => zero_rel hT bu hz (ρ := ρ) (n := st.next.toNat) (C := C) w
  have n8 : ∃ base aj, xs = .slice base n aj /\ n <= aj := by
    unfold lenA at hn
    split at hn <;> first | (cases hn; done) | skip
    . cases hn; exact ⟨none, 0, hs.nils_inv, Nat.le_refl _⟩
    . cases hn; obtain ⟨a, c, he, hle, _⟩ := hs.slice_inv; exact ⟨_, c, he, hle⟩
    . cases hn; obtain ⟨a, c, _, he, hle, _⟩ := hs.fl_inv; exact ⟨_, c, he, hle⟩
    . rename_i s'
      exfalso
      cases Bw : Nat.beq m 0 <;> simp [Bw] at hr
  obtain ⟨base, aj, cj, hle⟩ := n8
  have aB := run_append hT aO mK hk jD bu h0 h1 ty base n aj m xu w hlen b1 b2
  rw [cj, aB]
  have hg : ∀ c, n + m <= grownCap w (n + m) c e := fun c => by unfold grownCap Question.cut; exact Nat.le_add_right _ _
  have rO : ∀ (del : Option Pos) (fz : Nat) (ol nl : List AV), ¬ (n + m <= aj) -> firstA te.size n (fun b => st.heap.get b) s = some ol -> firstA te.size m (fun b => st.heap.get b) u = some nl -> ol.length = n * te.size -> nl.length = m * te.size ->
      ResOk P ρ C st w ((if n + m <= aj then ((Builtin.firstCells te.size m xu).run P w).andThen fun new w => ((match base with | some a => storeCells (a.add (n * te.size)) new.toList | none => pure ()).run P w).andThen fun _ w => .ok (.slice base (n + m) aj) w
      else ((Builtin.firstCells te.size n (.slice base n aj)).run P w.drew).andThen fun aK w1 => ((Builtin.firstCells te.size m xu).run P w1).andThen fun new w2 => ((zeroValue e).run P w2).andThen fun z w3 =>
        .ok (.slice (some ⟨w3.heap.size, 0, none⟩) (n + m) (grownCap w (n + m) aj e)) (w3.alloc (.cells (aK ++ new ++ Builtin.zeroCells z.cells (grownCap w (n + m) aj e - (n + m))) e))).andThen fun v w => .ok (.value v) w)
        (.eff (.slice st.next 0 (n + m) none te.size) del none (some (.cells (ol ++ nl) fz))) := by
    intro del fz ol nl hc ho fC n9 oa
    obtain ⟨aK, e1, e2, _⟩ := firstA_rel (P := P) hW hs hn (Nat.le_refl _) ho w.drew rfl
    obtain ⟨new, e3, e4, _⟩ := firstA_rel (P := P) hW hu hm (Nat.le_refl _) fC w.drew rfl
    obtain ⟨zv, iA, _, fB⟩ := oT w.drew
    rw [cj] at e1
    have kg : (Builtin.zeroCells zv.cells (grownCap w (n + m) aj e - (n + m))).toList.length = (grownCap w (n + m) aj e - (n + m)) * te.size := by
      rw [zeroCells_len]; congr 1; have := fB.1; simp at this; omega
    obtain ⟨ρ', ak, aS, hE, hv⟩ := append_new hW del fz e2 e4 n9 oa kg (hg aj) (e := e) rfl
    refine ⟨_, _, _, ρ', ?_, Yields.value _, ak, aS, hv, hE⟩
    rw [if_neg hc]
    simp only [e1, e3, iA, Result.andThen_ok, World.size_drew]
    congr 2
    simp
  have yd : ∀ nl, firstA te.size m (fun b => st.heap.get b) u = some nl -> m ≠ 0 -> nl.length = m * te.size := by
    intro nl fC hm0
    obtain ⟨_, _, _, h⟩ := firstA_rel (P := P) hW hu hm (Nat.le_refl _) fC w rfl
    rcases h with rfl | h
    . simp [lenA] at hm; omega
    . exact h
  have Gk : ∀ ol, firstA te.size n (fun b => st.heap.get b) s = some ol -> ol.length = n * te.size := by
    intro ol gm
    obtain ⟨ys, _, fY, h⟩ := firstA_rel (P := P) hW hs hn (Nat.le_refl _) gm w rfl
    rcases h with rfl | h
    . simp [lenA] at hn; subst hn
      simp [firstA] at gm; subst gm; simp
    . exact h
  have hzero : m = 0 -> VRel ρ st.next.toNat C s xs -> ResOk P ρ C st w ((if n + m <= aj then ((Builtin.firstCells te.size m xu).run P w).andThen fun new w => ((match base with | some a => storeCells (a.add (n * te.size)) new.toList | none => pure ()).run P w).andThen fun _ w => .ok (.slice base (n + m) aj) w
      else ((Builtin.firstCells te.size n (.slice base n aj)).run P w.drew).andThen fun aK w1 => ((Builtin.firstCells te.size m xu).run P w1).andThen fun new w2 => ((zeroValue e).run P w2).andThen fun z w3 =>
        .ok (.slice (some ⟨w3.heap.size, 0, none⟩) (n + m) (grownCap w (n + m) aj e)) (w3.alloc (.cells (aK ++ new ++ Builtin.zeroCells z.cells (grownCap w (n + m) aj e - (n + m))) e))).andThen fun v w => .ok (.value v) w) (.val s) := by
    rintro rfl hsx
    have hf : (Builtin.firstCells te.size 0 xu).run P w = .ok #[] w := by
      unfold lenA at hm
      split at hm <;> first | (cases hm; done) | skip
      . rw [hu.nils_inv]; simp [Builtin.firstCells]
      . obtain ⟨_, _, he, _⟩ := hu.slice_inv; rw [he]; simp [Builtin.firstCells, loadCells, loadCellsFrom]
      . obtain ⟨_, _, _, he, _⟩ := hu.fl_inv; rw [he]; simp [Builtin.firstCells, loadCells, loadCellsFrom]
      . obtain ⟨bs, rfl, _⟩ := hu.str_inv
        simp only [Builtin.firstCells, Sem.run_pure]
        congr 1
        apply Array.ext'
        simp
    rw [cj] at hsx
    refine .pure (x := .slice base n aj) ?_ hsx
    rw [if_pos (by omega), hf]
    cases base <;> simp [storeCells]
  split at hr <;> first | (cases hr; done) | skip
  . rename_i gW; simp only [Option.some.injEq] at hr; subst hr; exact hzero (Nat.eq_of_beq_eq_true gW) hs
  . rename_i gW; simp only [Option.some.injEq] at hr; subst hr; exact hzero (Nat.eq_of_beq_eq_true gW) hs
  . rename_i gW; simp only [Option.some.injEq] at hr; subst hr; exact hzero (Nat.eq_of_beq_eq_true gW) hs
  ·
    rename_i gW
    have gW := beqM gW
    split at hr <;> first | (cases hr; done) | skip
    rename_i new fC
    simp only [Option.some.injEq] at hr; subst hr
    have he := hs.nils_inv
    rw [he] at cj
    simp only [Value.slice.injEq] at cj
    obtain ⟨rfl, rfl, rfl⟩ := cj
    have := rO none 0 [] new (by omega) rfl fC (by simp) (yd new fC gW)
    simpa using this
  ·
    rename_i b off n' c es' gW
    have gW := beqM gW
    simp only [lenA, Option.some.injEq] at hn; subst hn
    obtain ⟨aa, cc, he, Lx, ye, ha⟩ := hs.slice_inv
    rw [he] at cj
    simp only [Value.slice.injEq] at cj
    obtain ⟨rfl, _, rfl⟩ := cj
    have := ye c rfl; subst this
    split at hr
    . rename_i gM
      have gM := Nat.le_of_ble_eq_true gM
      split at hr <;> first | (cases hr; done) | skip
      rename_i cs fz new hb fC
      split at hr <;> first | (cases hr; done) | skip
      rename_i c1 c2 c3
      have c1 := Nat.le_of_ble_eq_true c1
      simp only [Bool.and_eq_true] at c2
      have c2a := Nat.le_of_ble_eq_true c2.1
      have Gl := Nat.eq_of_beq_eq_true c2.2
      subst Gl
      simp only [Option.some.injEq] at hr; subst hr
      obtain ⟨aA, rfl, hbound⟩ := ha (by omega)
      obtain ⟨ys, e1, e2, _⟩ := firstA_rel (P := P) hW hu hm (Nat.le_refl _) fC w rfl
      have lH := yd new fC gW
      obtain ⟨w2, e3, aS, hE⟩ := store_ok (P := P) hW hb (by rw [lH]; rw [Nat.add_mul] at c1; omega) c2a c3 e2
      refine ⟨_, .slice (some ⟨(ρ b).blk, (ρ b).base + off, none⟩) (n' + m) c, w2, ρ, ?_, Yields.value _, fun _ _ => rfl, aS, ?_, hE⟩
      . rw [if_pos gM, e1]
        simp only [Result.andThen_ok, add_at]
        rw [Nat.add_assoc, e3]; rfl
      . exact .slice _ _ _ _ _ _ _ gM (fun c hc => by cases hc; rfl) (fun _ => ⟨aA, rfl, hbound⟩) (fun h => by cases h)
    . rename_i gM
      have gM : ¬ (n' + m <= c) := fun h => by rw [Nat.ble_eq_true_of_le h] at gM; cases gM
      split at hr <;> first | (cases hr; done) | skip
      rename_i aK new gm fC
      simp only [Option.some.injEq] at hr; subst hr
      exact rO none 0 aK new gM gm fC (Gk aK gm) (yd new fC gW)
  ·
    rename_i b off n' es' gW
    have gW := beqM gW
    simp only [lenA, Option.some.injEq] at hn; subst hn
    split at hr <;> first | (cases hr; done) | skip
    rename_i cs fz aK new hb gm fC
    split at hr <;> first | (cases hr; done) | skip
    rename_i c2 c3
    simp only [Bool.and_eq_true] at c2
    have c2a := Nat.le_of_ble_eq_true c2.1
    have Gl := Nat.eq_of_beq_eq_true c2.2
    subst Gl
    simp only [Option.some.injEq] at hr; subst hr
    by_cases gM : n' + m <= aj
    ·
      obtain ⟨aa, cc, he, Lx, ye, ha⟩ := hs.slice_inv
      rw [he] at cj
      simp only [Value.slice.injEq] at cj
      obtain ⟨rfl, _, rfl⟩ := cj
      obtain ⟨aA, rfl, hbound⟩ := ha (by omega)
      obtain ⟨ys, e1, e2, _⟩ := firstA_rel (P := P) hW hu hm (Nat.le_refl _) fC w rfl
      have lH := yd new fC gW
      have Bx := Gk aK gm
      obtain ⟨dJ, cY, c, ce, fr, g1, g2, g3, g4, g5⟩ := hW.live b _ hb
      have hmul : (n' + m) * te.size <= cc * te.size := Nat.mul_le_mul_right _ gM
      have hmul2 : (n' + m) * te.size = n' * te.size + m * te.size := Nat.add_mul _ _ _
      have Gm : ys.length = m * te.size := by rw [<- e2.1, lH]
      have hold : VsRel ρ st.next.toNat C aK ((c.toList.drop ((ρ b).base + off)).take (n' * te.size)) := by
        simp only [firstA] at gm
        split at gm
        . rename_i yf
          have yf := Nat.eq_of_beq_eq_true yf
          simp only [Option.some.injEq] at gm; subst gm
          rw [yf]; simpa using (VsRel.nil : VsRel ρ st.next.toNat C [] [])
        . rw [hb] at gm
          simp only at gm
          obtain ⟨Gp, Gq⟩ := cut_eq gm
          have h := (g4.drop off).take (n' * te.size)
          rw [<- Gp] at h
          have : List.take (n' * te.size) (List.drop off (List.take cs.length (List.drop (ρ b).base c.toList))) = (c.toList.drop ((ρ b).base + off)).take (n' * te.size) := by
            rw [List.drop_take, List.take_take, List.drop_drop, Nat.min_eq_left (by omega)]
          rw [this] at h
          exact h
      obtain ⟨w2, s1, s2, s3, s4, s5, s6, s7⟩ := run_storeCells_over (P := P) (ρ b).blk ce fr ys 0 ((ρ b).base + off + n' * te.size) c w g1 (by omega) (allOne_one c3 e2) (fun k hk eV => by
        have := g5 (k - (ρ b).base) (by omega) (by omega)
        rwa [show (ρ b).base + (k - (ρ b).base) = k from by omega] at this)
      simp only [Nat.add_zero] at s1 s2
      let ρ' : Pos -> Loc := fun q => if q = st.next then ⟨(ρ b).blk, (ρ b).base + off, (ρ b).size⟩ else ρ q
      have ak : ∀ q : Pos, q.toNat < st.next.toNat -> ρ' q = ρ q := fun q hq => if_neg (fun e => by rw [e] at hq; omega)
      have aJ : ρ' st.next = ⟨(ρ b).blk, (ρ b).base + off, (ρ b).size⟩ := if_pos rfl
      have xV : c.toList.length = c.size := by simp
      have Gr : WRel ρ' C (st.eff (some b) none (some (.cells (aK ++ new) (fz - off)))) w2 := by
        refine hW.put1 (b0 := st.next) (x0 := .cells (aK ++ new) (fz - off)) (by rw [Pos.toNat_succ]; omega) (by rw [Pos.toNat_succ]; omega) (by rw [T.get_put]) ?_ ak ?_ ?_ (by rw [aJ, s3]; exact cY) (by omega) (fun k hk eV => s4 k (by rw [aJ] at eV; exact eV))
        . intro q x hq hx
          rw [T.get_put_ne _ (fun e => hq e.symm)] at hx
          obtain ⟨h1, h2⟩ := delO_get (some b) _ hx
          refine ⟨h1, ?_⟩
          rw [aJ]
          exact fun e => h2 b rfl (hW.inj _ _ _ _ h1 hb e)
        . rw [aJ]
          refine ⟨_, ce, fr, s2, by simp [splice]; omega, by simp [splice, Bx, lH]; omega, ?_, fun i cX hi => ?_⟩
          . simp only
            rw [drop_splice _ _ _ _ (by omega)]
            have rH : (splice (c.toList.drop ((ρ b).base + off)) (n' * te.size) ys).take (aK ++ new).length = (c.toList.drop ((ρ b).base + off)).take (n' * te.size) ++ ys := by
              unfold splice
              rw [<- List.append_assoc, List.take_left']
              simp [Bx, lH, Gm]; omega
            rw [rH]
            exact (hold.append e2).mono ak (by rw [Pos.toNat_succ]; omega)
          . have rL : (ρ b).base + off + i < c.size := by
              simp only [List.size_toArray] at hi
              have : (splice c.toList ((ρ b).base + off + n' * te.size) ys).length = c.size := by simp [splice]; omega
              omega
            have := g5 (off + i) (by omega) (by omega)
            simp only
            rwa [<- Nat.add_assoc] at this
        . intro ad v hv
          rw [aJ]
          exact fun e => (hW.froz ad v hv).2 b _ hb e.symm
      refine ⟨_, (.slice (some ⟨(ρ b).blk, (ρ b).base + off, none⟩) (n' + m) cc), w2, ρ', ?_, Yields.value _, ak, Gr, ?_, ⟨s5, s6, s7, by omega, fun k _ hk => s4 k (fun e => hk b _ hb e.symm), fun q x hx => ?_⟩⟩
      rotate_left
      rotate_left
      . left
        by_cases hq : q = st.next
        . exact ⟨b, _, hb, by rw [hq, aJ]⟩
        . simp only [St.eff, putO] at hx
          rw [T.get_put_ne _ (fun e => hq e.symm)] at hx
          obtain ⟨h1, _⟩ := delO_get (some b) _ hx
          exact ⟨q, x, h1, by rw [ak q (hW.live q x h1).1]⟩
      . rw [if_pos gM, e1]
        simp only [Result.andThen_ok, add_at]
        rw [s1]; rfl
      . refine .slice _ _ _ _ _ _ _ gM (fun c hc => by cases hc) (fun _ => ⟨by simp [St.eff, Pos.toNat_succ], by rw [aJ]; rfl, ?_⟩) (fun _ => by simp [St.eff, Pos.toNat_succ])
        rw [aJ]; simp only; omega
    . exact rO (some b) _ aK new gM gm fC (Gk aK gm) (yd new fC gW)
end
end Go.Ai
end
section
namespace Go.Ai
open Go Go.RowKit
section
variable {P : Program} {tt : TT} {ρ : Pos -> Loc} {C : Cells} {st : St} {w w' : World}
theorem bytes_rel {u : List Nat} {ρ' : Pos -> Loc} {n' : Nat} : VsRel ρ' n' C (u.map fun c => AV.int .u8 (.ofNat c)) (u.map fun c => Value.int .u8 (.ofNat c)) :=
  ⟨by simp, fun i v x hv hx => by
    simp only [List.getElem?_map, Option.map_eq_some_iff] at hv hx
    obtain ⟨c, hc, rfl⟩ := hv
    obtain ⟨c', gl, rfl⟩ := hx
    rw [hc] at gl; cases gl
    exact .int _ _⟩
theorem allOne_u8 : ∀ l : List Nat, allOne (l.map fun c => AV.int .u8 (.ofNat c)) = true
  | [] => rfl
  | a :: l => by simpa [allOne, AV.one] using allOne_u8 l
theorem append_newT (hW : WRel ρ C st w) (del : Option Pos) {aK new rest : List Value} {ol nl : List AV} {e : TypeId} {n m aj : Nat} (h1 : VsRel ρ st.next.toNat C ol aK) (h2 : VsRel ρ st.next.toNat C nl new)
    (n9 : ol.length = n) (oa : nl.length = m) (hr : rest.length = aj - (n + m)) (hc : n + m <= aj) {w2 : World} (eT : w2 = w.drew.alloc (.cells (aK ++ new ++ rest).toArray e)) :
    ∃ ρ' : Pos -> Loc, (∀ b : Pos, b.toNat < st.next.toNat -> ρ' b = ρ b) /\ WRel ρ' C (st.eff del none (some (.typed e (ol ++ nl)))) w2 /\ Evo ρ st w ρ' (st.eff del none (some (.typed e (ol ++ nl)))) w2 /\
      VRel ρ' (st.eff del none (some (.typed e (ol ++ nl)))).next.toNat C (.slice st.next 0 (n + m) none 1) (.slice (some ⟨w.heap.size, 0, none⟩) (n + m) aj) := by
  subst eT
  have eI : aK.length = n := by rw [<- h1.1, n9]
  have cO : new.length = m := by rw [<- h2.1, oa]
  have aZ : (aK ++ new ++ rest).length = aj := by
    simp only [List.length_append, eI, cO, hr]; omega
  obtain ⟨ρ', ak, aJ, aS, hE⟩ := new_ok (w' := w.drew.alloc (.cells (aK ++ new ++ rest).toArray e)) (o := .cells (aK ++ new ++ rest).toArray e) (x0 := .typed e (ol ++ nl)) (base := 0) (size := (aK ++ new ++ rest).toArray.size) hW del rfl rfl rfl rfl (fun ρ' n' ak hn =>
    ⟨_, (0, 0), by show (w.heap.push _)[w.heap.size]? = _; simp, rfl, by simp [n9, oa, eI, cO], by
        have : (aK ++ new ++ rest).toArray.toList.take (ol ++ nl).length = aK ++ new := by
          rw [List.take_left' (by simp [n9, oa, eI, cO])]
        rw [List.drop_zero, this]; exact (h1.append h2).mono ak hn, fun i _ => by simp, rfl⟩)
  refine ⟨ρ', ak, aS, hE, slice_new (by simp [St.eff, Pos.toNat_succ]) aJ hc (fun c hc => by cases hc) (by simp only [List.size_toArray, aZ, Nat.mul_one]; exact Nat.le_refl _)⟩
theorem appendT_rel (hT : TTOk P tt) {t t2 e : Nat} {ts : Array TypeId} {ti l9 te : TI} {z : List AV} (aO : tt.get (key t) = some ti) (mK : tt.get (key t2) = some l9) (hk : ti.k = .slice e) (jD : ∀ k, l9.k ≠ .int k)
    (bu : tt.get (key e) = some te) (hz : te.zero = some z) (h8 : te.size = 1) (h0 : ts[0]? = some t) (h1 : ts[1]? = some t2) (ty : TypeId) {s u : AV} {xs xu : Value} {res : ARes} (hW : WRel ρ C st w)
    (hs : VRel ρ st.next.toNat C s xs) (hu : VRel ρ st.next.toNat C u xu) (hr : runAppendT (fun b => st.heap.get b) st.next e te.bytes [s, u] = some res) :
    ResOk P ρ C st w (((Builtin.append_ ts ty #[xs, xu]).run P w).andThen fun v w => .ok (.value v) w) res := by
  have oT := fun w => zero_rel hT bu hz (ρ := ρ) (n := st.next.toNat) (C := C) w
  simp only [runAppendT] at hr
  split at hr <;> first | (cases hr; done) | skip
  rename_i us
  obtain ⟨bs, rfl, cY⟩ := hu.str_inv
  have hm : lenA (AV.str us) = some us.length := rfl
  have hlen := lenA_rel (P := P) (w := w) hu hm
  have yg : ∀ {n : Nat} {s : AV}, lenA s = some n -> Nat.ble ((2 * (n + us.length) + 768) * te.bytes) 281474976710656 = true -> Nat.ble (n + us.length) 9223372036854775807 = true -> us.length = 0 -> (s = .nils \/ ∃ b, s = .slice b 0 n none 1) ->
      runAppend (fun b => st.heap.get b) st.next te.size te.bytes [s, .str us] = some (.val s) := by
    intro n s h1 h2 h3 h4 h5
    rw [h4] at h2 h3
    rcases h5 with rfl | ⟨b, rfl⟩
    . simp only [runAppend, h1, hm, h2, h3, h4]; try rfl
    . simp only [runAppend, h1, hm, h2, h3, h4]; try rfl
  have fC : firstA te.size us.length (fun b => st.heap.get b) (.str us) = some (us.map fun c => AV.int .u8 (.ofNat c)) := by
    have e1 : Nat.beq te.size 1 = true := by rw [h8]; rfl
    have e2 : Nat.ble us.length us.length = true := Nat.ble_self_eq_true _
    simp only [firstA, e1, e2, List.take_length]
  split at hr <;> first | (cases hr; done) | skip
  ·
    split at hr <;> first | (cases hr; done) | skip
    rename_i b1 b2
    split at hr
    . rename_i hb
      simp only [Option.some.injEq] at hr; subst hr
      exact append_rel hT aO mK hk jD bu hz h0 h1 ty hW hs hu (yg rfl b1 b2 (Nat.eq_of_beq_eq_true hb) (.inl rfl))
    . rename_i hb
      have hb := Nat.ne_of_beq_eq_false hb
      simp only [Option.some.injEq] at hr; subst hr
      have cj := hs.nils_inv
      subst cj
      have aB := run_append hT aO mK hk jD bu h0 h1 ty none 0 0 us.length (.string bs) w hlen (Nat.le_of_ble_eq_true b1) (Nat.le_of_ble_eq_true b2)
      rw [aB, if_neg (by omega)]
      have hg : 0 + us.length <= grownCap w (0 + us.length) 0 e := by unfold grownCap Question.cut; exact Nat.le_add_right _ _
      obtain ⟨new, e3, e4, _⟩ := firstA_rel (P := P) hW hu hm (Nat.le_refl _) fC w.drew rfl
      obtain ⟨zv, iA, _, fB⟩ := oT w.drew
      have qo : zv.cells.size = 1 := by have := fB.1; have h2 := (hT.at bu).info; obtain ⟨i0, cX, cI, _, iz⟩ := h2; obtain ⟨v0, jd, _, fy, _⟩ := iz z hz; simp at this; omega
      have kg : (Builtin.zeroCells zv.cells (grownCap w (0 + us.length) 0 e - (0 + us.length))).toList.length = grownCap w (0 + us.length) 0 e - (0 + us.length) := by
        rw [zeroCells_len, qo, Nat.mul_one]
      obtain ⟨ρ', ak, aS, hE, hv⟩ := append_newT hW none (VsRel.nil (ρ := ρ)) e4 (by simp) (by simp) kg hg (e := e) rfl
      refine ⟨_, _, _, ρ', ?_, Yields.value _, ak, aS, hv, hE⟩
      have e0 : (Builtin.firstCells te.size 0 (.slice none 0 0)).run P w.drew = .ok #[] w.drew := by simp [Builtin.firstCells]
      simp only [e0, e3, iA, Result.andThen_ok, World.size_drew]
      congr 2
      simp
  ·
    rename_i b n
    split at hr <;> first | (cases hr; done) | skip
    rename_i b1 b2
    split at hr
    . rename_i hb
      simp only [Option.some.injEq] at hr; subst hr
      exact append_rel hT aO mK hk jD bu hz h0 h1 ty hW hs hu (yg rfl b1 b2 (Nat.eq_of_beq_eq_true hb) (.inr ⟨_, rfl⟩))
    . rename_i Bw
      have Bw := Nat.ne_of_beq_eq_false Bw
      split at hr <;> first | (cases hr; done) | skip
      rename_i e' cs hb
      split at hr <;> first | (cases hr; done) | skip
      rename_i aK dZ gm
      have dZ := Nat.eq_of_beq_eq_true dZ
      subst dZ
      simp only [Option.some.injEq] at hr; subst hr
      obtain ⟨aa, aj, cj, hle, ye, ha⟩ := hs.slice_inv
      subst cj
      have aB := run_append hT aO mK hk jD bu h0 h1 ty (some aa) n aj us.length (.string bs) w hlen (Nat.le_of_ble_eq_true b1) (Nat.le_of_ble_eq_true b2)
      rw [aB]
      obtain ⟨Gp, Gq⟩ := cut_eq gm
      have wV := cut_length gm
      obtain ⟨dJ, Gs, c, fr, g1, g2, g3, g4, g5, g6⟩ := hW.live b _ hb
      by_cases gM : n + us.length <= aj
      ·
        obtain ⟨aA, rfl, hbound⟩ := ha (by omega)
        rw [Nat.mul_one, g6, Nat.add_zero, Nat.zero_add] at hbound
        rw [g6] at g3 g4 g5
        simp only [Nat.zero_add, List.drop_zero] at g3 g4 g5
        obtain ⟨ys, e1, e2, _⟩ := firstA_rel (P := P) hW hu hm (Nat.le_refl _) fC w rfl
        have Gm : ys.length = us.length := by rw [<- e2.1]; simp
        have hold : VsRel ρ st.next.toNat C aK (c.toList.take n) := by
          have h := (g4.drop 0).take n
          rw [<- Gp, List.drop_zero, List.take_take, Nat.min_eq_left (by omega)] at h
          exact h
        obtain ⟨w2, s1, s2, s3, s4, s5, s6, s7⟩ := run_storeCells_over (P := P) (ρ b).blk e fr ys 0 n c w g1 (by omega) (allOne_one (allOne_u8 us) e2) (fun k hk eV => g5 k (Nat.zero_le _) eV)
        simp only [Nat.add_zero] at s1 s2
        let ρ' : Pos -> Loc := fun q => if q = st.next then ⟨(ρ b).blk, 0, (ρ b).size⟩ else ρ q
        have ak : ∀ q : Pos, q.toNat < st.next.toNat -> ρ' q = ρ q := fun q hq => if_neg (fun e => by rw [e] at hq; omega)
        have aJ : ρ' st.next = ⟨(ρ b).blk, 0, (ρ b).size⟩ := if_pos rfl
        have xV : c.toList.length = c.size := by simp
        have Gr : WRel ρ' C (st.eff (some b) none (some (.typed e (aK ++ us.map fun c => AV.int .u8 (.ofNat c))))) w2 := by
          refine hW.put1 (b0 := st.next) (x0 := .typed e (aK ++ us.map fun c => AV.int .u8 (.ofNat c))) (by rw [Pos.toNat_succ]; omega) (by rw [Pos.toNat_succ]; omega) (by rw [T.get_put]) ?_ ak ?_ ?_ (by rw [aJ, s3]; exact Gs) (by omega) (fun k hk eV => s4 k (by rw [aJ] at eV; exact eV))
          . intro q x hq hx
            rw [T.get_put_ne _ (fun e => hq e.symm)] at hx
            obtain ⟨h1, h2⟩ := delO_get (some b) _ hx
            refine ⟨h1, ?_⟩
            rw [aJ]
            exact fun e => h2 b rfl (hW.inj _ _ _ _ h1 hb e)
          . rw [aJ]
            refine ⟨_, fr, s2, by simp [splice]; omega, by simp [splice, wV]; omega, ?_, fun i cX hi => ?_, rfl⟩
            . simp only [List.drop_zero]
              have rH : (splice c.toList n ys).take (aK ++ us.map fun c => AV.int .u8 (.ofNat c)).length = c.toList.take n ++ ys := by
                unfold splice
                rw [<- List.append_assoc, List.take_left']
                simp [wV, Gm]; omega
              rw [rH]
              exact (hold.append e2).mono ak (by rw [Pos.toNat_succ]; omega)
            . have rL : i < c.size := by
                simp only [List.size_toArray, Nat.zero_add] at hi
                have : (splice c.toList n ys).length = c.size := by simp [splice]; omega
                omega
              simpa using g5 i (Nat.zero_le _) rL
          . intro ad v hv
            rw [aJ]
            exact fun e => (hW.froz ad v hv).2 b _ hb e.symm
        refine ⟨_, (.slice (some ⟨(ρ b).blk, (ρ b).base + 0, none⟩) (n + us.length) aj), w2, ρ', ?_, Yields.value _, ak, Gr, ?_, ⟨s5, s6, s7, by omega, fun k _ hk => s4 k (fun e => hk b _ hb e.symm), fun q x hx => ?_⟩⟩
        rotate_left
        rotate_left
        . left
          by_cases hq : q = st.next
          . exact ⟨b, _, hb, by rw [hq, aJ]⟩
          . simp only [St.eff, putO] at hx
            rw [T.get_put_ne _ (fun e => hq e.symm)] at hx
            obtain ⟨h1, _⟩ := delO_get (some b) _ hx
            exact ⟨q, x, h1, by rw [ak q (hW.live q x h1).1]⟩
        . rw [if_pos gM, e1]
          simp only [Result.andThen_ok, add_at, h8, Nat.mul_one, g6, Nat.zero_add]
          rw [s1]; rfl
        . refine .slice _ _ _ _ _ _ _ gM (fun c hc => by cases hc) (fun _ => ⟨by simp [St.eff, Pos.toNat_succ], by rw [aJ, g6], ?_⟩) (fun _ => by simp [St.eff, Pos.toNat_succ])
          rw [aJ]; simp only; omega
      . rw [if_neg gM]
        have hg : n + us.length <= grownCap w (n + us.length) aj e := by unfold grownCap Question.cut; exact Nat.le_add_right _ _
        obtain ⟨new, e3, e4, _⟩ := firstA_rel (P := P) hW hu hm (Nat.le_refl _) fC w.drew rfl
        obtain ⟨zv, iA, _, fB⟩ := oT w.drew
        have qo : zv.cells.size = 1 := by have := fB.1; have h2 := (hT.at bu).info; obtain ⟨i0, cX, cI, _, iz⟩ := h2; obtain ⟨v0, jd, _, fy, _⟩ := iz z hz; simp at this; omega
        have kg : (Builtin.zeroCells zv.cells (grownCap w (n + us.length) aj e - (n + us.length))).toList.length = grownCap w (n + us.length) aj e - (n + us.length) := by
          rw [zeroCells_len, qo, Nat.mul_one]
        have hold : ∃ os : List Value, (Builtin.firstCells te.size n (.slice (some aa) n aj)).run P w.drew = .ok os.toArray w.drew /\ VsRel ρ st.next.toNat C aK os := by
          by_cases ob : n = 0
          . subst ob
            have : aK = [] := List.eq_nil_of_length_eq_zero wV
            subst this
            exact ⟨[], by simp [Builtin.firstCells, loadCells, loadCellsFrom], VsRel.nil⟩
          . obtain ⟨aA, rfl, hbound⟩ := ha (by omega)
            obtain ⟨ys, fY, ec⟩ := (show WRel ρ C st w.drew from ⟨fun b x hb => hW.live b x hb, hW.inj, hW.froz, hW.whole⟩).loadCellsT (P := P) hb gm
            exact ⟨ys, by simpa [Builtin.firstCells, h8] using fY, ec⟩
        obtain ⟨os, e5, e6⟩ := hold
        obtain ⟨ρ', ak, aS, hE, hv⟩ := append_newT hW (some b) e6 e4 wV (by simp) kg hg (e := e) rfl
        refine ⟨_, _, _, ρ', ?_, Yields.value _, ak, aS, hv, hE⟩
        simp only [e5, e3, iA, Result.andThen_ok, World.size_drew]
        congr 2
        simp
theorem sliceData_rel {ts : Array TypeId} (ty : TypeId) {s : AV} {xs : Value} {res : ARes} (hs : VRel ρ st.next.toNat C s xs) (hW : WRel ρ C st w) (hr : runSliceData (fun b => st.heap.get b) st.next [s] = some res) :
    ResOk P ρ C st w (((Builtin.unsafeSliceData_ ts ty #[xs]).run P w).andThen fun v w => .ok (.value v) w) res := by
  simp only [runSliceData] at hr
  split at hr <;> first | (cases hr; done) | skip
  . simp only [Option.some.injEq] at hr; subst hr
    have := hs.nils_inv; subst this
    exact .pure (x := .pointer none) rfl .nilp
  . rename_i b off n cap es
    split at hr <;> first | (cases hr; done) | skip
    rename_i h0
    have h0 := Nat.ne_of_beq_eq_false h0
    simp only [Option.some.injEq] at hr; subst hr
    obtain ⟨aa, aj, cj, hle, _, ha⟩ := hs.slice_inv
    subst cj
    have hc : aj ≠ 0 := by omega
    obtain ⟨h1, h2, _⟩ := ha hc
    refine .pure (x := .pointer (some aa)) (by rw [Lib.run_unsafeSliceData_row w ts ty aa n aj hc]; rfl) ?_
    rw [h2]
    exact .ptr b off h1
theorem del_ok (hW : WRel ρ C st w) {b : Pos} {x : AB} (hb : st.heap.get b = some x) (h1 : w'.os = w.os) (h2 : w'.tape = w.tape) (h3 : w'.output = w.output) (aZ : w'.heap.size = w.heap.size)
    (gI : ∀ k, k ≠ (ρ b).blk -> w'.heap[k]? = w.heap[k]?) :
    WRel ρ C (st.eff (some b) none none) w' /\ Evo ρ st w ρ (st.eff (some b) none none) w' := by
  have dm : ∀ c y, (st.eff (some b) none none).heap.get c = some y -> st.heap.get c = some y /\ c ≠ b := fun c y hc => by
    obtain ⟨g1, g2⟩ := delO_get (some b) _ (show (delO (some b) st.heap).get c = some y from hc)
    exact ⟨g1, fun e => g2 b rfl e⟩
  refine ⟨⟨fun c y hc => ?_, fun c c' y y' hc gl e => hW.inj c c' y y' (dm c y hc).1 (dm c' y' gl).1 e, fun a v ha => ?_, fun a v ha o ho => ?_⟩, ⟨h1, h2, h3, by omega, fun k _ hk => gI k (fun e => hk b x hb e.symm), fun c y hc => .inl ⟨c, y, (dm c y hc).1, rfl⟩⟩⟩
  . obtain ⟨g1, g2⟩ := dm c y hc
    obtain ⟨k1, k2, k3⟩ := hW.live c y g1
    exact ⟨k1, by omega, k3.of_heap (gI _ fun e => g2 (hW.inj _ _ _ _ g1 hb e))⟩
  . obtain ⟨g1, g2⟩ := hW.froz a v ha
    refine ⟨?_, fun c y hc => g2 c y (dm c y hc).1⟩
    have := gI a.block (fun e => g2 b x hb e.symm)
    rw [<- g1]
    simp only [World.cell?, this]
  . have := gI a.block (fun e => (hW.froz a v ha).2 b x hb e.symm)
    rw [<- hW.whole a v ha o ho]
    simp only [World.cell?, this]
theorem unsafeStr_rel (hT : TTOk P tt) {t t2 e : Nat} {ts : Array TypeId} {ti te : TI} (aO : tt.get (key t) = some ti) (hk : ti.k = .ptr e) (bu : tt.get (key e) = some te) (h8 : te.size = 1) (iO : ts.toList = [t, t2])
    (ty : TypeId) {s u : AV} {xs xu : Value} {res : ARes} (hW : WRel ρ C st w)
    (hs : VRel ρ st.next.toNat C s xs) (hu : VRel ρ st.next.toNat C u xu) (hr : runUnsafeStr (fun b => st.heap.get b) st.next e [s, u] = some res) :
    ResOk P ρ C st w (((Builtin.unsafeString_ ts ty #[xs, xu]).run P w).andThen fun v w => .ok (.value v) w) res := by
  obtain rfl : ts = #[t, t2] := by apply Array.ext'; rw [iO]
  simp only [runUnsafeStr] at hr
  split at hr <;> first | (cases hr; done) | skip
  rename_i n
  have := hu.int_inv; subst this
  split at hr
  . rename_i h0
    have := Nat.eq_of_beq_eq_true h0; subst this
    split at hr <;> first | (cases hr; done) | skip
    . simp only [Option.some.injEq] at hr; subst hr
      have := hs.nilp_inv; subst this
      exact .pure (x := .string .empty) (by rw [show (Int.ofNat 0) = (0 : Int) from rfl, Lib.run_unsafeString_none]; rfl) (.str _ _ rfl)
    . simp only [Option.some.injEq] at hr; subst hr
      obtain ⟨_, he⟩ := hs.ptr_inv
      subst he
      exact .pure (x := .string .empty) (by rw [show (Int.ofNat 0) = (0 : Int) from rfl, Lib.run_unsafeString_none]; rfl) (.str _ _ rfl)
  . rename_i h0
    have h0 := Nat.ne_of_beq_eq_false h0
    split at hr <;> first | (cases hr; done) | skip
    rename_i b
    split at hr <;> first | (cases hr; done) | skip
    rename_i e' cs hb
    split at hr <;> first | (cases hr; done) | skip
    rename_i l he hcut wU
    have he := Nat.eq_of_beq_eq_true he
    have wU := Nat.le_of_ble_eq_true wU
    subst he
    split at hr <;> first | (cases hr; done) | skip
    rename_i s' rG
    simp only [Option.some.injEq] at hr; subst hr
    obtain ⟨_, cj⟩ := hs.ptr_inv
    subst cj
    obtain ⟨d, hd, aE⟩ := (hT.at aO).und
    rw [hk] at aE; rw [tk_ptr aE] at hd
    obtain ⟨i0, cX, cI, _⟩ := (hT.at bu).info
    have iI : P.cellsOf e = 1 := by simp [Program.cellsOf, cX, cI, h8]
    obtain ⟨dJ, Gs, c, fr, g1, g2, g3, g4, g5, g6⟩ := hW.live b _ hb
    rw [g6] at g3 g4 ⊢
    simp only [Nat.zero_add, List.drop_zero] at g3 g4
    have n7 : w.shape? (ρ b).blk = some (e, c.size) := by simp [World.shape?, g1]
    obtain ⟨eI, cO⟩ := cut_eq hcut
    have oa := cut_length hcut
    have ec : VsRel ρ st.next.toNat C l (c.toList.take n) := by
      have h := (g4.drop 0).take n
      rw [<- eI, List.drop_zero, List.take_take, Nat.min_eq_left (by omega)] at h
      exact h
    obtain ⟨e1, e2⟩ := bytesOf_rel rG ec
    have n8 : s'.length = n := by
      have := congrArg List.length e1
      simp at this; omega
    have aB := Lib.run_unsafeString_row (P := P) w t t2 ty e hd iI (ρ b).blk c.size n7 (s'.map UInt8.ofNat) (by intro h; simp at h; rw [h] at n8; simp at n8; omega) (by simp; omega) (by simp; omega) (fun j x hj => by
      simp only [List.getElem?_map, Option.map_eq_some_iff] at hj
      obtain ⟨k, hk, rfl⟩ := hj
      have hjn : j < n := by rw [<- n8]; exact (List.getElem?_eq_some_iff.1 hk).1
      have h2 : (c.toList.take n)[j]? = some (.int .u8 (k : Int)) := by rw [e1]; simp [hk]
      rw [List.getElem?_take, if_pos hjn] at h2
      have hk256 := e2 k (List.mem_of_getElem? hk)
      rw [add_at]
      simp only [World.cell?, g1, Nat.zero_add]
      rw [<- Array.getElem?_toList, h2]
      congr 2
      simp
      omega)
    have hlen : (s'.map UInt8.ofNat).length = n := by simp [n8]
    rw [hlen] at aB
    obtain ⟨q1, q2⟩ := del_ok (w' := w.freeze ⟨(ρ b).blk, 0, none⟩ n) hW hb (by unfold World.freeze; split <;> rfl) (by unfold World.freeze; split <;> rfl) (by unfold World.freeze; split <;> rfl) (by unfold World.freeze; split <;> simp) (fun k hk => by
      unfold World.freeze
      split
      . rfl
      . simp only [Array.getElem?_modify]
        rw [if_neg (fun e => hk e.symm)])
    refine ⟨_, .string ⟨(s'.map UInt8.ofNat).toArray⟩, _, ρ, ?_, Yields.value _, fun _ _ => rfl, q1, .str _ _ ?_, q2⟩
    . show ((Builtin.unsafeString_ #[t, t2] ty #[.pointer (some ⟨(ρ b).blk, 0, none⟩), .int .i64 (n : Int)]).run P w).andThen _ = _
      rw [aB]; rfl
    . simp only [List.map_map]
      have e3 : s'.map (UInt8.toNat ∘ UInt8.ofNat) = s'.map id := List.map_congr_left fun c hc => by
        have := e2 c hc
        simp only [Function.comp, id, UInt8.toNat_ofNat']
        omega
      rw [e3, List.map_id]
end
end Go.Ai
end
section
namespace Go.Ai
open Go Go.RowKit
section
variable {P : Program} {tt : TT} {ρ : Pos -> Loc} {C : Cells} {st : St} {w w' : World}
theorem sizes2 {n : Nat} {xs : Array Value} {u v : AV} (h : VsRel ρ n C [u, v] xs.toList) : ∃ x y, xs = #[x, y] /\ VRel ρ n C u x /\ VRel ρ n C v y := by
  obtain ⟨x, l, h1, h2, h3⟩ := h.cons_inv
  obtain ⟨y, l', h4, h5, h6⟩ := h3.cons_inv
  have := h6.nil_inv; subst this
  exact ⟨x, y, by apply Array.ext'; rw [h1, h4], h2, h5⟩
theorem sizes1 {n : Nat} {xs : Array Value} {u : AV} (h : VsRel ρ n C [u] xs.toList) : ∃ x, xs = #[x] /\ VRel ρ n C u x := by
  obtain ⟨x, l, h1, h2, h3⟩ := h.cons_inv
  have := h3.nil_inv; subst this
  exact ⟨x, by apply Array.ext'; rw [h1], h2⟩
theorem arr0 {ts : Array TypeId} {t : TypeId} {l : List TypeId} (h : ts.toList = t :: l) : ts[0]? = some t := by
  rw [<- Array.getElem?_toList, h]; rfl
theorem arr1 {ts : Array TypeId} {t t2 : TypeId} {l : List TypeId} (h : ts.toList = t :: t2 :: l) : ts[1]? = some t2 := by
  rw [<- Array.getElem?_toList, h]; rfl
theorem copy_rel (hT : TTOk P tt) {t e : Nat} {ts : Array TypeId} {ti te : TI} (aO : tt.get (key t) = some ti) (hk : ti.k = .slice e)
    (bu : tt.get (key e) = some te) (h0 : ts[0]? = some t) (ty : TypeId) {d u : AV} {xd xu : Value} {res : ARes} (hW : WRel ρ C st w)
    (hd : VRel ρ st.next.toNat C d xd) (hu : VRel ρ st.next.toNat C u xu) (hr : runCopyB (fun b => st.heap.get b) st.next te.size [d, u] = some res) :
    ResOk P ρ C st w (((Builtin.copy_ ts ty #[xd, xu]).run P w).andThen fun v w => .ok (.value v) w) res := by
  obtain ⟨dd, hdd, aE⟩ := (hT.at aO).und
  rw [hk] at aE; rw [tk_slice aE] at hdd
  obtain ⟨i0, cX, cI, _⟩ := (hT.at bu).info
  simp only [runCopyB] at hr
  split at hr <;> first | (cases hr; done) | skip
  rename_i n m hn hm
  have hlen := lenA_rel (P := P) (w := w) hu hm
  have n8 : (∃ s, d = .str s) \/ ∃ base aj, xd = .slice base n aj /\ n <= aj := by
    unfold lenA at hn
    split at hn <;> first | (cases hn; done) | skip
    . cases hn; exact .inr ⟨none, 0, hd.nils_inv, Nat.le_refl _⟩
    . cases hn; obtain ⟨a, c, he, hle, _⟩ := hd.slice_inv; exact .inr ⟨_, c, he, hle⟩
    . cases hn; obtain ⟨a, c, _, he, hle, _⟩ := hd.fl_inv; exact .inr ⟨_, c, he, hle⟩
    . exact .inl ⟨_, rfl⟩
  have Gt : m = 0 \/ n = 0 -> (Builtin.firstCells te.size 0 xu).run P w = .ok #[] w := by
    intro _
    unfold lenA at hm
    split at hm <;> first | (cases hm; done) | skip
    . rw [hu.nils_inv]; simp [Builtin.firstCells]
    . obtain ⟨_, _, he, _⟩ := hu.slice_inv; rw [he]; simp [Builtin.firstCells, loadCells, loadCellsFrom]
    . obtain ⟨_, _, _, he, _⟩ := hu.fl_inv; rw [he]; simp [Builtin.firstCells, loadCells, loadCellsFrom]
    . obtain ⟨bs, rfl, _⟩ := hu.str_inv
      simp only [Builtin.firstCells, Sem.run_pure]
      congr 1
      apply Array.ext'
      simp
  have eW : ∀ base aj, xd = .slice base n aj -> (Builtin.copy_ ts ty #[xd, xu]).run P w = ((Builtin.firstCells te.size (Nat.min m n) xu).run P w).andThen fun cells w => ((match base with | some a => storeCells a cells.toList | none => pure ()).run P w).andThen fun _ w => .ok (goInt (Nat.min m n)) w := by
    intro base aj he
    unfold Builtin.copy_
    simp only [h0, he, List.getElem?_toArray, List.getElem?_cons_zero, List.getElem?_cons_succ, Sem.run_bind, run_und hdd, Result.andThen_ok, run_size cX, cI, hlen]
    cases base <;> simp only [Sem.run_bind, Sem.run_pure, Result.andThen_ok]
  split at hr
  . rename_i rP
    have rP := Nat.eq_of_beq_eq_true rP
    split at hr <;> first | (cases hr; done) | skip
    rename_i F8
    simp only [Option.some.injEq] at hr; subst hr
    rcases n8 with ⟨s, rfl⟩ | ⟨base, aj, he, hle⟩
    . exact absurd rfl (F8 s)
    . have Ly : Nat.min m n = 0 := rP
      refine .pure (x := goInt 0) ?_ (.int _ _)
      rw [eW base aj he, Ly, Gt (by have : min m n = 0 := rP; omega)]
      cases base <;> simp [storeCells]
  . rename_i rP
    have rP := Nat.ne_of_beq_eq_false rP
    split at hr <;> first | (cases hr; done) | skip
    rename_i b off n' cap es'
    split at hr <;> first | (cases hr; done) | skip
    rename_i cs fz new hb fC
    split at hr <;> first | (cases hr; done) | skip
    rename_i c1 c2 c3
    have c1 := Nat.le_of_ble_eq_true c1
    have c2 := Nat.le_of_ble_eq_true c2
    simp only [Option.some.injEq] at hr; subst hr
    simp only [lenA, Option.some.injEq] at hn; subst hn
    obtain ⟨aa, aj, he, hle, _, ha⟩ := hd.slice_inv
    have Lz : min m n' <= m /\ min m n' <= n' := ⟨Nat.min_le_left _ _, Nat.min_le_right _ _⟩
    obtain ⟨aA, rfl, _⟩ := ha (by omega)
    obtain ⟨ys, e1, e2, e3⟩ := firstA_rel (P := P) hW hu hm Lz.1 fC w rfl
    have lH : new.length = min m n' * te.size := by
      rcases e3 with rfl | e3
      . simp [lenA] at hm; omega
      . exact e3
    obtain ⟨w2, f1, aS, hE⟩ := store_ok (P := P) hW hb (by rw [lH]; exact c1) c2 c3 e2
    refine ⟨_, goInt ((min m n' : Nat) : Int), w2, ρ, ?_, Yields.value _, fun _ _ => rfl, aS, .int _ _, hE⟩
    rw [eW _ _ he]
    have hmm : Nat.min m n' = min m n' := rfl
    rw [hmm, e1]
    simp only [Result.andThen_ok]
    rw [f1]; rfl
theorem len_rel (hT : TTOk P tt) {t : Nat} {ts : Array TypeId} {ti : TI} (aO : tt.get (key t) = some ti) {k : LK} (hk : (k = .s /\ ti.k = .string) \/ (k = .l /\ ∃ e, ti.k = .slice e) \/ (k = .m /\ ∃ a b, ti.k = .map a b))
    (h0 : ts[0]? = some t) (ty : TypeId) {u : AV} {xu : Value} {res : ARes} (hW : WRel ρ C st w)
    (hu : VRel ρ st.next.toNat C u xu) (hr : runLenB (fun b => st.heap.get b) st.next k [u] = some res) :
    ResOk P ρ C st w (((Builtin.len_ ts ty #[xu]).run P w).andThen fun v w => .ok (.value v) w) res := by
  obtain ⟨d, hd, aE⟩ := (hT.at aO).und
  have eW : ∀ x, xu = x -> (Builtin.len_ ts ty #[xu]).run P w = (Builtin.len_ ts ty #[x]).run P w := fun x e => by rw [e]
  simp only [runLenB] at hr
  rcases hk with ⟨rfl, hk⟩ | ⟨rfl, e, hk⟩ | ⟨rfl, a, b, hk⟩ <;> rw [hk] at aE
  . rw [tk_string aE] at hd
    cases u <;> simp only [reduceCtorEq] at hr <;> first | (cases hr; done) | skip
    simp only [Option.some.injEq] at hr; subst hr
    obtain ⟨bs, rfl, hs⟩ := hu.str_inv
    exact .pure (x := goInt bs.size) (by unfold Builtin.len_; simp [h0, run_und hd]) (by rw [str_size hs]; exact .int _ _)
  . rw [tk_slice aE] at hd
    cases u <;> simp only [reduceCtorEq] at hr <;> first | (cases hr; done) | skip
    . simp only [Option.some.injEq] at hr; subst hr
      rw [hu.nils_inv]
      exact .pure (x := goInt 0) (by unfold Builtin.len_; simp [h0, run_und hd]) (.int _ _)
    . simp only [Option.some.injEq] at hr; subst hr
      obtain ⟨aa, c, he, _⟩ := hu.slice_inv
      rw [he]
      exact .pure (by unfold Builtin.len_; simp [h0, run_und hd]; rfl) (.int _ _)
    . simp only [Option.some.injEq] at hr; subst hr
      obtain ⟨aa, c, _, he, _⟩ := hu.fl_inv
      rw [he]
      exact .pure (by unfold Builtin.len_; simp [h0, run_und hd]; rfl) (.int _ _)
  . rw [tk_map aE] at hd
    cases u <;> simp only [reduceCtorEq] at hr <;> first | (cases hr; done) | skip
    . simp only [Option.some.injEq] at hr; subst hr
      rw [hu.nilm_inv]
      exact .pure (x := goInt 0) (by unfold Builtin.len_; simp [h0, run_und hd]) (.int _ _)
    . split at hr <;> first | (cases hr; done) | skip
      rename_i es c hb
      simp only [Option.some.injEq] at hr; subst hr
      obtain ⟨_, he⟩ := hu.map_inv
      obtain ⟨_, _, es', cg, hlen, _⟩ := hW.live _ _ hb
      rw [he]
      exact .pure (x := goInt es'.size) (by unfold Builtin.len_; simp [h0, run_und hd, run_getObj_map cg]) (by rw [<- hlen]; exact .int _ _)
theorem zeroCells_list (z : Array Value) (m : Nat) : (Builtin.zeroCells z m).toList = repeatL z.toList m := by
  unfold Builtin.zeroCells
  by_cases h : 0 < z.size
  . exact zero_row z m h
  . have h0 : z.size = 0 := by omega
    have : z = #[] := Array.eq_empty_of_size_eq_zero h0
    subst this
    have h1 : repeatL ([] : List Value) m = [] := List.eq_nil_of_length_eq_zero (by rw [repeatL_length]; simp)
    simp [h1]
theorem clear_rel (hT : TTOk P tt) {t e : Nat} {ts : Array TypeId} {ti te : TI} {z : List AV} (aO : tt.get (key t) = some ti) (hk : ti.k = .slice e)
    (bu : tt.get (key e) = some te) (hz : te.zero = some z) (h0 : ts[0]? = some t) (ty : TypeId) {u : AV} {xu : Value} {res : ARes} (hW : WRel ρ C st w)
    (hu : VRel ρ st.next.toNat C u xu) (hr : runClearS (fun b => st.heap.get b) st.next te.size z [u] = some res) :
    ResOk P ρ C st w (((Builtin.clear_ ts ty #[xu]).run P w).andThen fun v w => .ok (.value v) w) res := by
  obtain ⟨dd, hdd, aE⟩ := (hT.at aO).und
  rw [hk] at aE; rw [tk_slice aE] at hdd
  obtain ⟨i0, cX, cI, _, iz⟩ := (hT.at bu).info
  obtain ⟨Ge, _, _, oU, _⟩ := iz z hz
  obtain ⟨zv, iA, _, fB⟩ := zero_rel hT bu hz (ρ := ρ) (n := st.next.toNat) (C := C) w
  simp only [runClearS] at hr
  split at hr <;> first | (cases hr; done) | skip
  . simp only [Option.some.injEq] at hr; subst hr
    rw [hu.nils_inv]
    exact .pure (x := undef) (by unfold Builtin.clear_; simp [h0, run_und hdd]; rfl) VRel.undef_ok
  . rename_i b off n cap es'
    obtain ⟨aa, aj, he, hle, _, ha⟩ := hu.slice_inv
    rw [he]
    split at hr
    . rename_i ob
      have := Nat.eq_of_beq_eq_true ob; subst this
      simp only [Option.some.injEq] at hr; subst hr
      exact .pure (x := undef) (by unfold Builtin.clear_; simp [h0, run_und hdd]; rfl) VRel.undef_ok
    . rename_i ob
      have ob := Nat.ne_of_beq_eq_false ob
      split at hr <;> first | (cases hr; done) | skip
      rename_i cs fz hb
      split at hr <;> first | (cases hr; done) | skip
      rename_i c1 c2 c3
      have c1 := Nat.le_of_ble_eq_true c1
      have c2 := Nat.le_of_ble_eq_true c2
      simp only [Option.some.injEq] at hr; subst hr
      obtain ⟨_, rfl, _⟩ := ha (by omega)
      obtain ⟨w2, f1, aS, hE⟩ := store_ok (P := P) hW hb (vs := repeatL z n) (ys := repeatL zv.cells.toList n) (by rw [repeatL_length, oU]; exact c1) c2 c3 (repeatL_rel fB n)
      refine ⟨_, undef, w2, ρ, ?_, Yields.value _, fun _ _ => rfl, aS, VRel.undef_ok, hE⟩
      unfold Builtin.clear_
      cases n with
      | zero => exact absurd rfl ob
      | succ n => simp [h0, run_und hdd, iA, zeroCells_list, f1, undef]
theorem call_value_run (c : Call) (f : Operand) (hc : c.callee = .value f) (a : Act) (o : Oper) (ho : o.op = .call c) {g : FuncId} {x y : Array Value} (he : a.eval f = .func (.func g) x y) :
    (execOp a.eval o).run P w = (callFunc g (x ++ c.args.map a.eval ++ y)).run P w := by
  simp [execOp, ho, resolve, hc, he, Deferred.ofValue, invoke]
theorem snd_call (hT : TTOk P tt) (c : Call) : OpSound P tt (.call c) := by
  intro ρ C st w k xs cls fr a o vs res ho hc hW hF hx hr
  simp only [cOp] at hc
  split at hc <;> first | (cases hc; done) | skip
  rename_i l hl
  split at hc <;> first | (cases hc; done) | skip
  ·
    rename_i g rQ
    cases hc
    have hv := cOpds_rel hl hF hx
    simp only [OpK.run, runCallF, Option.some.injEq] at hr; subst hr
    refine ⟨c.args.toList.map a.eval, ?_, hv⟩
    rw [call_value_run c _ rQ a o ho (g := g) (x := #[]) (y := #[]) rfl]
    congr 2
    apply Array.ext'
    simp
  ·
    rename_i f hnf rQ
    split at hc <;> first | (cases hc; done) | skip
    rename_i ao hao
    cases hc
    unfold evsA at hx
    split at hx <;> first | (cases hx; done) | skip
    rename_i fv hfv
    split at hx <;> first | (cases hx; done) | skip
    rename_i Bp Ap
    simp only [Option.some.injEq] at hx; subst hx
    have h1 := cOpd_rel hao hF hfv
    have h2 := cOpds_rel hl hF Ap
    simp only [OpK.run, runCallV] at hr
    split at hr <;> first | (cases hr; done) | skip
    rename_i g first captured
    simp only [Option.some.injEq] at hr; subst hr
    obtain ⟨x, y, he, hx, hy⟩ := h1.func_inv
    refine ⟨x.toList ++ (c.args.toList.map a.eval ++ y.toList), ?_, hx.append (h2.append hy)⟩
    rw [call_value_run c f rQ a o ho he]
    congr 2
    apply Array.ext'
    simp
  ·
    rename_i b rQ
    have hex : ∀ (s : Sem Value), (∀ consts, builtin b c.argTypes o.type consts (c.args.map a.eval) = (do pure (.value (<- s)))) -> (execOp a.eval o).run P w = (s.run P w).andThen fun v w => .ok (.value v) w := by
      intro s hs
      simp only [execOp, ho, resolve, rQ, pure_bind, invoke]
      rw [hs]
      simp
    split at hc <;> first | (cases hc; done) | skip
    ·
      split at hc <;> first | (cases hc; done) | skip
      rename_i t _ _ iO
      split at hc <;> first | (cases hc; done) | skip
      rename_i ti aO
      have hv := cOpds_rel hl hF (vs := vs) (by
        split at hc <;> first | (cases hc; done) | skip
        all_goals cases hc; exact hx)
      rw [map_toList_eval] at hv
      rw [hex (Builtin.len_ c.argTypes o.type (c.args.map a.eval)) (fun _ => rfl)]
      have hu : ∃ u, vs = [u] := by
        have h1 := hv.1
        have h2 : (c.args.toList).length = 1 := by
          have : ∀ {xs : List Operand} {os : List AOpd}, cOpds xs = some os -> xs.length = os.length := by
            intro xs
            induction xs with
            | nil => intro os h; simp [cOpds] at h; subst h; rfl
            | cons x xs ih => intro os h; unfold cOpds at h; split at h <;> first | (cases h; done) | skip
                              rename_i e1 e2; simp only [Option.some.injEq] at h; subst h; simp [ih e2]
          rw [this hl]; rfl
        match vs, h1 with
        | [u], _ => exact ⟨u, rfl⟩
        | [], h1 => simp at h1 h2; omega
        | _ :: _ :: _, h1 => simp at h1 h2; omega
      obtain ⟨u, rfl⟩ := hu
      obtain ⟨x, cj, Gu⟩ := sizes1 hv
      rw [cj]
      split at hc <;> first | (cases hc; done) | skip
      all_goals
        rename_i hk
        cases hc
        simp only [OpK.run] at hr
        refine len_rel hT aO ?_ (arr0 iO) o.type hW Gu hr
      . exact .inl ⟨rfl, hk⟩
      . exact .inr (.inl ⟨rfl, _, hk⟩)
      . exact .inr (.inr ⟨rfl, _, _, hk⟩)
    ·
      split at hc <;> first | (cases hc; done) | skip
      rename_i t t2 _ iO
      split at hc <;> first | (cases hc; done) | skip
      rename_i ti l9 aO mK
      split at hc <;> first | (cases hc; done) | skip
      . rename_i e hk jD
        split at hc <;> first | (cases hc; done) | skip
        rename_i te bu
        split at hc <;> first | (cases hc; done) | skip
        rename_i z hz oR h8
        have h8 := Nat.eq_of_beq_eq_true h8
        cases hc
        have hv := cOpds_rel hl hF hx
        rw [map_toList_eval] at hv
        rw [hex (Builtin.append_ c.argTypes o.type (c.args.map a.eval)) (fun _ => rfl)]
        simp only [OpK.run] at hr
        have hu : ∃ s u, vs = [s, u] := by
          unfold runAppendT at hr
          split at hr <;> first | (cases hr; done) | skip
          exact ⟨_, _, rfl⟩
        obtain ⟨s, u, rfl⟩ := hu
        obtain ⟨x, y, cj, h1, h2⟩ := sizes2 hv
        rw [cj]
        exact appendT_rel hT aO mK hk (fun k hk => by rw [jD] at hk; cases hk) bu hz h8 (arr0 iO) (arr1 iO) o.type hW h1 h2 hr
      rename_i e hk jD _
      split at hc <;> first | (cases hc; done) | skip
      rename_i te bu
      split at hc <;> first | (cases hc; done) | skip
      rename_i z hz
      cases hc
      have hv := cOpds_rel hl hF hx
      rw [map_toList_eval] at hv
      rw [hex (Builtin.append_ c.argTypes o.type (c.args.map a.eval)) (fun _ => rfl)]
      simp only [OpK.run] at hr
      have hu : ∃ s u, vs = [s, u] := by
        unfold runAppend at hr
        split at hr <;> first | (cases hr; done) | skip
        exact ⟨_, _, rfl⟩
      obtain ⟨s, u, rfl⟩ := hu
      obtain ⟨x, y, cj, h1, h2⟩ := sizes2 hv
      rw [cj]
      exact append_rel hT aO mK hk (fun k hk => jD k hk) bu hz (arr0 iO) (arr1 iO) o.type hW h1 h2 hr
    ·
      split at hc <;> first | (cases hc; done) | skip
      rename_i t _ iO
      split at hc <;> first | (cases hc; done) | skip
      rename_i ti aO
      split at hc <;> first | (cases hc; done) | skip
      rename_i e hk
      split at hc <;> first | (cases hc; done) | skip
      rename_i te bu
      cases hc
      have hv := cOpds_rel hl hF hx
      rw [map_toList_eval] at hv
      rw [hex (Builtin.copy_ c.argTypes o.type (c.args.map a.eval)) (fun _ => rfl)]
      simp only [OpK.run] at hr
      have hu : ∃ s u, vs = [s, u] := by
        unfold runCopyB at hr
        split at hr <;> first | (cases hr; done) | skip
        exact ⟨_, _, rfl⟩
      obtain ⟨s, u, rfl⟩ := hu
      obtain ⟨x, y, cj, h1, h2⟩ := sizes2 hv
      rw [cj]
      exact copy_rel hT aO hk bu (arr0 iO) o.type hW h1 h2 hr
    ·
      split at hc <;> first | (cases hc; done) | skip
      cases hc
      have hv := cOpds_rel hl hF hx
      rw [map_toList_eval] at hv
      rw [hex (Builtin.unsafeSliceData_ c.argTypes o.type (c.args.map a.eval)) (fun _ => rfl)]
      simp only [OpK.run] at hr
      have hu : ∃ s, vs = [s] := by
        unfold runSliceData at hr
        split at hr <;> first | (cases hr; done) | skip
        exact ⟨_, rfl⟩
      obtain ⟨s, rfl⟩ := hu
      obtain ⟨x, cj, h1⟩ := sizes1 hv
      rw [cj]
      exact sliceData_rel o.type h1 hW hr
    ·
      split at hc <;> first | (cases hc; done) | skip
      rename_i t t2 iO
      split at hc <;> first | (cases hc; done) | skip
      rename_i ti aO
      split at hc <;> first | (cases hc; done) | skip
      rename_i e hk
      split at hc <;> first | (cases hc; done) | skip
      rename_i te bu
      split at hc <;> first | (cases hc; done) | skip
      rename_i oR h8
      have h8 := Nat.eq_of_beq_eq_true h8
      cases hc
      have hv := cOpds_rel hl hF hx
      rw [map_toList_eval] at hv
      rw [hex (Builtin.unsafeString_ c.argTypes o.type (c.args.map a.eval)) (fun _ => rfl)]
      simp only [OpK.run] at hr
      have hu : ∃ s u, vs = [s, u] := by
        unfold runUnsafeStr at hr
        split at hr <;> first | (cases hr; done) | skip
        exact ⟨_, _, rfl⟩
      obtain ⟨s, u, rfl⟩ := hu
      obtain ⟨x, y, cj, h1, h2⟩ := sizes2 hv
      rw [cj]
      exact unsafeStr_rel hT aO hk bu h8 iO o.type hW h1 h2 hr
    ·
      split at hc <;> first | (cases hc; done) | skip
      cases hc
      have hv := cOpds_rel hl hF hx
      rw [map_toList_eval] at hv
      rw [hex (Builtin.min_ c.argTypes o.type (c.args.map a.eval)) (fun _ => rfl)]
      simp only [OpK.run] at hr
      have hu : ∃ s u r, vs = [s, u] /\ res = .val r := by
        unfold runMinB at hr
        split at hr <;> first | (cases hr; done) | skip
        split at hr <;> first | (cases hr; done) | skip
        all_goals cases hr; exact ⟨_, _, _, rfl, rfl⟩
      obtain ⟨s, u, r, rfl, rfl⟩ := hu
      obtain ⟨x, y, cj, h1, h2⟩ := sizes2 hv
      obtain ⟨z, hz, Gv⟩ := snd_min2 (P := P) (w := w) h1 h2 hr
      rw [cj]
      refine .pure (x := z) ?_ Gv
      simp [Builtin.min_, hz]
    ·
      split at hc <;> first | (cases hc; done) | skip
      cases hc
      have hv := cOpds_rel hl hF hx
      rw [map_toList_eval] at hv
      rw [hex (Builtin.max_ c.argTypes o.type (c.args.map a.eval)) (fun _ => rfl)]
      simp only [OpK.run] at hr
      have hu : ∃ s u r, vs = [s, u] /\ res = .val r := by
        unfold runMaxB at hr
        split at hr <;> first | (cases hr; done) | skip
        split at hr <;> first | (cases hr; done) | skip
        all_goals cases hr; exact ⟨_, _, _, rfl, rfl⟩
      obtain ⟨s, u, r, rfl, rfl⟩ := hu
      obtain ⟨x, y, cj, h1, h2⟩ := sizes2 hv
      obtain ⟨z, hz, Gv⟩ := snd_max2 (P := P) (w := w) h1 h2 hr
      rw [cj]
      refine .pure (x := z) ?_ Gv
      simp [Builtin.max_, hz]
    ·
      split at hc <;> first | (cases hc; done) | skip
      rename_i t _ iO
      split at hc <;> first | (cases hc; done) | skip
      rename_i ti aO
      split at hc <;> first | (cases hc; done) | skip
      rename_i e hk
      split at hc <;> first | (cases hc; done) | skip
      rename_i te bu
      split at hc <;> first | (cases hc; done) | skip
      rename_i z hz
      cases hc
      have hv := cOpds_rel hl hF hx
      rw [map_toList_eval] at hv
      rw [hex (Builtin.clear_ c.argTypes o.type (c.args.map a.eval)) (fun _ => rfl)]
      simp only [OpK.run] at hr
      have hu : ∃ u, vs = [u] := by
        unfold runClearS at hr
        split at hr <;> first | (cases hr; done) | skip
        exact ⟨_, rfl⟩
      obtain ⟨u, rfl⟩ := hu
      obtain ⟨x, cj, Gu⟩ := sizes1 hv
      rw [cj]
      exact clear_rel hT aO hk bu hz (arr0 iO) o.type hW Gu hr
theorem snd_all (hT : TTOk P tt) (op : Op) : OpSound P tt op := by
  cases op with
  | move x => exact snd_move x
  | assign x => exact snd_assign x
  | pick c x y => exact snd_pick c x y
  | alloc t => exact snd_alloc hT t
  | box t x => exact snd_box t x
  | build t ps => exact snd_build hT t ps
  | buildSlice t n ps => exact snd_buildSlice hT t n ps
  | insert t m k v => exact snd_mapSet hT _ t m k v (.inr rfl)
  | load t x => exact snd_load hT t x
  | store t x y => exact snd_store hT t x y
  | nilCheck x => exact snd_nilCheck x
  | binOp op t x y yt => exact snd_binOp hT op t x y yt
  | unOp op t x => exact snd_unOp op t x
  | convert s d x =>
    by_cases h : ∃ xs cls, cOp tt (.convert s d x) = some (.conv .bytes, xs, cls)
    . exact snd_convBytes hT s d x h
    . exact snd_convert hT s d x fun k xs cls hc e => h ⟨xs, cls, by rw [hc, e]⟩
  | makeInterface t x => exact snd_mkIface hT t x
  | makeFunc f x y => exact snd_mkFunc f x y
  | makeMap t r => exact snd_mkMap t r hT
  | makeSlice t l c => exact snd_mkSlice hT t l c
  | slice t x l h m => exact snd_slice hT t x l h m
  | fieldAddr t x f => exact snd_fieldAddr hT t x f
  | field t x f => exact snd_field hT t x f
  | indexAddr t x i => exact snd_indexAddr hT t x i
  | index t x i => exact snd_index hT t x i
  | lookup t x i ok => exact snd_lookup hT t x i ok
  | mapUpdate t m k v => exact snd_mapSet hT _ t m k v (.inl rfl)
  | range t x => exact snd_rangeS hT t x
  | next it s => exact snd_nextS it s
  | extract x i => exact snd_extract x i
  | call c => exact snd_call hT c
  | _ => intro ρ C st w k xs cls fr a o vs res ho hc; simp [cOp] at hc
end
end Go.Ai
end
section
namespace Go.Ai
open Go Go.RowKit
def Reaches (P : Program) (R : Value -> World -> Prop) : Result Next -> Prop
  | .ok (.value x) w' => R x w'
  | .ok .skip w' => R undef w'
  | .ok (.enter f args) w' => Calls P f args w' fun | .returned v, w'' => R v w'' | _, _ => False
  | .ok (.row row args) w' => Rows P row args w' R
  | _ => False
theorem Reaches.mono {P : Program} {R R' : Value -> World -> Prop} (h : ∀ x w, R x w -> R' x w) : ∀ {r : Result Next}, Reaches P R r -> Reaches P R' r
  | .ok (.value _) _, hr => h _ _ hr
  | .ok .skip _, hr => h _ _ hr
  | .ok (.enter _ _) _, hr => Calls.mono hr fun e w he => by cases e <;> first | exact h _ _ he | exact he
  | .ok (.row _ _) _, hr => Rows.mono hr h
theorem Reaches.upon {P : Program} {R : Value -> World -> Prop} {o : Oper} {a : Act} {K : Act -> World -> Prop} {Q : Exit -> Act -> World -> Prop} {r : Result Next}
    (hr : Reaches P R r) (h : ∀ x w, R x w -> K (a.put o.dst x) w) : o.upon P a K Q r := by
  cases r with
  | ok n w =>
    cases n <;> simp only [Reaches] at hr
    . exact h _ _ hr
    . exact h _ _ hr
    . exact Calls.mono hr fun e w he => by
        cases e with
        | returned v => exact h _ _ he
        | panicked c => exact he.elim
        | outgrown => exact he.elim
    . exact Rows.mono hr fun v w he => h _ _ he
  | halt x w => simp only [Reaches] at hr
def CallPost (ρ : Pos -> Loc) (C : Cells) (st : St) (w : World) (v : AV) (st' : St) (x : Value) (w' : World) : Prop :=
  ∃ ρ', VRel ρ' st'.next.toNat C v x /\ (∀ b : Pos, b.toNat < st.next.toNat -> ρ' b = ρ b) /\ st.next.toNat <= st'.next.toNat /\ WRel ρ' C st' w' /\ Evo ρ st w ρ' st' w'
def CallOk (P : Program) (C : Cells) (call : CallA) : Prop :=
  ∀ (ρ : Pos -> Loc) (st : St) (w : World) (f : FuncId) (args : List AV) (v : AV) (st' : St) (ay : List Value), call f args st = some (v, st') ->
    WRel ρ C st w -> VsRel ρ st.next.toNat C args ay -> Reaches P (CallPost ρ C st w v st') ((callFunc f ay.toArray).run P w)
section
variable {P : Program} {tt : TT} {C : Cells} {call : CallA}
theorem St.eff_next (st : St) (del : Option Pos) (set : Option (Pos × AB)) (new : Option AB) : st.next.toNat <= (st.eff del set new).next.toNat := by
  cases new with
  | none => exact Nat.le_refl _
  | some x => simp only [St.eff, Pos.toNat_succ]; omega
theorem stepA_sound (hT : TTOk P tt) (bZ : CallOk P C call) {ρ : Pos -> Loc} {st st' : St} {w : World} {k : OpK} {xs : List AOpd} {cls : Cls} {fr : Fr} {a : Act} {o : Oper} {vs : List AV} {v : AV}
    (hc : cOp tt o.op = some (k, xs, cls)) (hW : WRel ρ C st w) (hF : FRel ρ st.next.toNat C fr a.tmps) (hx : evsA fr xs = some vs)
    (hs : stepA call k vs st = some (v, st')) : Reaches P (CallPost ρ C st w v st') ((execOp a.eval o).run P w) := by
  have H := snd_all hT o.op ρ C st w k xs cls fr a o vs
  unfold stepA at hs
  split at hs
  . rename_i u hr
    simp only [Option.some.injEq, Prod.mk.injEq] at hs
    obtain ⟨rfl, rfl⟩ := hs
    obtain ⟨N, x, he, hy, hv⟩ := H _ rfl hc hW hF hx hr
    have hp : CallPost ρ C st w u st x w := ⟨ρ, hv, fun _ _ => rfl, Nat.le_refl _, hW, Evo.refl _ _ _⟩
    rw [he]
    rcases hy with rfl | ⟨rfl, rfl⟩ <;> exact hp
  . rename_i u del set new hr
    simp only [Option.some.injEq, Prod.mk.injEq] at hs
    obtain ⟨rfl, rfl⟩ := hs
    obtain ⟨N, x, w', ρ', he, hy, ak, aS, hv, hE⟩ := H _ rfl hc hW hF hx hr
    have hp : CallPost ρ C st w u (st.eff del set new) x w' := ⟨ρ', hv, ak, St.eff_next _ _ _ _, aS, hE⟩
    rw [he]
    rcases hy with rfl | ⟨rfl, rfl⟩ <;> exact hp
  . rename_i f args hr
    obtain ⟨ay, he, hv⟩ := H _ rfl hc hW hF hx hr
    rw [he]
    exact bZ ρ st w f args v st' ay hs hW hv
  . cases hs
structure OperRel (tt : TT) (nt : Nat) (ops : Array Oper) (o : Oper) (ao : AOper) : Prop where
  dst : ao.dst = o.dst.map key
  lt : ∀ d, o.dst = some d -> d < nt
  guard : cGuard ops o.guard = some ao.guard
  op : (cOp tt o.op = some (ao.k, ao.xs, ao.cls)) \/ (ao.k = .bad /\ ao.cls = .eff)
theorem cOpers_spec {nt : Nat} {ops : Array Oper} : ∀ {os : List Oper} {bs : List Nat} {l : List AOper}, cOpers tt nt ops os bs = some l ->
    l.length = os.length /\ ∀ (i : Nat) (o : Oper), os[i]? = some o -> ∃ ao, l[i]? = some ao /\ OperRel tt nt ops o ao /\ ao.bef = bs.getD i 0
  | [], bs, l, h => by simp [cOpers] at h; subst h; exact ⟨rfl, fun i o ho => by simp at ho⟩
  | o :: os, bs, l, h => by
    unfold cOpers at h
    split at h <;> first | (cases h; done) | skip
    rename_i g l' hg hl hd
    obtain ⟨h1, h2⟩ := cOpers_spec hl
    have aA : ∀ d, o.dst = some d -> d < nt := fun d hdd => by
      rw [hdd] at hd
      simpa [cOpers.dstIn] using hd
    have hb : ∀ i, bs.tail.getD i 0 = bs.getD (i + 1) 0 := fun i => by cases bs <;> simp
    have gj : bs.headD 0 = bs.getD 0 0 := by cases bs <;> simp
    split at h
    . rename_i k xs cls hc
      simp only [Option.some.injEq] at h; subst h
      refine ⟨by simp [h1], fun i o' ho => ?_⟩
      cases i with
      | zero =>
        simp at ho; subst ho
        exact ⟨_, rfl, ⟨rfl, aA, hg, .inl hc⟩, gj⟩
      | succ i =>
        simp at ho
        obtain ⟨ao, h3, h4, h5⟩ := h2 i o' ho
        exact ⟨ao, by simpa using h3, h4, by rw [h5, hb]⟩
    . simp only [Option.some.injEq] at h; subst h
      refine ⟨by simp [h1], fun i o' ho => ?_⟩
      cases i with
      | zero =>
        simp at ho; subst ho
        exact ⟨_, rfl, ⟨rfl, aA, hg, .inr ⟨rfl, rfl⟩⟩, gj⟩
      | succ i =>
        simp at ho
        obtain ⟨ao, h3, h4, h5⟩ := h2 i o' ho
        exact ⟨ao, by simpa using h3, h4, by rw [h5, hb]⟩
theorem wanted_sound {ops : Array Oper} {ρ : Pos -> Loc} {n : Nat} {fr : Fr} {a : Act} {o : Oper} {g : Option (Pos × Bool)} {b : Bool} (hg : cGuard ops o.guard = some g)
    (hF : ∀ p v, fr.get p = some v -> (∃ q, g = some (p, q)) -> ∃ x, a.tmps[p.toNat - 1]? = some x /\ VRel ρ n C v x)
    (hw : wantedA fr g = some b) : Region.wanted o (yielded ops a.tmps) = b := by
  unfold Region.wanted
  unfold cGuard at hg
  split at hg
  . rename_i hn
    simp only [Option.some.injEq] at hg; subst hg
    simp only [wantedA, Option.some.injEq] at hw; subst hw
    rw [hn]
  . rename_i j want hn
    rw [hn]
    split at hg <;> first | (cases hg; done) | skip
    rename_i oj hj
    split at hg <;> first | (cases hg; done) | skip
    rename_i d hd
    simp only [Option.some.injEq] at hg; subst hg
    simp only [wantedA] at hw
    split at hw
    . rename_i u hu
      simp only [Option.some.injEq] at hw; subst hw
      obtain ⟨x, hx, hv⟩ := hF _ _ hu ⟨_, rfl⟩
      rw [key_toNat, Nat.add_sub_cancel] at hx
      have := hv.bool_inv; subst this
      simp [yielded, hj, hd, hx]
    . rename_i l hu
      simp only [Option.some.injEq] at hw; subst hw
      obtain ⟨x, hx, hv⟩ := hF _ _ hu ⟨_, rfl⟩
      rw [key_toNat, Nat.add_sub_cancel] at hx
      obtain ⟨cs, rfl, _⟩ := hv.tuple_inv
      simp [yielded, hj, hd, hx]
    . cases hw
theorem VRel.undef_rel {ρ : Pos -> Loc} {n : Nat} : VRel ρ n C AV.undef undef := .tuple [] #[] rfl fun _ _ _ h => by simp at h
theorem Act.put_size (a : Act) (d : Option Tmp) (v : Value) : (a.put d v).tmps.size = a.tmps.size := by cases d <;> simp [Act.put]
theorem Act.put_defers' (a : Act) (d : Option Tmp) (v : Value) : (a.put d v).defers = a.defers := by cases d <;> rfl
theorem FRel.put {ρ : Pos -> Loc} {n nt : Nat} {fr : Fr} {a : Act} {d : Option Tmp} {v : AV} {x : Value} (hF : FRel ρ n C fr a.tmps) (hs : a.tmps.size = nt)
    (hd : ∀ e, d = some e -> e < nt) (hv : VRel ρ n C v x) : FRel ρ n C (setDst fr (d.map key) v) (a.put d x).tmps := by
  cases d with
  | none => exact hF
  | some e =>
    have he := hd e rfl
    intro p u hp
    simp only [Option.map_some, setDst] at hp
    simp only [Act.put]
    by_cases vV : key e = p
    . subst vV
      rw [T.get_put] at hp
      simp only [Option.some.injEq] at hp; subst hp
      refine ⟨x, ?_, hv⟩
      rw [key_toNat, Nat.add_sub_cancel, Array.getElem?_setIfInBounds]
      simp [hs, he]
    . rw [T.get_put_ne _ vV] at hp
      obtain ⟨y, hy, hr⟩ := hF p u hp
      refine ⟨y, ?_, hr⟩
      rw [Array.getElem?_setIfInBounds_ne, hy]
      intro h
      apply vV
      apply Pos.toNat_inj
      rw [key_toNat]
      have := p.toNat_pos
      omega
theorem FRel.mono {ρ ρ' : Pos -> Loc} {n n' : Nat} {fr : Fr} {tmps : Array Value} (hF : FRel ρ n C fr tmps) (ak : ∀ b : Pos, b.toNat < n -> ρ' b = ρ b) (hn : n <= n') : FRel ρ' n' C fr tmps :=
  fun p v hp => let ⟨x, hx, hv⟩ := hF p v hp; ⟨x, hx, hv.mono ak hn⟩
structure SRel (nt : Nat) (ρ : Pos -> Loc) (C : Cells) (fr : Fr) (st : St) (a : Act) (w : World) : Prop where
  W : WRel ρ C st w
  F : FRel ρ st.next.toNat C fr a.tmps
  size : a.tmps.size = nt
  defers : a.defers = []
def SPost (nt : Nat) (ρ : Pos -> Loc) (C : Cells) (st : St) (w : World) (aq : Fr) (st' : St) (a' : Act) (w' : World) : Prop :=
  ∃ ρ', SRel nt ρ' C aq st' a' w' /\ (∀ b : Pos, b.toNat < st.next.toNat -> ρ' b = ρ b) /\ st.next.toNat <= st'.next.toNat /\ Evo ρ st w ρ' st' w'
theorem SPost.refl {nt : Nat} {ρ : Pos -> Loc} {fr : Fr} {st : St} {a : Act} {w : World} (h : SRel nt ρ C fr st a w) : SPost nt ρ C st w fr st a w :=
  ⟨ρ, h, fun _ _ => rfl, Nat.le_refl _, Evo.refl _ _ _⟩
theorem SPost.trans {nt : Nat} {ρ b6 : Pos -> Loc} {mb : Fr} {st aH mF : St} {a2 : Act} {w w1 w2 : World}
    (h1 : ∀ b : Pos, b.toNat < st.next.toNat -> b6 b = ρ b) (h2 : st.next.toNat <= aH.next.toNat) (h3 : Evo ρ st w b6 aH w1)
    (h : SPost nt b6 C aH w1 mb mF a2 w2) : SPost nt ρ C st w mb mF a2 w2 := by
  obtain ⟨iN, k1, k2, k3, k4⟩ := h
  exact ⟨iN, k1, fun b hb => (k2 b (Nat.lt_of_lt_of_le hb h2)).trans (h1 b hb), Nat.le_trans h2 k3, h3.trans k4⟩
theorem Reaches.bad {k : OpK} {vs : List AV} {st : St} {r : AV × St} (hk : k = .bad) (h : stepA call k vs st = some r) : False := by
  subst hk; simp [stepA, OpK.run] at h
theorem opsA_sound (hT : TTOk P tt) (bZ : CallOk P C call) {nt : Nat} {ops : Array Oper} {Q : Exit -> Act -> World -> Prop} : ∀ (rR : List AOper) (k : Nat) (fr aq : Fr) (st st' : St) (ρ : Pos -> Loc) (a : Act) (w : World),
    (∀ (i : Nat) (ao : AOper), rR[i]? = some ao -> ∃ o, ops[k + i]? = some o /\ OperRel tt nt ops o ao) ->
    opsA call rR fr st = some (aq, st') -> SRel nt ρ C fr st a w -> (∀ a' w', SPost nt ρ C st w aq st' a' w' -> Q .normal a' w') -> wpOps P ops Q (List.range' k rR.length) a w
  | [], k, fr, aq, st, st', ρ, a, w, _, h, hS, hQ => by
    simp only [opsA, Option.some.injEq, Prod.mk.injEq] at h
    obtain ⟨rfl, rfl⟩ := h
    exact hQ a w (SPost.refl hS)
  | ao :: rR, k, fr, aq, st, st', ρ, a, w, ho, h, hS, hQ => by
    obtain ⟨o, bf, hR⟩ := ho 0 ao rfl
    rw [Nat.add_zero] at bf
    have kj : ∀ (i : Nat) (yh : AOper), rR[i]? = some yh -> ∃ o, ops[k + 1 + i]? = some o /\ OperRel tt nt ops o yh := fun i yh hi => by
      obtain ⟨o', h1, h2⟩ := ho (i + 1) yh (by simpa using hi)
      exact ⟨o', by rw [<- h1]; congr 1; omega, h2⟩
    simp only [List.length_cons, List.range'_succ, wpOps, bf]
    unfold opsA at h
    split at h
    . rename_i hw
      rw [if_pos (wanted_sound hR.guard (fun p v hp _ => hS.F p v hp) hw)]
      split at h <;> first | (cases h; done) | skip
      rename_i vs ec
      split at h <;> first | (cases h; done) | skip
      rename_i v aH ei
      rcases hR.op with hc | ⟨hk, _⟩
      . have hr := stepA_sound hT bZ hc hS.W hS.F ec ei
        refine .inl (hr.upon fun x w1 hp => ?_)
        obtain ⟨b6, hv, h1, h2, yj, hE⟩ := hp
        rw [hR.dst] at h
        refine opsA_sound hT bZ rR (k + 1) _ aq aH st' b6 _ w1 kj h ⟨yj, FRel.put (hS.F.mono h1 h2) hS.size hR.lt hv, by rw [Act.put_size]; exact hS.size, by rw [Act.put_defers']; exact hS.defers⟩ fun a' w' hp => hQ a' w' (SPost.trans h1 h2 hE hp)
      . exact (Reaches.bad hk ei).elim
    . rename_i hw
      rw [if_neg (by rw [wanted_sound hR.guard (fun p v hp _ => hS.F p v hp) hw]; simp)]
      rw [hR.dst] at h
      exact opsA_sound hT bZ rR (k + 1) _ aq st st' ρ _ w kj h ⟨hS.W, FRel.put hS.F hS.size hR.lt .undef_rel, by rw [Act.put_size]; exact hS.size, by rw [Act.put_defers']; exact hS.defers⟩ hQ
    . cases h
theorem opers_at {nt : Nat} {ops : Array Oper} {l : List AOper} {bs : List Nat} (h : cOpers tt nt ops ops.toList bs = some l) (i : Nat) (ao : AOper) (hi : l[i]? = some ao) :
    ∃ o, ops[i]? = some o /\ OperRel tt nt ops o ao /\ ao.bef = bs.getD i 0 := by
  obtain ⟨h1, h2⟩ := cOpers_spec h
  have aA : i < ops.toList.length := by rw [<- h1]; exact (List.getElem?_eq_some_iff.1 hi).1
  obtain ⟨yh, h3, h4, h5⟩ := h2 i _ (List.getElem?_eq_getElem aA)
  rw [hi] at h3
  simp only [Option.some.injEq] at h3; subst h3
  exact ⟨_, by rw [<- Array.getElem?_toList]; exact List.getElem?_eq_getElem aA, h4, h5⟩
theorem region_sound (hT : TTOk P tt) (bZ : CallOk P C call) {nt id : Nat} {ops : Array Oper} {bs : List Nat} {l : List AOper} {Q : Exit -> Act -> World -> Prop} {fr aq : Fr} {st st' : St} {ρ : Pos -> Loc} {a : Act} {w : World}
    (hl : cOpers tt nt ops ops.toList bs = some l) (h : opsA call l fr st = some (aq, st')) (hS : SRel nt ρ C fr st a w)
    (hQ : ∀ a' w', SPost nt ρ C st w aq st' a' w' -> Q .normal a' w') : (Code.region id ops false).wp P Q a w := by
  apply wp_region
  have hlen : l.length = ops.size := by rw [(cOpers_spec hl).1, Array.length_toList]
  rw [List.range_eq_range', <- hlen]
  exact opsA_sound hT bZ l 0 fr aq st st' ρ a w (fun i ao hi => by
    obtain ⟨o, h1, h2, _⟩ := opers_at hl i ao hi
    exact ⟨o, by rw [Nat.zero_add]; exact h1, h2⟩) h hS hQ
end
end Go.Ai
end
section
namespace Go.Ai
open Go Go.RowKit
section
variable {P : Program} {tt : TT} {C : Cells} {call : CallA}
def DrawOk (P : Program) (tt : TT) (C : Cells) (call : CallA) : Prop :=
  ∀ (nt id : Nat) (ops : Array Oper) (l : List AOper) (Q : Exit -> Act -> World -> Prop) (fr aq : Fr) (st st' : St) (ρ : Pos -> Loc) (a : Act) (w : World),
    cOpers tt nt ops ops.toList (befs ops.toList []) = some l -> drawOk l.length 0 (lateO (numb 0 l) []) = true -> drawA call (lateO (numb 0 l) []) [] st.heap fr st = some (aq, st') -> SRel nt ρ C fr st a w ->
    (∀ a' w', SPost nt ρ C st w aq st' a' w' -> Q .normal a' w') -> (Code.region id ops true).wp P Q a w
def exMatch : AExit -> Exit
  | .normal => .normal
  | .exit id => .exit id
  | .ret => .ret
def ExecOk (P : Program) (tt : TT) (C : Cells) (call : CallA) (nt m : Nat) : Prop :=
  ∀ (c : Code) (ac : AC) (fr aq : Fr) (st st' : St) (ex : AExit) (ρ : Pos -> Loc) (a : Act) (w : World) (Q : Exit -> Act -> World -> Prop),
    cCode tt nt c = some ac -> exec call m ac fr st = some (ex, aq, st') -> SRel nt ρ C fr st a w ->
    (∀ a' w', SPost nt ρ C st w aq st' a' w' -> Q (exMatch ex) a' w') -> c.wp P Q a w
def LoopOk (P : Program) (tt : TT) (C : Cells) (call : CallA) (nt m : Nat) : Prop :=
  ∀ (c : Code) (ac : AC) (fr aq : Fr) (st st' : St) (ex : AExit) (ρ : Pos -> Loc) (a : Act) (w : World) (Q : Exit -> Act -> World -> Prop),
    cCode tt nt c = some ac -> exec call m (.loop ac) fr st = some (ex, aq, st') -> SRel nt ρ C fr st a w ->
    (∀ a' w', SPost nt ρ C st w aq st' a' w' -> Q (exMatch ex) a' w') -> Code.rounds P c Q m a w
theorem exec_loop {nt m : Nat} (jE : ExecOk P tt C call nt m) (Gx : LoopOk P tt C call nt m) : LoopOk P tt C call nt (m + 1) := by
  intro c ac fr aq st st' ex ρ a w Q hc h hS hQ
  simp only [exec, execStep] at h
  rw [rounds_succ]
  split at h
  . rename_i bC aH h1
    refine jE c ac fr bC st aH .normal ρ a w _ hc h1 hS fun a1 w1 hp => ?_
    obtain ⟨b6, fR, k1, k2, k3⟩ := hp
    exact Gx c ac bC aq aH st' ex b6 a1 w1 Q hc h fR fun a2 w2 hp => hQ a2 w2 (SPost.trans k1 k2 k3 hp)
  . rename_i aI
    cases ex with
    | normal => exact (aI _ _ h).elim
    | exit id => exact jE c ac fr aq st st' (.exit id) ρ a w _ hc h hS fun a1 w1 hp => hQ a1 w1 hp
    | ret => exact jE c ac fr aq st st' .ret ρ a w _ hc h hS fun a1 w1 hp => hQ a1 w1 hp
theorem exec_step (hT : TTOk P tt) (bZ : CallOk P C call) (gX : DrawOk P tt C call) {nt m : Nat} (jE : ExecOk P tt C call nt m) (Gx : LoopOk P tt C call nt m) : ExecOk P tt C call nt (m + 1) := by
  intro c ac fr aq st st' ex ρ a w Q hc h hS hQ
  have Ky := exec_loop jE Gx
  unfold cCode at hc
  split at hc <;> first | (cases hc; done) | skip
  . simp only [Option.some.injEq] at hc; subst hc
    simp only [exec, execStep, Option.some.injEq, Prod.mk.injEq] at h
    obtain ⟨rfl, rfl, rfl⟩ := h
    exact wp_skip (hQ _ _ (SPost.refl hS))
  . rename_i ix ops draw
    split at hc <;> first | (cases hc; done) | skip
    rename_i l hl
    split at hc
    . simp only [Option.some.injEq] at hc; subst hc
      simp only [exec, execStep] at h
      split at h <;> first | (cases h; done) | skip
      rename_i bC aH h1
      simp only [Option.some.injEq, Prod.mk.injEq] at h
      obtain ⟨rfl, rfl, rfl⟩ := h
      exact region_sound hT bZ hl h1 hS hQ
    . split at hc <;> first | (cases hc; done) | skip
      rename_i ht
      simp only [Option.some.injEq] at hc; subst hc
      simp only [exec, execStep] at h
      split at h <;> first | (cases h; done) | skip
      rename_i bC aH h1
      simp only [Option.some.injEq, Prod.mk.injEq] at h
      obtain ⟨rfl, rfl, rfl⟩ := h
      exact gX nt _ ops l Q fr bC st aH ρ a w hl ht h1 hS hQ
  . split at hc <;> first | (cases hc; done) | skip
    rename_i x y h1 h2
    simp only [Option.some.injEq] at hc; subst hc
    simp only [exec, execStep] at h
    apply wp_seq
    split at h
    . rename_i bC aH h3
      refine jE _ _ fr bC st aH .normal ρ a w _ h1 h3 hS fun a1 w1 hp => ?_
      obtain ⟨b6, fR, k1, k2, k3⟩ := hp
      exact jE _ _ bC aq aH st' ex b6 a1 w1 Q h2 h fR fun a2 w2 hp => hQ a2 w2 (SPost.trans k1 k2 k3 hp)
    . rename_i aI
      cases ex with
      | normal => exact (aI _ _ h).elim
      | exit id => exact jE _ _ fr aq st st' (.exit id) ρ a w _ h1 h hS fun a1 w1 hp => hQ a1 w1 hp
      | ret => exact jE _ _ fr aq st st' .ret ρ a w _ h1 h hS fun a1 w1 hp => hQ a1 w1 hp
  . split at hc <;> first | (cases hc; done) | skip
    rename_i x y z h1 h2 h3
    simp only [Option.some.injEq] at hc; subst hc
    simp only [exec, execStep] at h
    split at h
    . rename_i hx
      exact wp_cond_true ((cOpd_rel h1 hS.F hx).bool_inv) (jE _ _ fr aq st st' ex ρ a w Q h2 h hS hQ)
    . rename_i hx
      exact wp_cond_false ((cOpd_rel h1 hS.F hx).bool_inv) (jE _ _ fr aq st st' ex ρ a w Q h3 h hS hQ)
    . cases h
  . split at hc <;> first | (cases hc; done) | skip
    rename_i x h1
    simp only [Option.some.injEq] at hc; subst hc
    simp only [exec, execStep] at h
    apply wp_block
    split at h
    . rename_i fN bC aH h2
      split at h
      . rename_i he
        simp only [Option.some.injEq, Prod.mk.injEq] at h
        obtain ⟨rfl, rfl, rfl⟩ := h
        have := Nat.eq_of_beq_eq_true he; subst this
        exact jE _ _ fr bC st aH (.exit fN) ρ a w _ h1 h2 hS fun a1 w1 hp => by
          simp only [exMatch, Exit.inBlock, if_true]; exact hQ a1 w1 hp
      . rename_i he
        simp only [Option.some.injEq, Prod.mk.injEq] at h
        obtain ⟨rfl, rfl, rfl⟩ := h
        have := Nat.ne_of_beq_eq_false he
        exact jE _ _ fr bC st aH (.exit fN) ρ a w _ h1 h2 hS fun a1 w1 hp => by
          simp only [exMatch, Exit.inBlock, if_neg this]; exact hQ a1 w1 hp
    . rename_i aI
      cases ex with
      | normal => exact jE _ _ fr aq st st' .normal ρ a w _ h1 h hS fun a1 w1 hp => hQ a1 w1 hp
      | exit id => exact (aI _ _ _ h).elim
      | ret => exact jE _ _ fr aq st st' .ret ρ a w _ h1 h hS fun a1 w1 hp => hQ a1 w1 hp
  . split at hc <;> first | (cases hc; done) | skip
    rename_i x h1
    simp only [Option.some.injEq] at hc; subst hc
    exact wp_loop_rounds (m + 1) (Ky _ _ fr aq st st' ex ρ a w Q h1 h hS hQ)
  . simp only [Option.some.injEq] at hc; subst hc
    simp only [exec, execStep, Option.some.injEq, Prod.mk.injEq] at h
    obtain ⟨rfl, rfl, rfl⟩ := h
    exact wp_exit (hQ _ _ (SPost.refl hS))
  . simp only [Option.some.injEq] at hc; subst hc
    simp only [exec, execStep, Option.some.injEq, Prod.mk.injEq] at h
    obtain ⟨rfl, rfl, rfl⟩ := h
    exact wp_ret (hQ _ _ (SPost.refl hS))
  . simp only [Option.some.injEq] at hc; subst hc
    simp [exec, execStep, opsA, wantedA, evsA, stepA, OpK.run] at h
theorem exec_sound (hT : TTOk P tt) (bZ : CallOk P C call) (gX : DrawOk P tt C call) {nt : Nat} : ∀ m, ExecOk P tt C call nt m /\ LoopOk P tt C call nt m
  | 0 => ⟨fun c ac fr aq st st' ex ρ a w Q hc h => by simp [exec] at h, fun c ac fr aq st st' ex ρ a w Q hc h => by simp [exec] at h⟩
  | m + 1 => let ⟨h1, h2⟩ := exec_sound hT bZ gX m; ⟨exec_step hT bZ gX h1 h2, exec_loop h1 h2⟩
def resOf (tmps : Array Value) : ResultVar -> Sem Value
  | .tmp t => pure (tmps.getD t undef)
  | .cell a t => do loadVar t (<- asAddr (tmps.getD a undef))
theorem load_reads (hT : TTOk P tt) {ρ : Pos -> Loc} {st : St} {w : World} {fr : Fr} {a : Act} {x : Tmp} {t : TypeId} {ti : TI} {q v : AV} (aO : tt.get (key t) = some ti)
    (hW : WRel ρ C st w) (hF : FRel ρ st.next.toNat C fr a.tmps) (hq : fr.get (key x) = some q) (hr : (OpK.load (loadN ti)).run (fun b => st.heap.get b) .h [q] = some (.val v)) :
    ∃ y, (resOf a.tmps (.cell x t)).run P w = .ok y w /\ VRel ρ st.next.toNat C v y := by
  have hc : cOp tt (.load t (.tmp x)) = some (.load (loadN ti), [.t (key x)], .read) := by simp [cOp, aO, cOpd]
  have hx : evsA fr [.t (key x)] = some [q] := by simp [evsA, evA, hq]
  have cQ : (OpK.load (loadN ti)).run (fun b => st.heap.get b) st.next [q] = some (.val v) := hr
  obtain ⟨N, y, he, hy, hv⟩ := snd_all hT (.load t (.tmp x)) ρ C st w _ _ _ fr a { dst := none, op := .load t (.tmp x), type := t, pos := default, after := #[], guard := none } _ _ rfl hc hW hF hx cQ
  refine ⟨y, ?_, hv⟩
  simp only [execOp, Instr.loadAt, Act.eval] at he
  simp only [resOf]
  obtain ⟨z, hz, By⟩ := hF _ _ hq
  rw [key_toNat, Nat.add_sub_cancel] at hz
  have hzd : a.tmps.getD x undef = z := by simp [Array.getD_eq_getD_getElem?, hz]
  rw [hzd] at he ⊢
  have hp : ∃ ad, z = .pointer (some ad) := by
    simp only [OpK.run, runLoad] at hr
    split at hr <;> first | (cases hr; done) | skip
    . obtain ⟨_, h⟩ := By.ptr_inv; exact ⟨_, h⟩
    . obtain ⟨_, _, _, _, h, _⟩ := By.fp_inv; exact ⟨_, h⟩
  obtain ⟨ad, rfl⟩ := hp
  simp only [Instr.sureAddr, asAddr, Sem.run_bind, Sem.run_pure, Result.andThen] at he ⊢
  cases hl : (loadVar t ad).run P w with
  | ok u w1 =>
    rw [hl] at he
    simp at he
    obtain ⟨h1, h2⟩ := he
    subst h2
    rcases hy with hy | ⟨hy, _⟩
    . rw [hy] at h1; simp at h1; rw [h1]
    . rw [hy] at h1; simp at h1
  | halt u w1 => rw [hl] at he; simp at he
theorem mapM_results (hT : TTOk P tt) {ρ : Pos -> Loc} {st : St} {w : World} {fr : Fr} {a : Act} (hW : WRel ρ C st w) (hF : FRel ρ st.next.toNat C fr a.tmps) :
    ∀ (rs : List ResultVar) (oV : List ARV) (vs : List AV), cResults tt rs = some oV -> resultsA (fun b => st.heap.get b) fr oV = some vs ->
      ∃ ys, (rs.mapM (resOf a.tmps)).run P w = .ok ys w /\ VsRel ρ st.next.toNat C vs ys
  | [], oV, vs, hc, hr => by
    simp only [cResults, Option.some.injEq] at hc; subst hc
    simp only [resultsA, Option.some.injEq] at hr; subst hr
    exact ⟨[], by simp, VsRel.nil⟩
  | .tmp t :: rs, oV, vs, hc, hr => by
    simp only [cResults] at hc
    split at hc <;> first | (cases hc; done) | skip
    rename_i l hl
    simp only [Option.some.injEq] at hc; subst hc
    simp only [resultsA] at hr
    split at hr <;> first | (cases hr; done) | skip
    rename_i v hv
    split at hr <;> first | (cases hr; done) | skip
    rename_i us xU
    simp only [Option.some.injEq] at hr; subst hr
    obtain ⟨ys, h1, h2⟩ := mapM_results hT hW hF rs l us hl xU
    obtain ⟨z, hz, By⟩ := hF _ _ hv
    rw [key_toNat, Nat.add_sub_cancel] at hz
    refine ⟨z :: ys, ?_, VsRel.cons By h2⟩
    simp [List.mapM_cons, resOf, h1, Array.getD_eq_getD_getElem?, hz]
  | .cell x t :: rs, oV, vs, hc, hr => by
    simp only [cResults] at hc
    split at hc <;> first | (cases hc; done) | skip
    rename_i ti l xZ hl
    simp only [Option.some.injEq] at hc; subst hc
    simp only [resultsA] at hr
    split at hr <;> first | (cases hr; done) | skip
    rename_i q hq
    split at hr <;> first | (cases hr; done) | skip
    rename_i v hv
    split at hr <;> first | (cases hr; done) | skip
    rename_i us xU
    simp only [Option.some.injEq] at hr; subst hr
    obtain ⟨ys, h1, h2⟩ := mapM_results hT hW hF rs l us hl xU
    obtain ⟨y, h3, h4⟩ := load_reads hT xZ hW hF hq hv
    refine ⟨y :: ys, ?_, VsRel.cons h4 h2⟩
    simp [List.mapM_cons, h1, h3]
theorem results_sound (hT : TTOk P tt) {ρ : Pos -> Loc} {st : St} {w : World} {fr : Fr} {a : Act} {fn : Func} {oV : List ARV} {vs : List AV} (hW : WRel ρ C st w) (hF : FRel ρ st.next.toNat C fr a.tmps)
    (hc : cResults tt fn.results.toList = some oV) (hr : resultsA (fun b => st.heap.get b) fr oV = some vs) :
    ∃ y, (results fn a.tmps).run P w = .ok y w /\ VRel ρ st.next.toNat C (packA vs) y := by
  obtain ⟨ys, h1, h2⟩ := mapM_results hT hW hF _ oV vs hc hr
  have h3 : (fn.results.mapM (resOf a.tmps)).run P w = .ok ys.toArray w := by
    rw [Array.mapM_eq_mapM_toList]
    simp [h1]
  have h4 : (results fn a.tmps).run P w = .ok (if h : ys.toArray.size = 1 then ys.toArray[0] else .tuple ys.toArray) w := by
    have LA : results fn a.tmps = (fn.results.mapM (resOf a.tmps) >>= fun vs => pure (if h : vs.size = 1 then vs[0] else .tuple vs)) := by
      unfold results
      congr 2
    rw [LA, Sem.run_bind, h3]
    simp
  refine ⟨_, h4, ?_⟩
  cases vs with
  | nil => have := h2.nil_inv; subst this; simp [packA]; exact .tuple_of (by simpa using VsRel.nil)
  | cons v vs =>
    obtain ⟨y, ys', rfl, hv, ec⟩ := h2.cons_inv
    cases vs with
    | nil => have := ec.nil_inv; subst this; simpa [packA] using hv
    | cons v' Bp =>
      obtain ⟨y', ys'', rfl, kP, Ap⟩ := ec.cons_inv
      simp [packA]
      exact .tuple_of (by simpa using VsRel.cons hv (VsRel.cons kP Ap))
def GOk (P : Program) (tt : TT) (G : T AFunc) : Prop :=
  ∀ p F, G.get p = some F -> ∃ fn, P.funcs[p.toNat - 1]? = some fn /\ (fn.name == "runtime.NumGoroutine") = false /\ cFunc tt fn = some F
def OracleOk (P : Program) (C : Cells) (O : Oracle) : Prop :=
  ∀ (f : FuncId) (s : List AV -> St -> Option (AV × St)), O f = some s ->
    ∀ (ρ : Pos -> Loc) (st : St) (w : World) (args : List AV) (v : AV) (st' : St) (ay : List Value), s args st = some (v, st') ->
      WRel ρ C st w -> VsRel ρ st.next.toNat C args ay -> Reaches P (CallPost ρ C st w v st') ((callFunc f ay.toArray).run P w)
theorem params_rel {ρ : Pos -> Loc} {n : Nat} {tmps : Array Value} : ∀ (vs : List AV) (xs : List Value) (i : Nat) (fr : Fr), VsRel ρ n C vs xs ->
    (∀ (j : Nat) (x : Value), xs[j]? = some x -> tmps[i + j]? = some x) -> FRel ρ n C fr tmps -> FRel ρ n C (params i vs fr) tmps
  | [], _, _, _, _, _, hF => hF
  | v :: vs, xs, i, fr, h, hx, hF => by
    obtain ⟨x, gi, rfl, hv, ec⟩ := h.cons_inv
    unfold params
    refine params_rel vs gi (i + 1) _ ec (fun j y hy => by rw [<- hx (j + 1) y (by simpa using hy)]; congr 1; omega) fun p u hp => ?_
    by_cases vV : key i = p
    . subst vV
      rw [T.get_put] at hp
      simp only [Option.some.injEq] at hp; subst hp
      exact ⟨x, by rw [key_toNat, Nat.add_sub_cancel]; exact hx 0 x rfl, hv⟩
    . rw [T.get_put_ne _ vV] at hp
      exact hF p u hp
theorem callA_sound (hT : TTOk P tt) {O : Oracle} {G : T AFunc} (hO : OracleOk P C O) (hG : GOk P tt G) (m : Nat) (gX : ∀ d, CallOk P C (callA O G m d) -> DrawOk P tt C (callA O G m d)) : ∀ d, CallOk P C (callA O G m d)
  | 0 => fun ρ st w f args v st' ay h => by simp [callA] at h
  | d + 1 => by
    intro ρ st w f args v st' ay h hW gB
    have ih := callA_sound hT hO hG m gX d
    unfold callA at h
    split at h
    . rename_i s hs
      exact hO f s hs ρ st w args v st' ay h hW gB
    . split at h <;> first | (cases h; done) | skip
      rename_i F hF
      split at h <;> first | (cases h; done) | skip
      rename_i hlen
      have hlen := Nat.eq_of_beq_eq_true hlen
      obtain ⟨fn, b9, ek, jF⟩ := hG _ _ hF
      rw [key_toNat, Nat.add_sub_cancel] at b9
      unfold cFunc at jF
      split at jF <;> first | (cases jF; done) | skip
      rename_i c hb
      split at jF <;> first | (cases jF; done) | skip
      rename_i ac rs yl vW hle
      simp only [Option.some.injEq] at jF; subst jF
      simp only at h hlen
      have hle := Nat.le_of_ble_eq_true hle
      have aB : (callFunc f ay.toArray).run P w = .ok (.enter f ay.toArray) w := by
        have rS : ¬ fn.name = "runtime.NumGoroutine" := by simpa using ek
        simp [callFunc, b9, rS, hb]
      rw [aB]
      simp only [Reaches]
      refine calls_of_wp b9 hb ?_
      have aZ : ay.length <= fn.ntmps := by rw [<- gB.1, hlen]; exact hle
      have hS : SRel fn.ntmps ρ C (params 0 args .e) st { tmps := ay.toArray ++ Array.replicate (fn.ntmps - ay.toArray.size) undef, defers := [] } w := by
        refine ⟨hW, ?_, ?_, rfl⟩
        . refine params_rel args ay 0 .e gB (fun j x hx => ?_) (fun p v hp => by rw [T.get_e] at hp; cases hp)
          have hj : j < ay.length := (List.getElem?_eq_some_iff.1 hx).1
          rw [Nat.zero_add, Array.getElem?_append_left (by simpa using hj)]
          simpa using hx
        . simp; omega
      split at h <;> first | (cases h; done) | skip
      . rename_i bC aH h1
        split at h <;> first | (cases h; done) | skip
        rename_i vs ec
        simp only [Option.some.injEq, Prod.mk.injEq] at h
        obtain ⟨rfl, rfl⟩ := h
        refine (exec_sound hT ih (gX _ ih) m).1 c ac _ bC st aH .normal ρ _ w _ yl h1 hS fun a' w' hp => ?_
        obtain ⟨b6, fR, k1, k2, k3⟩ := hp
        obtain ⟨y, n5, n6⟩ := results_sound hT fR.W fR.F vW ec
        exact ⟨fR.defers, y, n5, b6, n6, k1, k2, fR.W, k3⟩
      . rename_i bC aH h1
        split at h <;> first | (cases h; done) | skip
        rename_i vs ec
        simp only [Option.some.injEq, Prod.mk.injEq] at h
        obtain ⟨rfl, rfl⟩ := h
        refine (exec_sound hT ih (gX _ ih) m).1 c ac _ bC st aH .ret ρ _ w _ yl h1 hS fun a' w' hp => ?_
        obtain ⟨b6, fR, k1, k2, k3⟩ := hp
        obtain ⟨y, n5, n6⟩ := results_sound hT fR.W fR.F vW ec
        exact ⟨fR.defers, y, n5, b6, n6, k1, k2, fR.W, k3⟩
end
end Go.Ai
end
