/- The evaluator's operations answer as the model's do, second part; regions and calls. -/
import Derived.Test.YtogojkhbplmifaaGreatDoorEvalB
import Derived.Laws.IdiomStrings
import Derived.Laws.RangeString
import Derived.Laws.AppendOwn
import Derived.Test.YtogojkhbplmifaaGreatDoorEvalA
import Derived.Calls
import Derived.LoopN
set_option linter.all false
set_option linter.unusedSectionVars false
set_option linter.deprecated false
section
namespace Go.Ai
open Go Go.RowKit
section
variable {P : Program} {tt : TT} {ρ : Pos -> Loc} {C : Cells} {st : St} {w w' : World}
theorem A4 (del : Option Pos) (h : T AB) {b : Pos} {x : AB} (hb : (w9 del h).get b = some x) : h.get b = some x /\ ∀ c, del = some c -> b ≠ c := by
  cases del with
  | none => exact ⟨hb, fun _ h => by cases h⟩
  | some c =>
    by_cases he : c = b
    . subst he; simp only [w9] at hb; rw [T.fQ] at hb; cases hb
    . simp only [w9] at hb; rw [T.bT _ he] at hb
      exact ⟨hb, fun d hd => by cases hd; exact fun e => he e.symm⟩
theorem vr (hW : cw ρ C st w) {o : Obj} {x0 : AB} {base size : Nat} (del : Option Pos) (hh : w'.heap = w.heap.push o) (h1 : w'.os = w.os) (h2 : w'.tape = w.tape) (h3 : w'.output = w.output)
    (hB : ∀ ρ' n', (∀ b : Pos, b.toNat < st.next.toNat -> ρ' b = ρ b) -> st.next.toNat <= n' -> mh ρ' n' C ⟨w.heap.size, base, size⟩ w' x0) :
    ∃ ρ' : Pos -> Loc, (∀ b : Pos, b.toNat < st.next.toNat -> ρ' b = ρ b) /\ ρ' st.next = ⟨w.heap.size, base, size⟩ /\ cw ρ' C (st.aN del none (some x0)) w' /\ ny ρ st w ρ' (st.aN del none (some x0)) w' := by
  let ρ' : Pos -> Loc := fun b => if b = st.next then ⟨w.heap.size, base, size⟩ else ρ b
  have aY : ∀ b : Pos, b.toNat < st.next.toNat -> ρ' b = ρ b := fun b hb => if_neg (fun e => by rw [e] at hb; omega)
  have fu : ρ' st.next = ⟨w.heap.size, base, size⟩ := if_pos rfl
  have gO : w'.heap.size = w.heap.size + 1 := by rw [hh]; simp
  have hold : ∀ k, k < w.heap.size -> w'.heap[k]? = w.heap[k]? := fun k hk => by rw [hh, Array.getElem?_push, if_neg (by omega)]
  refine ⟨ρ', aY, fu, ?_, ⟨h1, h2, h3, by omega, fun k hk _ => hold k hk, fun b x hb => ?_⟩⟩
  rotate_left
  . by_cases he : b = st.next
    . right; rw [he, fu]; exact Nat.le_refl _
    . left
      simp only [St.aN, zo] at hb
      rw [T.bT _ (fun e => he e.symm)] at hb
      have gw := (A4 del _ hb).1
      exact ⟨b, x, gw, by rw [aY b (hW.live b x gw).1]⟩
  refine hW.O3 (b0 := st.next) (x0 := x0) (by rw [Pos.aL]; omega) (by rw [Pos.aL]; omega) (by rw [T.fQ]) ?_ aY (by rw [fu]; exact hB _ _ aY (by rw [Pos.aL]; omega)) ?_ (by rw [fu, gO]; simp) (by omega) (fun k hk _ => hold k hk)
  . intro b x hb hx
    rw [T.bT _ (fun e => hb e.symm)] at hx
    have hx := (A4 del _ hx).1
    refine ⟨hx, ?_⟩
    rw [fu]
    have := (hW.live b x hx).2.1
    simp only; omega
  . intro a v ha
    have := World.block_lt_of_cell? _ _ (hW.fD a v ha).1
    rw [fu]; simp only; omega
theorem KX (hW : cw ρ C st w) {b : Pos} {x x0 : AB} (hb : st.heap.get b = some x) (h1 : w'.os = w.os) (h2 : w'.tape = w.tape) (h3 : w'.output = w.output) (gO : w'.heap.size = w.heap.size)
    (KR : ∀ k, k ≠ (ρ b).aF -> w'.heap[k]? = w.heap[k]?) (hB : mh ρ st.next.toNat C (ρ b) w' x0) :
    cw ρ C (st.aN none (some (b, x0)) none) w' /\ ny ρ st w ρ (st.aN none (some (b, x0)) none) w' := by
  obtain ⟨bD, mY, _⟩ := hW.live b x hb
  refine ⟨?_, ⟨h1, h2, h3, by omega, fun k _ hk => KR k (fun e => hk b x hb e.symm), fun c y hc => ?_⟩⟩
  rotate_left
  . left
    by_cases he : c = b
    . exact ⟨b, x, hb, by rw [he]⟩
    . simp only [St.aN, zo, w9] at hc
      rw [T.bT _ (fun e => he e.symm)] at hc
      exact ⟨c, y, hc, rfl⟩
  refine hW.O3 (b0 := b) (x0 := x0) (Nat.le_refl _) bD (by simp only [zo, w9]; rw [T.fQ]) ?_ (fun _ _ => rfl) hB ?_ (by omega) (by omega) (fun k _ hk => KR k hk)
  . intro c y hc hy
    simp only [zo, w9] at hy
    rw [T.bT _ (fun e => hc e.symm)] at hy
    exact ⟨hy, fun e => hc (hW.inj _ _ _ _ hy hb e)⟩
  . exact fun a v ha e => (hW.fD a v ha).2 b x hb e.symm
theorem qb {cs : List AV} {c : Array Value} {e : TypeId} {fr : Nat × Nat} {g : Nat} {n : Nat} (hg : w'.heap[g]? = some (.cells c e fr)) (hle : cs.length <= c.size) (hv : ay ρ n C cs (c.toList.take cs.length))
    (hf : ∀ i, i < c.size -> ¬ (fr.1 <= i /\ i < fr.2)) : mh ρ n C ⟨g, 0, c.size⟩ w' (.cells cs 0) :=
  ⟨c, e, fr, hg, rfl, by simpa using hle, by simpa using hv, fun i _ hi => by simpa using hf i (by simpa using hi)⟩
theorem Qu (hT : cG P tt) (t : TypeId) : cV P tt (.alloc t) := by
  intro ρ C st w k xs cls fr a o vs res ho hc hW hF hx hr
  simp only [fS] at hc
  split at hc <;> first | (cases hc; done) | skip
  rename_i ti ez
  split at hc <;> first | (cases hc; done) | skip
  rename_i z hz
  cases hc
  simp only [eC, Option.some.injEq] at hx; subst hx
  simp only [aE.run, AM, Option.some.injEq] at hr; subst hr
  obtain ⟨zv, Co, _, uj⟩ := uD hT ez hz (ρ := ρ) (n := st.next.toNat) (C := C) w
  have hl : z.length = zv.cells.size := by simpa using uj.1
  obtain ⟨ρ', aY, fu, fV, hE⟩ := vr (w' := w.alloc (.cells zv.cells t)) (o := .cells zv.cells t) (x0 := .cells z 0) (base := 0) (size := zv.cells.size) hW none rfl rfl rfl rfl (fun ρ' n' aY hn =>
    qb (w' := w.alloc (.cells zv.cells t)) (e := t) (fr := (0, 0)) (by show (w.heap.push _)[w.heap.size]? = _; simp) (by omega) (by rw [hl, List.take_of_length_le (by simp)]; exact uj.mono aY hn) (fun i _ => by simp))
  refine ⟨_, .pointer (some ⟨w.heap.size, 0, none⟩), _, ρ', ?_, Yields.value _, aY, fV, ?_, hE⟩
  . simp [execOp, ho, Instr.alloc, Co, newVar, newRow]
  . have := ax.ptr (ρ := ρ') (n := (st.aN none none (some (.cells z 0))).next.toNat) (C := C) st.next 0 (by simp [St.aN, Pos.aL])
    rw [fu] at this; simpa using this
theorem V3 (t : TypeId) (x : Operand) : cV P tt (.box t x) := by
  intro ρ C st w k xs cls fr a o vs res ho hc hW hF hx hr
  simp only [fS] at hc
  split at hc <;> first | (cases hc; done) | skip
  rename_i b hb
  cases hc
  obtain ⟨v, rfl, hv⟩ := fU hb hF hx
  simp only [aE.run, Gm, Option.some.injEq] at hr; subst hr
  have uj := hv.cells
  have hl : v.cells.length = (a.eval x).cells.size := by simpa using uj.1
  obtain ⟨ρ', aY, fu, fV, hE⟩ := vr (w' := w.alloc (.cells (a.eval x).cells t)) (o := .cells (a.eval x).cells t) (x0 := .cells v.cells 0) (base := 0) (size := (a.eval x).cells.size) hW none rfl rfl rfl rfl (fun ρ' n' aY hn =>
    qb (w' := w.alloc (.cells (a.eval x).cells t)) (e := t) (fr := (0, 0)) (by show (w.heap.push _)[w.heap.size]? = _; simp) (by omega) (by rw [hl, List.take_of_length_le (by simp)]; exact uj.mono aY hn) (fun i _ => by simp))
  refine ⟨_, .pointer (some ⟨w.heap.size, 0, none⟩), _, ρ', ?_, Yields.value _, aY, fV, ?_, hE⟩
  . simp [execOp, ho, Instr.box, newVar, newRow]
  . have := ax.ptr (ρ := ρ') (n := (st.aN none none (some (.cells v.cells 0))).next.toNat) (C := C) st.next 0 (by simp [St.aN, Pos.aL])
    rw [fu] at this; simpa using this
theorem zu {n : Nat} {z : List AV} {zs : List Value} (h : ay ρ n C z zs) : ∀ m, ay ρ n C (cv z m) (cv zs m)
  | 0 => ay.nil
  | m + 1 => h.append (zu h m)
theorem iH {α : Type} (z : List α) : ∀ m, (cv z m).length = m * z.length
  | 0 => by simp [cv]
  | m + 1 => by simp [cv, iH z m, Nat.add_mul, Nat.add_comm]
theorem EL {α : Type} (z : List α) : ∀ (m i : Nat), i < m * z.length -> (cv z m)[i]? = z[i % z.length]?
  | 0, i, h => by simp at h
  | m + 1, i, h => by
    simp only [cv]
    by_cases hi : i < z.length
    . rw [List.getElem?_append_left hi, Nat.mod_eq_of_lt hi]
    . have hi : z.length <= i := by omega
      rw [List.getElem?_append_right hi, EL z m _ (by rw [Nat.add_mul] at h; omega)]
      congr 1
      rw [<- Nat.mod_eq_sub_mod hi]
theorem KY (z : Array Value) (m : Nat) (hz : 0 < z.size) : ((Array.range (m * z.size)).map (z[· % z.size]!)).toList = cv z.toList m := by
  apply List.ext_getElem?
  intro i
  by_cases hi : i < m * z.size
  . rw [EL _ _ _ (by simpa using hi)]
    have bD : i % z.size < z.size := Nat.mod_lt _ hz
    simp [hi, bD]
  . rw [List.getElem?_eq_none (by simp; omega), List.getElem?_eq_none (by rw [iH]; simp; omega)]
theorem vt {ρ' : Pos -> Loc} {b : Pos} {n g len es aU size : Nat} {cap : Option Nat} (hb : b.toNat < n) (aY : ρ' b = ⟨g, 0, size⟩) (hl : len <= aU) (hc : ∀ c, cap = some c -> c = aU) (hs : aU * es <= size) :
    ax ρ' n C (.slice b 0 len cap es) (.slice (some ⟨g, 0, none⟩) len aU) :=
  .slice _ _ _ _ _ _ _ hl hc (fun _ => ⟨hb, by rw [aY], by rw [aY]; simpa using hs⟩) (fun _ => hb)
theorem Gx {z : List AV} {zv : Value} {n m size : Nat} (uj : ay ρ n C z zv.cells.toList) (hl : z.length = size) :
    ay ρ n C (cv z m) ((Array.range (m * size)).map ((if m * size = 0 then (#[] : Array Value) else zv.cells)[· % (if m * size = 0 then (#[] : Array Value) else zv.cells).size]!)).toList /\
    ((Array.range (m * size)).map ((if m * size = 0 then (#[] : Array Value) else zv.cells)[· % (if m * size = 0 then (#[] : Array Value) else zv.cells).size]!)).size = m * size := by
  refine ⟨?_, by simp⟩
  by_cases h0 : m * size = 0
  . have : cv z m = [] := by apply List.eq_nil_of_length_eq_zero; rw [iH, hl]; exact h0
    rw [this]
    have : (Array.range (m * size)) = #[] := by rw [h0]; rfl
    rw [this]; simpa using (ay.nil : ay ρ n C [] [])
  . rw [if_neg h0]
    have Vh : zv.cells.size = size := by have := uj.1; simp at this; omega
    have Pc : 0 < zv.cells.size := by
      rw [Vh]; rcases Nat.eq_zero_or_pos size with h | h
      . rw [h] at h0; simp at h0
      . exact h
    have := KY zv.cells m Pc
    rw [Vh] at this ⊢
    rw [this]
    exact zu uj m
theorem V4 {k : IntKind} {i : Int} (h1 : uf k <= i) (h2 : i <= N0 k) : k.wrap i = i := by
  rw [<- p9]
  unfold aM
  split
  . split
    . rfl
    . exact absurd h2 (by assumption)
  . exact absurd h1 (by assumption)
theorem KZ {j : Nat} (h : j <= 9223372036854775807) : IntKind.i64.wrap (j : Int) = (j : Int) := V4 (by simp only [uf]; omega) (by simp only [N0]; omega)
theorem Nv (hT : cG P tt) (t : TypeId) (l c : Operand) : cV P tt (.makeSlice t l c) := by
  intro ρ C st w k xs cls fr a o vs res ho hc hW hF hx hr
  simp only [fS] at hc
  split at hc <;> first | (cases hc; done) | skip
  rename_i ti l0 ez hl
  split at hc <;> first | (cases hc; done) | skip
  rename_i e hk
  split at hc <;> first | (cases hc; done) | skip
  rename_i te jN
  split at hc <;> first | (cases hc; done) | skip
  rename_i z hz
  cases hc
  obtain ⟨d, hd, cA⟩ := (hT.at ez).und
  rw [hk] at cA; rw [lD cA] at hd
  obtain ⟨i0, qa, nY, Vi, yN⟩ := (hT.at jN).info
  obtain ⟨u, v, rfl, h1, h2⟩ := Im hl hF hx
  simp only [aE.run, wq] at hr
  split at hr <;> first | (cases hr; done) | skip
  rename_i jl jc hjl hjc
  split at hr <;> first | (cases hr; done) | skip
  rename_i e1 e2 e3
  have e1 := Nat.le_of_ble_eq_true e1
  have e2 := Nat.le_of_ble_eq_true e2
  have e3 := Nat.le_of_ble_eq_true e3
  simp only [Option.some.injEq] at hr; subst hr
  obtain ⟨kl, hkl⟩ := iY h1 hjl
  obtain ⟨kc, hkc⟩ := iY h2 hjc
  obtain ⟨zv0, hzv0, _, Gy, _⟩ := yN z hz
  obtain ⟨zv, Co, _, uj⟩ := uD hT jN hz (ρ := ρ) (n := st.next.toNat) (C := C) w
  obtain ⟨C6, Io⟩ := Gx (m := jc) uj Gy
  generalize iA : (Array.range (jc * te.size)).map ((if jc * te.size = 0 then (#[] : Array Value) else zv.cells)[· % (if jc * te.size = 0 then (#[] : Array Value) else zv.cells).size]!) = row at C6 Io
  obtain ⟨ρ', aY, fu, fV, hE⟩ := vr (w' := w.alloc (.cells row e)) (o := .cells row e) (x0 := .cells (cv z jc) 0) (base := 0) (size := row.size) hW none rfl rfl rfl rfl (fun ρ' n' aY hn =>
    qb (w' := w.alloc (.cells row e)) (e := e) (fr := (0, 0)) (by show (w.heap.push _)[w.heap.size]? = _; simp) (by rw [iH, Io, Gy]; exact Nat.le_refl _)
      (by rw [iH, Gy, <- Io, <- Array.length_toList, List.take_length]; exact C6.mono aY hn) (fun i _ => by simp))
  refine ⟨_, .slice (some ⟨w.heap.size, 0, none⟩) jl jc, _, ρ', ?_, Yields.value _, aY, fV, ?_, hE⟩
  . have b7 := KZ (Nat.le_trans e1 e3)
    have gj := KZ e3
    have hb : ¬ ((te.bytes : Int) * (jc : Int) > 2 ^ 48) := by
      have h := Int.ofNat_le.2 e2
      rw [Int.natCast_mul] at h
      exact Int.not_lt.2 h
    have cH : (Instr.makeSlice t (.int kl jl) (.int kc jc)).run P w = .ok (.slice (some ⟨w.heap.size, 0, none⟩) jl jc) (w.alloc (.cells row e)) := by
      unfold Instr.makeSlice
      simp only [Sem.run_bind, aO hd, Result.andThen_ok, asInt, asIntOf, Sem.run_pure, KP qa, b7, gj, Vi]
      have abT : ¬ ((decide ((jc : Int) < 0) || decide ((te.bytes : Int) * (jc : Int) > 2 ^ 48) || decide ((jl : Int) < 0) || decide ((jl : Int) > (jc : Int))) = true) := by
        simp only [Bool.or_eq_true, decide_eq_true_eq]
        rintro (((h | h) | h) | h)
        . omega
        . exact hb h
        . omega
        . omega
      rw [if_neg abT]
      simp only [Sem.run_bind, run_askRoom, Result.andThen_ok, iX qa, nY, Int.toNat_natCast]
      rw [<- iA]
      by_cases h0 : jc * te.size = 0
      . simp only [h0, if_true, Sem.run_bind, Sem.run_pure, Result.andThen_ok, newRow, run_newObj, World.alloc_eq]
      . simp only [h0, if_false, Sem.run_bind, Sem.run_pure, Result.andThen_ok, Co, newRow, run_newObj, World.alloc_eq]
    simp [execOp, ho, hkl, hkc, cH]
  . exact vt (by simp [St.aN, Pos.aL]) fu e1 (fun c hc => by cases hc; rfl) (by rw [Io]; exact Nat.le_refl _)
theorem Ip (hT : cG P tt) (t : TypeId) (len : Nat) (ps : Array (Nat × Operand)) : cV P tt (.buildSlice t len ps) := by
  intro ρ C st w k xs cls fr a o vs res ho hc hW hF hx hr
  simp only [fS] at hc
  split at hc <;> first | (cases hc; done) | skip
  rename_i ti l0 ez hl
  split at hc <;> first | (cases hc; done) | skip
  rename_i e hk
  split at hc <;> first | (cases hc; done) | skip
  rename_i te jN
  split at hc <;> first | (cases hc; done) | skip
  rename_i z hz hlim
  have hlim := Nat.le_of_ble_eq_true hlim
  cases hc
  obtain ⟨d, hd, cA⟩ := (hT.at ez).und
  rw [hk] at cA; rw [lD cA] at hd
  obtain ⟨i0, qa, nY, Vi, yN⟩ := (hT.at jN).info
  have hv := fT hl hF hx
  simp only [aE.run, oI] at hr
  split at hr <;> first | (cases hr; done) | skip
  rename_i cs wA
  simp only [Option.some.injEq] at hr; subst hr
  obtain ⟨zv0, hzv0, _, Gy, _⟩ := yN z hz
  obtain ⟨zv, Co, _, uj⟩ := uD hT jN hz (ρ := ρ) (n := st.next.toNat) (C := C) w
  obtain ⟨C6, Io⟩ := Gx (m := len) uj Gy
  generalize iA : (Array.range (len * te.size)).map ((if len * te.size = 0 then (#[] : Array Value) else zv.cells)[· % (if len * te.size = 0 then (#[] : Array Value) else zv.cells).size]!) = row at C6 Io
  have Ob : (ps.map fun (i, x) => (i, a.eval x)).toList = ps.toList.map fun x => (x.1, a.eval x.2) := by simp
  obtain ⟨lK, e1, e2⟩ := Fk (fun i => some (i * te.size, te.size)) wA C6 (ps := ps.toList.map fun x => (x.1, a.eval x.2)) (by simpa [List.map_map, Function.comp_def] using hv) (by simp [List.map_map, Function.comp_def])
  have hlen : cs.length = lK.size := by simpa using e2.1
  have abU : ∀ {pp : List (Nat × Nat)} {vs cells r : List AV}, cL cells pp vs = some r -> r.length = cells.length := by
    intro pp
    induction pp with
    | nil => intro vs cells r h; unfold cL at h; split at h <;> first | (cases h; done) | (simp only [Option.some.injEq] at h; subst h; rfl) | (rename_i hh; cases hh)
    | cons p pp ih =>
      intro vs cells r h
      unfold cL at h
      split at h <;> first | (cases h; done) | (rename_i hh; cases hh; done) | skip
      rename_i hh
      simp only [List.cons.injEq] at hh
      obtain ⟨rfl, rfl⟩ := hh
      split at h <;> first | (cases h; done) | skip
      rename_i g1 g2
      have g1 := Nat.eq_of_beq_eq_true g1
      have g2 := Nat.le_of_ble_eq_true g2
      rw [ih h]; simp [bg]; omega
  have hcsl := abU wA
  rw [iH, Gy] at hcsl
  obtain ⟨ρ', aY, fu, fV, hE⟩ := vr (w' := w.alloc (.cells lK e)) (o := .cells lK e) (x0 := .cells cs 0) (base := 0) (size := lK.size) hW none rfl rfl rfl rfl (fun ρ' n' aY hn =>
    qb (w' := w.alloc (.cells lK e)) (e := e) (fr := (0, 0)) (by show (w.heap.push _)[w.heap.size]? = _; simp) (by omega)
      (by rw [hlen, <- Array.length_toList, List.take_length]; exact e2.mono aY hn) (fun i _ => by simp))
  refine ⟨_, .slice (some ⟨w.heap.size, 0, none⟩) len len, _, ρ', ?_, Yields.value _, aY, fV, ?_, hE⟩
  . have cH : (Instr.buildSlice t len (ps.map fun (i, x) => (i, a.eval x))).run P w = .ok (.slice (some ⟨w.heap.size, 0, none⟩) len len) (w.alloc (.cells lK e)) := by
      unfold Instr.buildSlice
      simp only [Sem.run_bind, aO hd, Result.andThen_ok, iX qa, nY]
      rw [if_neg (by omega)]
      by_cases h0 : len * te.size = 0
      . simp only [h0, if_true, Sem.run_bind, Sem.run_pure, Result.andThen_ok]
        simp only [h0, if_true] at iA
        rw [iA, Ob, e1]
        simp only [newRow, Sem.run_bind, run_newObj, World.alloc_eq, Result.andThen_ok, Sem.run_pure]
      . simp only [h0, if_false, Sem.run_bind, Sem.run_pure, Result.andThen_ok, Co]
        simp only [h0, if_false] at iA
        rw [iA, Ob, e1]
        simp only [newRow, Sem.run_bind, run_newObj, World.alloc_eq, Result.andThen_ok, Sem.run_pure]
    simp only [execOp, ho, Sem.run_bind]
    rw [cH]; rfl
  . exact vt (by simp [St.aN, Pos.aL]) fu (Nat.le_refl _) (fun c hc => by cases hc; rfl) (by omega)
theorem Qv (t : TypeId) (r : Option Operand) (hT : cG P tt) : cV P tt (.makeMap t r) := by
  intro ρ C st w k xs cls fr a o vs res ho hc hW hF hx hr
  have key : k = .mkMap /\ (execOp a.eval o).run P w = .ok (.value (.map (some w.heap.size))) (w.alloc (.map #[] 0)) := by
    simp only [fS] at hc
    split at hc <;> first | (cases hc; done) | skip
    rename_i ti ez
    obtain ⟨d, hd, cA⟩ := (hT.at ez).und
    split at hc <;> first | (cases hc; done) | skip
    . cases hc
      exact ⟨rfl, by simp [execOp, ho, Instr.makeMap]⟩
    . rename_i hk
      rw [hk] at cA; rw [CX cA] at hd
      cases hc
      exact ⟨rfl, by simp [execOp, ho, Instr.makeMap, aO hd, Act.eval, asInt, asIntOf]⟩
  obtain ⟨rfl, cH⟩ := key
  simp only [aE.run, AP, Option.some.injEq] at hr; subst hr
  obtain ⟨ρ', aY, fu, fV, hE⟩ := vr (w' := w.alloc (.map #[] 0)) (o := .map #[] 0) (x0 := .map [] 0) (base := 0) (size := 0) hW none rfl rfl rfl rfl (fun ρ' n' aY hn =>
    ⟨#[], by show (w.heap.push _)[w.heap.size]? = _; simp, rfl, fun i e e' h => by simp at h⟩)
  refine ⟨_, _, _, ρ', cH, Yields.value _, aY, fV, ?_, hE⟩
  have := ax.map (ρ := ρ') (n := (st.aN none none (some (.map [] 0))).next.toNat) (C := C) st.next (by simp [St.aN, Pos.aL])
  rw [fu] at this; exact this
theorem Pd (hT : cG P tt) (t : TypeId) (x : Operand) : cV P tt (.range t x) := by
  intro ρ C st w k xs cls fr a o vs res ho hc hW hF hx hr
  simp only [fS] at hc
  split at hc <;> first | (cases hc; done) | skip
  rename_i ti b ez hb
  split at hc <;> first | (cases hc; done) | skip
  rename_i hk
  cases hc
  obtain ⟨d, hd, cA⟩ := (hT.at ez).und
  rw [hk] at cA; rw [lg cA] at hd
  obtain ⟨v, rfl, hv⟩ := fU hb hF hx
  simp only [aE.run, yD] at hr
  split at hr <;> first | (cases hr; done) | skip
  rename_i s
  simp only [Option.some.injEq] at hr; subst hr
  obtain ⟨bs, he, hs⟩ := hv.dZ
  obtain ⟨ρ', aY, fu, fV, hE⟩ := vr (w' := w.alloc (.stringIter bs 0)) (o := .stringIter bs 0) (x0 := .j8 s 0) (base := 0) (size := 0) hW none rfl rfl rfl rfl (fun ρ' n' aY hn =>
    ⟨bs, by show (w.heap.push _)[w.heap.size]? = _; simp, hs, rfl⟩)
  refine ⟨_, .pointer (some ⟨w.heap.size, 0, none⟩), _, ρ', ?_, Yields.value _, aY, fV, ?_, hE⟩
  . simp [execOp, ho, he, Instr.range, aO hd]
  . have := ax.ptr (ρ := ρ') (n := (st.aN none none (some (.j8 s 0))).next.toNat) (C := C) st.next 0 (by simp [St.aN, Pos.aL])
    rw [fu] at this; simpa using this
theorem J0 (hT : cG P tt) (src dst : TypeId) (x : Operand) (hb : ∃ xs cls, fS tt (.convert src dst x) = some (.conv .bytes, xs, cls)) : cV P tt (.convert src dst x) := by
  intro ρ C st w k xs cls fr a o vs res ho hc hW hF hx hr
  obtain ⟨_, _, gw⟩ := hb
  rw [hc] at gw
  simp only [Option.some.injEq, Prod.mk.injEq] at gw
  obtain ⟨rfl, _⟩ := gw
  simp only [fS] at hc
  split at hc <;> first | (cases hc; done) | skip
  rename_i s d b hs hd hb
  obtain ⟨ds, Gu, Gv⟩ := (hT.at hs).und
  obtain ⟨dd, hdd, cA⟩ := (hT.at hd).und
  split at hc <;> first | (cases hc; done) | skip
  . rename_i e h1 h2
    split at hc <;> first | (cases hc; done) | skip
    rename_i te jN
    split at hc <;> first | (cases hc; done) | skip
    rename_i hk8
    cases hc
    rw [h1] at Gv; rw [h2] at cA
    rw [lg Gv] at Gu; rw [lD cA] at hdd
    obtain ⟨de, Qn, Qo⟩ := (hT.at jN).und
    rw [hk8] at Qo; rw [zW Qo] at Qn
    obtain ⟨v, rfl, hv⟩ := fU hb hF hx
    simp only [aE.run, uv] at hr
    split at hr <;> first | (cases hr; done) | (rename_i heq; cases heq; done) | (rename_i heq; cases heq)
    rename_i u
    simp only [Option.some.injEq] at hr; subst hr
    obtain ⟨bs, he, hs⟩ := hv.dZ
    have cH := run_bytes_of_string (P := P) w src dst e bs Gu hdd Qn
    have C4 : bs.size <= grownCap w bs.size 0 e := by unfold grownCap Question.cut; exact Nat.le_add_right _ _
    generalize grownCap w bs.size 0 e = cap at cH C4
    have gO : (bytesRow bs cap).size = cap := by
      have : bs.data.size = bs.size := rfl
      simp [bytesRow, this]; omega
    have hul : u.length = bs.size := (rX hs).symm
    have hrel : ∀ ρ' n', ay ρ' n' C (u.map fun c => AV.int .u8 (.ofNat c)) ((bytesRow bs cap).toList.take (u.map fun c => AV.int .u8 (.ofNat c)).length) := by
      intro ρ' n'
      have h1 : (bytesRow bs cap).toList.take (u.map fun c => AV.int .u8 (.ofNat c)).length = u.map fun c => Value.int .u8 (.ofNat c) := by
        have hdl : bs.data.toList.length = bs.size := by simp
        rw [List.length_map, hul]
        simp only [bytesRow, Array.toList_append, Array.toList_map]
        rw [List.take_left' (by simp), <- hs, List.map_map]
        rfl
      rw [h1]
      refine ⟨by simp, fun i v x hv hx => ?_⟩
      simp only [List.getElem?_map, Option.map_eq_some_iff] at hv hx
      obtain ⟨c, hc, rfl⟩ := hv
      obtain ⟨c', vX, rfl⟩ := hx
      rw [hc] at vX; cases vX
      exact .int _ _
    obtain ⟨ρ', aY, fu, fV, hE⟩ := vr (w' := w.drew.alloc (.cells (bytesRow bs cap) e ((bytesRow bs cap).size, (bytesRow bs cap).size + 1))) (o := .cells (bytesRow bs cap) e ((bytesRow bs cap).size, (bytesRow bs cap).size + 1))
      (x0 := .cells (u.map fun c => AV.int .u8 (.ofNat c)) 0) (base := 0) (size := (bytesRow bs cap).size) hW none rfl rfl rfl rfl (fun ρ' n' aY hn =>
      qb (e := e) (fr := ((bytesRow bs cap).size, (bytesRow bs cap).size + 1)) (by show (w.heap.push _)[w.heap.size]? = _; simp) (by rw [List.length_map, hul, gO]; exact C4) (hrel _ _) (fun i hi => by simp; omega))
    refine ⟨_, .slice (some ⟨w.heap.size, 0, none⟩) u.length cap, _, ρ', ?_, Yields.value _, aY, fV, ?_, hE⟩
    . simp only [execOp, ho, he, Sem.run_bind]
      rw [cH, hul]; rfl
    . exact vt (by simp [St.aN, Pos.aL]) fu (by omega) (fun c hc => by cases hc) (by omega)
  . split at hc <;> first | (cases hc; done) | skip
    split at hc <;> first | (cases hc; done) | skip
end
end Go.Ai
end
section
namespace Go.Ai
open Go Go.RowKit
section
variable {P : Program} {tt : TT} {ρ : Pos -> Loc} {C : Cells} {st : St} {w w' : World}
theorem A5 {n : Nat} : ∀ {l : List AV} {ys : List Value}, cY l = true -> ay ρ n C l ys -> ∀ y ∈ ys, y.oneCell' = true
  | [], ys, _, h => by have := h.o4; subst this; simp
  | v :: l, ys, h1, h => by
    unfold cY at h1
    split at h1 <;> first | (cases h1; done) | skip
    rename_i ho
    obtain ⟨y, ys', rfl, hv, hs⟩ := h.cons_inv
    intro z hz
    simp at hz
    rcases hz with rfl | hz
    . cases hv <;> first | rfl | (simp [AV.one] at ho; done)
    . exact A5 h1 hs z hz
theorem wB {α : Type} (l : List α) {i : Nat} (vs : List α) (hi : i <= l.length) (k : Nat) : (bg l i vs)[k]? = if k < i then l[k]? else if k < i + vs.length then vs[k - i]? else l[k]? := by
  unfold bg
  have hl : (l.take i).length = i := by simp; omega
  split
  . rename_i h; rw [List.getElem?_append_left (by omega), List.getElem?_take, if_pos h]
  . rename_i h
    rw [List.getElem?_append_right (by omega), hl]
    split
    . rename_i h'; rw [List.getElem?_append_left (by omega)]
    . rename_i h'
      rw [List.getElem?_append_right (by omega), List.getElem?_drop]
      congr 1; omega
theorem EM {α : Type} (l : List α) (b off : Nat) (vs : List α) (h : b + off <= l.length) : (bg l (b + off) vs).drop b = bg (l.drop b) off vs := by
  apply List.ext_getElem?
  intro k
  rw [List.getElem?_drop, wB l vs h, wB (l.drop b) vs (by simp; omega), List.getElem?_drop]
  by_cases h1 : k < off
  . rw [if_pos (by omega), if_pos h1]
  . rw [if_neg (by omega), if_neg h1]
    by_cases h2 : k < off + vs.length
    . rw [if_pos (by omega), if_pos h2]; congr 1; omega
    . rw [if_neg (by omega), if_neg h2]
theorem Nw {α : Type} (l : List α) (off m : Nat) (vs : List α) (h : off + vs.length <= m) (h' : m <= l.length) : (bg l off vs).take m = bg (l.take m) off vs := by
  apply List.ext_getElem?
  intro k
  rw [List.getElem?_take, wB l vs (by omega), wB (l.take m) vs (by simp; omega), List.getElem?_take]
  by_cases h1 : k < off
  . rw [if_pos (by omega), if_pos h1, if_pos h1, if_pos (by omega)]
  . by_cases h2 : k < off + vs.length
    . rw [if_pos (by omega), if_neg h1, if_pos h2, if_neg h1, if_pos h2]
    . rw [if_neg h1, if_neg h2, if_neg h1, if_neg h2]
theorem A6 (hW : cw ρ C st w) {b : Pos} {cs vs : List AV} {fz off : Nat} {ys : List Value} (hb : st.heap.get b = some (.cells cs fz)) (hle : off + vs.length <= cs.length) (Qg : fz <= off)
    (h1 : cY vs = true) (hv : ay ρ st.next.toNat C vs ys) :
    ∃ w', (storeCells ⟨(ρ b).aF, (ρ b).base + off, none⟩ ys).run P w = .ok () w' /\ cw ρ C (st.aN none (some (b, .cells (bg cs off vs) fz)) none) w' /\ ny ρ st w ρ (st.aN none (some (b, .cells (bg cs off vs) fz)) none) w' := by
  obtain ⟨_, _, c, e, fr, g1, g2, g3, g4, g5⟩ := hW.live b _ hb
  have hl : vs.length = ys.length := hv.1
  obtain ⟨w', e1, e2, e3, e4, e5, e6, e7⟩ := pg (P := P) (ρ b).aF e fr ys 0 ((ρ b).base + off) c w g1 (by omega) (A5 h1 hv) (fun k hk ug => by
    have := g5 (k - (ρ b).base) (by omega) (by omega)
    rwa [show (ρ b).base + (k - (ρ b).base) = k from by omega] at this)
  simp only [Nat.add_zero] at e1 e2
  refine ⟨w', e1, ?_⟩
  have hlen : (bg cs off vs).length = cs.length := by simp [bg]; omega
  refine KX hW hb e5 e6 e7 e3 e4 ⟨_, e, fr, e2, ?_, ?_, ?_, fun i hi hi' => g5 i hi ?_⟩
  . simp [bg]; omega
  . rw [hlen]; simp [bg]; omega
  . rw [hlen]
    rw [EM _ _ _ _ (by simp; omega), Nw _ _ _ _ (by omega) (by simp; omega)]
    exact g4.bg hv off
  . simp [bg] at hi'; omega
theorem ax.uE {n : Nat} : ax ρ n C .undef undef := .tuple [] #[] rfl (fun _ _ _ h => by simp at h)
theorem Qw (hT : cG P tt) (t : TypeId) (x y : Operand) : cV P tt (.store t x y) := by
  intro ρ C st w k xs cls fr a o vs res ho hc hW hF hx hr
  simp only [fS] at hc
  split at hc <;> first | (cases hc; done) | skip
  rename_i ti l ez hl
  cases hc
  obtain ⟨p, v, rfl, h1, h2⟩ := Im hl hF hx
  obtain ⟨i0, qa, nY, _⟩ := (hT.at ez).info
  simp only [aE.run, w8] at hr
  split at hr <;> first | (cases hr; done) | skip
  rename_i b off
  split at hr <;> first | (cases hr; done) | skip
  rename_i cs fz hb
  split at hr <;> first | (cases hr; done) | skip
  rename_i e1 e2 e3 e4
  have e1 := Nat.eq_of_beq_eq_true e1
  have e2 := Nat.le_of_ble_eq_true e2
  have e3 := Nat.le_of_ble_eq_true e3
  simp only [Option.some.injEq] at hr; subst hr
  obtain ⟨_, he⟩ := h1.mo
  have hc := h2.cells
  obtain ⟨w', cH, fV, hE⟩ := A6 (P := P) hW hb (by omega) e3 e4 hc
  refine ⟨.skip, undef, w', ρ, ?_, .inr ⟨rfl, rfl⟩, fun _ _ => rfl, fV, ax.uE, hE⟩
  have gO : (a.eval y).cells.size = ti.size := by have := hc.1; simp at this; omega
  simp [execOp, ho, he, Instr.storeAt, Instr.sureAddr, storeVar, iX qa, nY, gO, cH]
theorem run_setObj_map {r : Nat} {es : Array MapEntry} {c : Nat} {o : Obj} {w : World} (h : w.heap[r]? = some (.map es c)) : (setObj r o).run P w = .ok () { w with heap := w.heap.setIfInBounds r o } := by
  simp [setObj, Sem.run, h]
theorem Gz (hW : cw ρ C st w) {b : Pos} {es : List (AV × AV × Nat)} {clock : Nat} (hb : st.heap.get b = some (.map es clock)) {EN : List (AV × AV × Nat)} {Pe : Array MapEntry} {Ab : Nat}
    (hE : yM ρ st.next.toNat C EN Pe.toList) :
    cw ρ C (st.aN none (some (b, .map EN Ab)) none) { w with heap := w.heap.setIfInBounds (ρ b).aF (.map Pe Ab) } /\ ny ρ st w ρ (st.aN none (some (b, .map EN Ab)) none) { w with heap := w.heap.setIfInBounds (ρ b).aF (.map Pe Ab) } := by
  have bD := (hW.live b _ hb).2.1
  refine KX hW hb rfl rfl rfl (by simp) (fun k hk => by simp [Array.getElem?_setIfInBounds_ne (Ne.symm hk)]) ⟨Pe, by simp [bD], by simpa using hE.1, fun i e e' h1 h2 => hE.2 i e e' h1 (by simpa using h2)⟩
theorem Fl {n : Nat} {pk : PK} {u v : AV} {x y : Value} (h1 : ax ρ n C u x) (h2 : ax ρ n C v y) (h : uu pk u v = some true) (m : Nat) : Instr.sameBits m y x = true := by
  unfold uu at h
  split at h <;> first | (cases h; done) | skip
  . simp only [Option.some.injEq] at h
    rw [h1.iz, h2.iz]
    rename_i p q
    have : p = q := by simpa using h
    subst this
    cases m <;> simp [Instr.sameBits]
  . split at h <;> first | (cases h; done) | skip
    rename_i yJ
    have := sA yJ; subst this
    simp only [Option.some.injEq, lH] at h
    rw [h1.js, h2.js]
    rename_i p q _
    have : p = q := by simpa using h
    subst this
    cases m <;> simp [Instr.sameBits]
  . simp only [Option.some.injEq] at h
    obtain ⟨bx, rfl, e1⟩ := h1.dZ
    obtain ⟨bz, rfl, e2⟩ := h2.dZ
    have : bz == bx := by rw [beq_toListBytes, zZ e2 e1, kM]; exact (kM.1 h).symm
    cases m <;> simpa [Instr.sameBits] using this
theorem Jb {pk : PK} {u : AV} : ∀ {es : List (AV × AV × Nat)} {i j : Nat} {v : AV}, iV pk u es i = some (some (j, v)) -> ∃ e, i <= j /\ es[j - i]? = some e /\ uu pk u e.1 = some true
  | [], i, j, v, h => by simp [iV] at h
  | (k', v', born) :: es, i, j, v, h => by
    unfold iV at h
    split at h <;> first | (cases h; done) | skip
    . rename_i hq
      simp only [Option.some.injEq, Prod.mk.injEq] at h
      obtain ⟨rfl, _⟩ := h
      exact ⟨(k', v', born), Nat.le_refl _, by simp, hq⟩
    . obtain ⟨e, h1, h2, h3⟩ := Jb h
      refine ⟨e, by omega, ?_, h3⟩
      rw [show j - i = (j - (i + 1)) + 1 from by omega]
      simpa using h2
theorem C7 (k v : AV) : ∀ (es : List (AV × AV × Nat)) (i j : Nat), (mQ k v es i)[j]? = if j = i then (es[i]?).map (fun e => (k, v, e.2.2)) else es[j]?
  | [], i, j => by cases i <;> cases j <;> simp [mQ]
  | (a, b, born) :: es, 0, j => by cases j <;> simp [mQ]
  | e :: es, i + 1, j => by
    cases j with
    | zero => simp [mQ]
    | succ j => simp [mQ, C7 k v es i j]
theorem GC (hT : cG P tt) (op : Op) (t : TypeId) (m k0 v0 : Operand) (K5 : op = .mapUpdate t m k0 v0 \/ op = .insert t m k0 v0) : cV P tt op := by
  intro ρ C st w k xs cls fr a o vs res ho hc hW hF hx hr
  have hc : fS.O0 tt t m k0 v0 = some (k, xs, cls) := by rcases K5 with rfl | rfl <;> simpa only [fS] using hc
  have hex : (execOp a.eval o).run P w = ((Instr.mapUpdate t (a.eval m) (a.eval k0) (a.eval v0)).run P w).andThen fun _ w => .ok .skip w := by
    rcases K5 with rfl | rfl <;> simp [execOp, ho]
  unfold fS.O0 at hc
  split at hc <;> first | (cases hc; done) | skip
  rename_i ti l ez hl
  split at hc <;> first | (cases hc; done) | skip
  rename_i kt et hk
  split at hc <;> first | (cases hc; done) | skip
  rename_i tk Qp
  obtain ⟨d, hd, cA⟩ := (hT.at ez).und
  rw [hk] at cA; rw [CX cA] at hd
  obtain ⟨dk, I9, yJ⟩ := (hT.at Qp).und
  have key : ∃ pk, k = .mapSet pk /\ xs = l /\ pk.fits dk = true := by
    split at hc <;> first | (cases hc; done) | skip
    all_goals
      rename_i h1
      cases hc
      refine ⟨_, rfl, rfl, Vg tk.k yJ ?_⟩
    . exact .inr (.inl ⟨⟨_, h1⟩, rfl⟩)
    . exact .inr (.inr ⟨h1, rfl⟩)
    . exact .inl ⟨h1, rfl⟩
  obtain ⟨pk, rfl, rfl, zq⟩ := key
  obtain ⟨mm, kk, vv, rfl, h1, h2, h3⟩ := Z9 hl hF hx
  have Oa : ∀ e w, (Instr.checkKey e 10000 kt (a.eval k0)).run P w = .ok () w := fun e w => Aa I9 zq e 9999 _ w
  simp only [aE.run, sr] at hr
  split at hr <;> first | (cases hr; done) | skip
  rename_i b
  split at hr <;> first | (cases hr; done) | skip
  rename_i es clock hb
  obtain ⟨_, he⟩ := h1.uC
  obtain ⟨_, _, bR, gG, hlen, mj⟩ := hW.live _ _ hb
  have hE : yM ρ st.next.toNat C es bR.toList := ⟨by simpa using hlen, fun i e e' h1 h2 => mj i e e' h1 (by simpa using h2)⟩
  split at hr <;> first | (cases hr; done) | skip
  . rename_i i v hpk hf
    simp only [Option.some.injEq] at hr; subst hr
    obtain ⟨r', Oc, jX⟩ := vq zq h2 hE hf
    rcases jX with ⟨e1, _⟩ | ⟨j', v', y, e1, e2, e3, _, e5⟩
    . cases e1
    . cases e1; subst e2
      obtain ⟨e, _, Vj, hek⟩ := Jb hf
      rw [Nat.sub_zero] at Vj
      have hi : i < bR.size := by omega
      have Pg : bR[i]? = some bR[i] := Array.getElem?_eq_getElem hi
      have hkey := (mj i e bR[i] Vj Pg).1
      have hsb := Fl h2 hkey hek 10000
      have hE2 : yM ρ st.next.toNat C (mQ kk vv es i) (bR.modify i fun e => { e with key := a.eval k0, val := a.eval v0 }).toList := by
        refine ⟨?_, fun j e e' g1 g2 => ?_⟩
        . have Qx : ∀ (es : List (AV × AV × Nat)) (i : Nat), (mQ kk vv es i).length = es.length := by
            intro es
            induction es with
            | nil => intro i; cases i <;> rfl
            | cons e es ih => intro i; cases i with
              | zero => obtain ⟨a, b, c⟩ := e; rfl
              | succ i => simp [mQ, ih i]
          rw [Qx]; simpa using hlen
        . rw [C7] at g1
          simp only [Array.getElem?_toList, Array.getElem?_modify] at g2
          by_cases hji : j = i
          . subst hji
            rw [if_pos rfl, Vj] at g1
            simp [Pg] at g1 g2
            subst g1; subst g2
            exact ⟨h2, h3, (mj j e bR[j] Vj Pg).2.2⟩
          . rw [if_neg hji] at g1
            rw [if_neg (fun e => hji e.symm)] at g2
            exact mj j e e' g1 g2
      obtain ⟨fV, Qy⟩ := Gz hW hb (Ab := clock) hE2
      refine ⟨.skip, undef, _, ρ, ?_, .inr ⟨rfl, rfl⟩, fun _ _ => rfl, fV, ax.uE, Qy⟩
      rw [hex]
      simp only [Instr.mapUpdate, Sem.run_bind, aO hd, Result.andThen_ok, he, run_getObj_map gG, Oa, run_findKey I9 Oc, Pg, Option.map_some, Option.getD_some, Instr.keyThatStays, hsb, if_true, Sem.run_pure, run_setObj_map gG]
  . rename_i hpk hf
    simp only [Option.some.injEq] at hr; subst hr
    obtain ⟨r', Oc, jX⟩ := vq zq h2 hE hf
    rcases jX with ⟨_, e2⟩ | ⟨j', v', y, e1, _⟩
    . subst e2
      have hE2 : yM ρ st.next.toNat C (es ++ [(kk, vv, clock)]) (bR.push { key := a.eval k0, val := a.eval v0, born := clock }).toList := by
        refine ⟨by simp [hlen], fun j e e' g1 g2 => ?_⟩
        simp only [Array.toList_push] at g2
        rcases Nat.lt_or_ge j es.length with hj | hj
        . rw [List.getElem?_append_left hj] at g1
          rw [List.getElem?_append_left (by simp; omega)] at g2
          exact mj j e e' g1 (by simpa using g2)
        . rw [List.getElem?_append_right hj] at g1
          rw [List.getElem?_append_right (by simp; omega)] at g2
          have : j - es.length = 0 := by
            have := (List.getElem?_eq_some_iff.1 g1).1; simp at this; omega
          rw [this] at g1
          have : j - bR.toList.length = 0 := by simp; omega
          rw [this] at g2
          simp at g1 g2
          subst g1; subst g2
          exact ⟨h2, h3, rfl⟩
      obtain ⟨fV, Qy⟩ := Gz hW hb (Ab := clock + 1) hE2
      refine ⟨.skip, undef, _, ρ, ?_, .inr ⟨rfl, rfl⟩, fun _ _ => rfl, fV, ax.uE, Qy⟩
      rw [hex]
      simp only [Instr.mapUpdate, Sem.run_bind, aO hd, Result.andThen_ok, he, run_getObj_map gG, Oa, run_findKey I9 Oc, run_setObj_map gG]
    . cases e1
theorem Qz (it : Operand) (isS : Bool) : cV P tt (.next it isS) := by
  intro ρ C st w k xs cls fr a o vs res ho hc hW hF hx hr
  simp only [fS] at hc
  split at hc <;> first | (cases hc; done) | skip
  rename_i b hb
  cases hc
  obtain ⟨v, rfl, hv⟩ := fU hb hF hx
  simp only [aE.run, AQ] at hr
  split at hr <;> first | (cases hr; done) | skip
  rename_i bb
  split at hr <;> first | (cases hr; done) | skip
  rename_i s pos l9
  obtain ⟨_, he⟩ := hv.mo
  obtain ⟨_, _, bs, nc, hs, KB⟩ := hW.live _ _ l9
  have gO := rX hs
  have rW : (getObj (ρ bb).aF).run P w = .ok (.stringIter bs pos) w := by simp [getObj, Sem.run, nc]
  rw [KB] at he
  split at hr
  . rename_i bD
    have bD : pos < s.length := by simpa using bD
    split at hr <;> first | (cases hr; done) | skip
    rename_i c wd Fm
    simp only [Option.some.injEq] at hr; subst hr
    have AZ : pos < bs.size := by omega
    unfold N1 at Fm
    split at Fm <;> first | (cases Fm; done) | skip
    rename_i c' vX
    split at Fm <;> first | (cases Fm; done) | skip
    rename_i SN
    simp only [Option.some.injEq, Prod.mk.injEq] at Fm
    obtain ⟨rfl, rfl⟩ := Fm
    have SN : c' < 128 := by simpa using SN
    have hcb : (bs[pos]'AZ).toNat = c' := by
      rw [lF, <- hs, List.getElem?_map] at vX
      obtain ⟨b', cE, b6⟩ := Option.map_eq_some_iff.1 vX
      obtain ⟨hl, hbb'⟩ := List.getElem?_eq_some_iff.1 cE
      rw [<- b6, <- hbb']; rfl
    have Od := decode_ascii bs pos AZ (by rw [hcb]; exact SN)
    rw [hcb] at Od
    have uF : (setObj (ρ bb).aF (.stringIter bs (pos + 1))).run P w = .ok () { w with heap := w.heap.setIfInBounds (ρ bb).aF (.stringIter bs (pos + 1)) } := by simp [setObj, Sem.run, nc]
    have hltb := (hW.live _ _ l9).2.1
    obtain ⟨fV, Qy⟩ := KX (w' := { w with heap := w.heap.setIfInBounds (ρ bb).aF (.stringIter bs (pos + 1)) }) (x0 := .j8 s (pos + 1)) hW l9 rfl rfl rfl (by simp)
      (fun k hk => by simp [Array.getElem?_setIfInBounds_ne (Ne.symm hk)]) ⟨bs, by simp [hltb], hs, KB⟩
    refine ⟨.value (.tuple #[.bool true, goInt pos, .int .i32 (c' : Int)]), _, _, ρ, ?_, Yields.value _, fun _ _ => rfl, fV, ?_, Qy⟩
    . simp only [execOp, ho, he, Instr.next, Sem.run_bind, rW, Result.andThen_ok, AZ, if_true, Od, uF, Sem.run_pure]
    . exact .p7 (ay.cons (.bool true) (ay.cons (.int _ _) (ay.cons (.int _ _) ay.nil)))
  . rename_i bD
    have bD : ¬ pos < s.length := fun h => by
      have : Nat.blt pos s.length = true := by simpa using h
      rw [this] at bD; cases bD
    simp only [Option.some.injEq] at hr; subst hr
    have AZ : ¬ pos < bs.size := by omega
    refine .pure (x := .tuple #[.bool false]) ?_ (.p7 (ay.cons (.bool false) ay.nil))
    simp only [execOp, ho, he, Instr.next, Sem.run_bind, rW, Result.andThen_ok, AZ, if_false, Sem.run_pure]
end
end Go.Ai
end
section
namespace Go.Ai
open Go Go.RowKit
section
variable {P : Program} {tt : TT} {ρ : Pos -> Loc} {C : Cells} {st : St} {w w' : World}
theorem cw.of_heap (hW : cw ρ C st w) (h : w'.heap = w.heap) : cw ρ C st w' where
  live b x hb := let ⟨h1, h2, h3⟩ := hW.live b x hb; ⟨h1, by rw [h]; exact h2, h3.of_heap (by rw [h])⟩
  inj := hW.inj
  fD a v ha := let ⟨h1, h2⟩ := hW.fD a v ha; ⟨by unfold World.cell? at h1 ⊢; rw [h]; exact h1, h2⟩
theorem EO {es : Nat} : ∀ {xs : List (List AV)} (_h : ∀ (i : Nat) (cs : List AV), xs[i]? = some cs -> cs.length = es) (q : Nat) (v : AV),
    xs.flatten[q]? = some v -> ∃ cs, xs[q / es]? = some cs /\ cs[q % es]? = some v
  | [], _, q, v, hv => by simp at hv
  | c :: xs, h, q, v, hv => by
    have hc : c.length = es := h 0 c rfl
    have mZ : ∀ (i : Nat) (cs : List AV), xs[i]? = some cs -> cs.length = es := fun i cs hi => h (i + 1) cs (by simpa using hi)
    rw [List.flatten_cons] at hv
    rcases Nat.lt_or_ge q c.length with hq | hq
    . rw [List.getElem?_append_left hq] at hv
      refine ⟨c, ?_, ?_⟩
      . rw [Nat.div_eq_of_lt (by omega)]; rfl
      . rw [Nat.mod_eq_of_lt (by omega)]; exact hv
    . rw [List.getElem?_append_right hq] at hv
      obtain ⟨cs, h1, h2⟩ := EO mZ (q - c.length) v hv
      rw [hc] at hq h1 h2
      have Pc : 0 < es := by
        rcases Nat.eq_zero_or_pos es with h0 | h0
        . subst h0
          have hl := mZ _ _ h1
          have := (List.getElem?_eq_some_iff.1 h2).1
          omega
        . exact h0
      refine ⟨cs, ?_, ?_⟩
      . rw [Nat.div_eq_sub_div Pc hq]; simpa using h1
      . rw [Nat.mod_eq_sub_mod hq]; exact h2
theorem EP {es : Nat} : ∀ {xs : List (List AV)} (_h : ∀ (i : Nat) (cs : List AV), xs[i]? = some cs -> cs.length = es), xs.flatten.length = xs.length * es
  | [], _ => by simp
  | c :: xs, h => by
    have hc : c.length = es := h 0 c rfl
    rw [List.flatten_cons, List.length_append, EP (fun i cs hi => h (i + 1) cs (by simpa using hi)), hc, List.length_cons, Nat.add_mul]; omega
theorem om (hW : cw ρ C st w) {es m : Nat} {u : AV} {x : Value} {new : List AV} {k : Nat} (hu : ax ρ st.next.toNat C u x) (hk : eH u = some k) (hmk : m <= k) (h : eV es m (fun b => st.heap.get b) u = some new) (w2 : World) (gj : w2.heap = w.heap) :
    ∃ ys : List Value, (Builtin.firstCells es m x).run P w2 = .ok ys.toArray w2 /\ ay ρ st.next.toNat C new ys /\ (u = .av \/ new.length = m * es) := by
  have hW2 := hW.of_heap (w' := w2) gj
  unfold eV at h
  split at h
  . simp only [Option.some.injEq] at h; subst h
    rw [hu.gx]
    exact ⟨[], by simp [Builtin.firstCells], ay.nil, .inl rfl⟩
  . rename_i b off len cap bR
    simp only [eH, Option.some.injEq] at hk; subst hk
    obtain ⟨aa, aU, he, hle, _, ha⟩ := hu.eJ
    rw [he]
    split at h
    . rename_i h0
      have h0 := Nat.eq_of_beq_eq_true h0
      simp only [Option.some.injEq] at h; subst h
      exact ⟨[], by simp [Builtin.firstCells, h0, loadCells, loadCellsFrom], ay.nil, .inr (by simp [h0])⟩
    . rename_i h0
      have h0 := Nat.ne_of_beq_eq_false h0
      split at h <;> first | (cases h; done) | skip
      rename_i cs fz hb
      have hm : m ≠ 0 := by intro e; subst e; simp at h0
      obtain ⟨_, rfl, _⟩ := ha (by omega)
      obtain ⟨ys, h1, h2⟩ := hW2.loadCells (P := P) hb h
      exact ⟨ys, by simp only [Builtin.firstCells]; exact h1, h2, .inr (A0 h)⟩
  . rename_i xs bR
    simp only [eH, Option.some.injEq] at hk; subst hk
    split at h <;> first | (cases h; done) | skip
    rename_i K7 Oe
    have K7 := Nat.eq_of_beq_eq_true K7
    have Oe := Nat.le_of_ble_eq_true Oe
    subst K7
    simp only [Option.some.injEq] at h; subst h
    obtain ⟨aa, aU, cell, he, hle, qM, g1, g2, g3⟩ := hu.p8
    rw [he]
    have gG : ∀ (i : Nat) (cs : List AV), (xs.take m)[i]? = some cs -> cs.length = es := fun i cs hi => by
      rw [List.getElem?_take] at hi; split at hi
      . exact g1 i cs hi
      . cases hi
    have QA := EP gG
    rw [List.length_take, Nat.min_eq_left Oe] at QA
    have Vk : ∀ q v, (xs.take m).flatten[q]? = some v -> ∃ cs, xs[q / es]? = some cs /\ cs[q % es]? = some v := fun q v hv => by
      obtain ⟨cs, h1, h2⟩ := EO gG q v hv
      rw [List.getElem?_take] at h1; split at h1
      . exact ⟨cs, h1, h2⟩
      . cases h1
    refine ⟨(List.range (m * es)).map fun q => cell (q / es) (q % es), ?_, ⟨by simp [QA], fun q v y hv hy => ?_⟩, .inr QA⟩
    . simp only [Builtin.firstCells]
      refine run_loadCells w2 _ _ _ fun q hq => ?_
      have bD : q < (xs.take m).flatten.length := by rw [QA]; exact hq
      obtain ⟨cs, h1, h2⟩ := Vk q _ (List.getElem?_eq_getElem bD)
      have qM := qM (by intro e; rw [e] at h1; simp at h1)
      obtain ⟨ab, ao, asp⟩ := aa
      simp only at qM; subst qM
      have := (hW2.fD _ _ (g2 _ _ _ _ h1 h2)).1
      rw [nA]
      simp only at this
      rw [show ao + q = ao + q / es * es + q % es from by rw [Nat.add_assoc, Nat.mul_comm, Nat.div_add_mod]]
      exact this
    . obtain ⟨cs, h1, h2⟩ := Vk q v hv
      have hq : q < m * es := by rw [<- QA]; exact (List.getElem?_eq_some_iff.1 hv).1
      simp [hq] at hy
      subst hy
      exact g3 _ _ _ _ h1 h2
  . rename_i s
    simp only [eH, Option.some.injEq] at hk; subst hk
    split at h <;> first | (cases h; done) | skip
    rename_i K7 Oe
    have K7 := Nat.eq_of_beq_eq_true K7
    have Oe := Nat.le_of_ble_eq_true Oe
    subst K7
    simp only [Option.some.injEq] at h; subst h
    obtain ⟨bs, rfl, hs⟩ := hu.dZ
    refine ⟨(s.take m).map fun (c : Nat) => Value.int .u8 (.ofNat c), ?_, ⟨by simp, fun q v y hv hy => ?_⟩, .inr (by simp; omega)⟩
    . simp only [Builtin.firstCells, Sem.run_pure]
      congr 1
      apply Array.ext'
      simp only [Array.toList_map, ByteArray.data_extract, Array.toList_extract, List.extract, List.drop_zero, Nat.sub_zero]
      rw [<- hs, <- List.map_take, List.map_map]; rfl
    . simp only [List.getElem?_map, Option.map_eq_some_iff] at hv hy
      obtain ⟨c, hc, rfl⟩ := hv
      obtain ⟨c', vX, rfl⟩ := hy
      rw [hc] at vX; cases vX
      exact .int _ _
  . cases h
theorem K8 {n : Nat} {u : AV} {x : Value} {k : Nat} (hu : ax ρ n C u x) (hk : eH u = some k) : (Builtin.lenOf x).run P w = .ok k w := by
  unfold eH at hk
  split at hk <;> first | (cases hk; done) | skip
  all_goals simp only [Option.some.injEq] at hk; subst hk
  . rw [hu.gx]; rfl
  . obtain ⟨_, _, he, _⟩ := hu.eJ; rw [he]; rfl
  . obtain ⟨_, _, _, he, _⟩ := hu.p8; rw [he]; rfl
  . obtain ⟨bs, rfl, hs⟩ := hu.dZ; rw [<- rX hs]; rfl
theorem Jc (nl : Nat) : ∀ (r c : Nat), c <= nl + (nl + 768) / 4 -> Builtin.growBy nl r c <= nl + (nl + 768) / 4
  | 0, c, h => h
  | r + 1, c, h => by
    unfold Builtin.growBy
    split
    . exact h
    . exact Jc nl r _ (by omega)
theorem nextslicecap_le {Ph ic : Nat} (h : ic < Ph) : Builtin.nextslicecap Ph ic <= 2 * Ph + 768 := by
  unfold Builtin.nextslicecap
  split
  . omega
  . split
    . omega
    . have := Jc Ph 4 ic (by omega)
      omega
theorem Pj (hT : cG P tt) {t t2 e : Nat} {ts : Array TypeId} {ti Gp te : TI} (ez : tt.get (key t) = some ti) (QB : tt.get (key t2) = some Gp) (hk : ti.k = .slice e) (vu : ∀ k, Gp.k ≠ .int k)
    (jN : tt.get (key e) = some te) (h0 : ts[0]? = some t) (h1 : ts[1]? = some t2) (ty : TypeId) (base : Option Addr) (n cap m : Nat) (x : Value) (w : World)
    (hx : (Builtin.lenOf x).run P w = .ok m w) (hb : (2 * (n + m) + 768) * te.bytes <= 281474976710656) (hi : n + m <= 9223372036854775807) :
    (Builtin.append_ ts ty #[.slice base n cap, x]).run P w =
      if n + m <= cap then ((Builtin.firstCells te.size m x).run P w).andThen fun new w => ((match base with | some a => storeCells (a.add (n * te.size)) new.toList | none => pure ()).run P w).andThen fun _ w => .ok (.slice base (n + m) cap) w
      else ((Builtin.firstCells te.size n (.slice base n cap)).run P w.drew).andThen fun ic w1 => ((Builtin.firstCells te.size m x).run P w1).andThen fun new w2 => ((zeroValue e).run P w2).andThen fun z w3 =>
        .ok (.slice (some ⟨w3.heap.size, 0, none⟩) (n + m) (grownCap w (n + m) cap e)) (w3.alloc (.cells (ic ++ new ++ Builtin.zeroCells z.cells (grownCap w (n + m) cap e - (n + m))) e)) := by
  obtain ⟨d, hd, cA⟩ := (hT.at ez).und
  rw [hk] at cA; rw [lD cA] at hd
  obtain ⟨d2, EF, SP⟩ := (hT.at QB).und
  obtain ⟨i0, qa, nY, Vi, _⟩ := (hT.at jN).info
  have abV : ∀ k, d2 ≠ .int k := by
    rintro k rfl
    cases yJ : Gp.k <;> rw [yJ] at SP <;> first | (simp [bJ] at SP; done) | exact absurd yJ (vu _)
  have hmax : ¬ (((n + m : Nat) : Int) > IntKind.i64.max) := by
    have : IntKind.i64.max = 9223372036854775807 := by decide
    rw [this]; omega
  have abW : ¬ (n + m <= cap) -> ¬ (Builtin.nextslicecap (n + m) cap * te.bytes > 2 ^ 48) := fun hc => by
    have h1 := nextslicecap_le (Nat.lt_of_not_le hc)
    have h2 := Nat.mul_le_mul_right te.bytes h1
    have : (2 : Nat) ^ 48 = 281474976710656 := by decide
    omega
  have C4 : ∀ q, (Question.appendCap (n + m) cap e).forced = q -> q = false := by rintro q rfl; rfl
  clear SP
  cases d2 <;> first | (exact absurd rfl (abV _)) | skip
  all_goals
    unfold Builtin.append_
    simp only [h0, h1, List.getElem?_toArray, List.getElem?_cons_zero, List.getElem?_cons_succ, Sem.run_bind, aO hd, Result.andThen_ok, iX qa, nY, aO EF, Sem.run_pure, hx, Bool.false_eq_true, if_false, Bool.not_false, if_true, Sem.run_ite]
    by_cases hc : n + m <= cap
    . rw [if_pos hc, if_pos hc]
      cases base <;> simp only [Sem.run_bind, Sem.run_pure, Result.andThen_ok]
    . rw [if_neg hc, if_neg hc]
      simp only [Sem.run_bind, KP qa, Vi, Result.andThen_ok, hmax, false_and, if_false, abW hc, run_choose, Question.forced, Bool.false_eq_true, World.drew_eq, run_askRoom, Sem.run_pure, newRow, run_newObj, World.alloc_eq]
      rfl
end
end Go.Ai
end
section
namespace Go.Ai
open Go Go.RowKit
section
variable {P : Program} {tt : TT} {ρ : Pos -> Loc} {C : Cells} {st : St} {w w' : World}
theorem SQ {L : Loc} {cs : List AV} {n : Nat} (fz : Nat) (h : mh ρ n C L w' (.cells cs 0)) : mh ρ n C L w' (.cells cs fz) :=
  let ⟨c, e, fr, h1, h2, h3, h4, h5⟩ := h
  ⟨c, e, fr, h1, h2, h3, h4, fun i _ hi => h5 i (Nat.zero_le _) hi⟩
theorem Pk (hW : cw ρ C st w) (del : Option Pos) (fz : Nat) {ic new rest : List Value} {ol nl : List AV} {e : TypeId} {n m es aU : Nat} (h1 : ay ρ st.next.toNat C ol ic) (h2 : ay ρ st.next.toNat C nl new)
    (Ac : ol.length = n * es) (QC : nl.length = m * es) (hr : rest.length = (aU - (n + m)) * es) (hc : n + m <= aU) {w2 : World} (gj : w2 = w.drew.alloc (.cells (ic ++ new ++ rest).toArray e)) :
    ∃ ρ' : Pos -> Loc, (∀ b : Pos, b.toNat < st.next.toNat -> ρ' b = ρ b) /\ cw ρ' C (st.aN del none (some (.cells (ol ++ nl) fz))) w2 /\ ny ρ st w ρ' (st.aN del none (some (.cells (ol ++ nl) fz))) w2 /\
      ax ρ' (st.aN del none (some (.cells (ol ++ nl) fz))).next.toNat C (.slice st.next 0 (n + m) none es) (.slice (some ⟨w.heap.size, 0, none⟩) (n + m) aU) := by
  subst gj
  have pJ : ic.length = n * es := by rw [<- h1.1, Ac]
  have k9 : new.length = m * es := by rw [<- h2.1, QC]
  have gO : (ic ++ new ++ rest).length = aU * es := by
    simp only [List.length_append, pJ, k9, hr]
    rw [<- Nat.add_mul, <- Nat.add_mul]; congr 1; omega
  obtain ⟨ρ', aY, fu, fV, hE⟩ := vr (w' := w.drew.alloc (.cells (ic ++ new ++ rest).toArray e)) (o := .cells (ic ++ new ++ rest).toArray e) (x0 := .cells (ol ++ nl) fz) (base := 0) (size := (ic ++ new ++ rest).toArray.size) hW del rfl rfl rfl rfl (fun ρ' n' aY hn =>
    SQ fz <| qb (e := e) (fr := (0, 0)) (by show (w.heap.push _)[w.heap.size]? = _; simp) (by simp [Ac, QC, pJ, k9])
      (by
        have : (ic ++ new ++ rest).toArray.toList.take (ol ++ nl).length = ic ++ new := by
          rw [List.take_left' (by simp [Ac, QC, pJ, k9])]
        rw [this]; exact (h1.append h2).mono aY hn) (fun i _ => by simp))
  refine ⟨ρ', aY, fV, hE, vt (by simp [St.aN, Pos.aL]) fu hc (fun c hc => by cases hc) (by simp only [List.size_toArray, gO]; exact Nat.le_refl _)⟩
theorem J5 (z : Array Value) (m : Nat) : (Builtin.zeroCells z m).toList.length = m * z.size := by simp [Builtin.zeroCells]
theorem SR {m : Nat} (h : Nat.beq m 0 = false) : m ≠ 0 := Nat.ne_of_beq_eq_false h
theorem Pm (hT : cG P tt) {t t2 e : Nat} {ts : Array TypeId} {ti Gp te : TI} {z : List AV} (ez : tt.get (key t) = some ti) (QB : tt.get (key t2) = some Gp) (hk : ti.k = .slice e) (vu : ∀ k, Gp.k ≠ .int k)
    (jN : tt.get (key e) = some te) (hz : te.zero = some z) (h0 : ts[0]? = some t) (h1 : ts[1]? = some t2) (ty : TypeId) {s u : AV} {xs xu : Value} {res : dz} (hW : cw ρ C st w)
    (hs : ax ρ st.next.toNat C s xs) (hu : ax ρ st.next.toNat C u xu) (hr : ld (fun b => st.heap.get b) st.next te.size te.bytes [s, u] = some res) :
    uX P ρ C st w (((Builtin.append_ ts ty #[xs, xu]).run P w).andThen fun v w => .ok (.value v) w) res := by
  simp only [ld] at hr
  split at hr <;> first | (cases hr; done) | skip
  rename_i n m hn hm
  split at hr <;> first | (cases hr; done) | skip
  rename_i b1 b2
  have b1 := Nat.le_of_ble_eq_true b1
  have b2 := Nat.le_of_ble_eq_true b2
  have hlen := K8 (P := P) (w := w) hu hm
  obtain ⟨i0, qa, nY, _, yN⟩ := (hT.at jN).info
  obtain ⟨zv0, hzv0, _, Gy, _⟩ := yN z hz
  have N9 := fun w => uD hT jN hz (ρ := ρ) (n := st.next.toNat) (C := C) w
  have Qx : ∃ base aU, xs = .slice base n aU /\ n <= aU := by
    unfold eH at hn
    split at hn <;> first | (cases hn; done) | skip
    . cases hn; exact ⟨none, 0, hs.gx, Nat.le_refl _⟩
    . cases hn; obtain ⟨a, c, he, hle, _⟩ := hs.eJ; exact ⟨_, c, he, hle⟩
    . cases hn; obtain ⟨a, c, _, he, hle, _⟩ := hs.p8; exact ⟨_, c, he, hle⟩
    . rename_i s'
      exfalso
      cases hbm : Nat.beq m 0 <;> simp [hbm] at hr
  obtain ⟨base, aU, mZ, hle⟩ := Qx
  have cH := Pj hT ez QB hk vu jN h0 h1 ty base n aU m xu w hlen b1 b2
  rw [mZ, cH]
  have hg : ∀ c, n + m <= grownCap w (n + m) c e := fun c => by unfold grownCap Question.cut; exact Nat.le_add_right _ _
  have Fo : ∀ (del : Option Pos) (fz : Nat) (ol nl : List AV), ¬ (n + m <= aU) -> eV te.size n (fun b => st.heap.get b) s = some ol -> eV te.size m (fun b => st.heap.get b) u = some nl -> ol.length = n * te.size -> nl.length = m * te.size ->
      uX P ρ C st w ((if n + m <= aU then ((Builtin.firstCells te.size m xu).run P w).andThen fun new w => ((match base with | some a => storeCells (a.add (n * te.size)) new.toList | none => pure ()).run P w).andThen fun _ w => .ok (.slice base (n + m) aU) w
      else ((Builtin.firstCells te.size n (.slice base n aU)).run P w.drew).andThen fun ic w1 => ((Builtin.firstCells te.size m xu).run P w1).andThen fun new w2 => ((zeroValue e).run P w2).andThen fun z w3 =>
        .ok (.slice (some ⟨w3.heap.size, 0, none⟩) (n + m) (grownCap w (n + m) aU e)) (w3.alloc (.cells (ic ++ new ++ Builtin.zeroCells z.cells (grownCap w (n + m) aU e - (n + m))) e))).andThen fun v w => .ok (.value v) w)
        (.aN (.slice st.next 0 (n + m) none te.size) del none (some (.cells (ol ++ nl) fz))) := by
    intro del fz ol nl hc ho sV Ac QC
    obtain ⟨ic, e1, e2, _⟩ := om (P := P) hW hs hn (Nat.le_refl _) ho w.drew rfl
    obtain ⟨new, e3, e4, _⟩ := om (P := P) hW hu hm (Nat.le_refl _) sV w.drew rfl
    obtain ⟨zv, Co, _, uj⟩ := N9 w.drew
    rw [mZ] at e1
    have KA : (Builtin.zeroCells zv.cells (grownCap w (n + m) aU e - (n + m))).toList.length = (grownCap w (n + m) aU e - (n + m)) * te.size := by
      rw [J5]; congr 1; have := uj.1; simp at this; omega
    obtain ⟨ρ', aY, fV, hE, hv⟩ := Pk hW del fz e2 e4 Ac QC KA (hg aU) (e := e) rfl
    refine ⟨_, _, _, ρ', ?_, Yields.value _, aY, fV, hv, hE⟩
    rw [if_neg hc]
    simp only [e1, e3, Co, Result.andThen_ok, World.size_drew]
    congr 2
    simp
  have QD : ∀ nl, eV te.size m (fun b => st.heap.get b) u = some nl -> m ≠ 0 -> nl.length = m * te.size := by
    intro nl sV hm0
    obtain ⟨_, _, _, h⟩ := om (P := P) hW hu hm (Nat.le_refl _) sV w rfl
    rcases h with rfl | h
    . simp [eH] at hm; omega
    . exact h
  have hls : ∀ ol, eV te.size n (fun b => st.heap.get b) s = some ol -> ol.length = n * te.size := by
    intro ol vw
    obtain ⟨ys, _, sx, h⟩ := om (P := P) hW hs hn (Nat.le_refl _) vw w rfl
    rcases h with rfl | h
    . simp [eH] at hn; subst hn
      simp [eV] at vw; subst vw; simp
    . exact h
  have hzero : m = 0 -> ax ρ st.next.toNat C s xs -> uX P ρ C st w ((if n + m <= aU then ((Builtin.firstCells te.size m xu).run P w).andThen fun new w => ((match base with | some a => storeCells (a.add (n * te.size)) new.toList | none => pure ()).run P w).andThen fun _ w => .ok (.slice base (n + m) aU) w
      else ((Builtin.firstCells te.size n (.slice base n aU)).run P w.drew).andThen fun ic w1 => ((Builtin.firstCells te.size m xu).run P w1).andThen fun new w2 => ((zeroValue e).run P w2).andThen fun z w3 =>
        .ok (.slice (some ⟨w3.heap.size, 0, none⟩) (n + m) (grownCap w (n + m) aU e)) (w3.alloc (.cells (ic ++ new ++ Builtin.zeroCells z.cells (grownCap w (n + m) aU e - (n + m))) e))).andThen fun v w => .ok (.value v) w) (.val s) := by
    rintro rfl hsx
    have hf : (Builtin.firstCells te.size 0 xu).run P w = .ok #[] w := by
      unfold eH at hm
      split at hm <;> first | (cases hm; done) | skip
      . rw [hu.gx]; simp [Builtin.firstCells]
      . obtain ⟨_, _, he, _⟩ := hu.eJ; rw [he]; simp [Builtin.firstCells, loadCells, loadCellsFrom]
      . obtain ⟨_, _, _, he, _⟩ := hu.p8; rw [he]; simp [Builtin.firstCells, loadCells, loadCellsFrom]
      . obtain ⟨bs, rfl, _⟩ := hu.dZ
        simp only [Builtin.firstCells, Sem.run_pure]
        congr 1
        apply Array.ext'
        simp
    rw [mZ] at hsx
    refine .pure (x := .slice base n aU) ?_ hsx
    rw [if_pos (by omega), hf]
    cases base <;> simp [storeCells]
  split at hr <;> first | (cases hr; done) | skip
  . rename_i sW; simp only [Option.some.injEq] at hr; subst hr; exact hzero (Nat.eq_of_beq_eq_true sW) hs
  . rename_i sW; simp only [Option.some.injEq] at hr; subst hr; exact hzero (Nat.eq_of_beq_eq_true sW) hs
  . rename_i sW; simp only [Option.some.injEq] at hr; subst hr; exact hzero (Nat.eq_of_beq_eq_true sW) hs
  ·
    rename_i sW
    have sW := SR sW
    split at hr <;> first | (cases hr; done) | skip
    rename_i new sV
    simp only [Option.some.injEq] at hr; subst hr
    have he := hs.gx
    rw [he] at mZ
    simp only [Value.slice.injEq] at mZ
    obtain ⟨rfl, rfl, rfl⟩ := mZ
    have := Fo none 0 [] new (by omega) rfl sV (by simp) (QD new sV sW)
    simpa using this
  ·
    rename_i b off n' c bR sW
    have sW := SR sW
    simp only [eH, Option.some.injEq] at hn; subst hn
    obtain ⟨aa, cc, he, hlec, Of, ha⟩ := hs.eJ
    rw [he] at mZ
    simp only [Value.slice.injEq] at mZ
    obtain ⟨rfl, _, rfl⟩ := mZ
    have := Of c rfl; subst this
    split at hr
    . rename_i sC
      have sC := Nat.le_of_ble_eq_true sC
      split at hr <;> first | (cases hr; done) | skip
      rename_i cs fz new hb sV
      split at hr <;> first | (cases hr; done) | skip
      rename_i c1 c2 c3
      have c1 := Nat.le_of_ble_eq_true c1
      simp only [Bool.and_eq_true] at c2
      have c2a := Nat.le_of_ble_eq_true c2.1
      have c2b := Nat.eq_of_beq_eq_true c2.2
      subst c2b
      simp only [Option.some.injEq] at hr; subst hr
      obtain ⟨bD, rfl, hbound⟩ := ha (by omega)
      obtain ⟨ys, e1, e2, _⟩ := om (P := P) hW hu hm (Nat.le_refl _) sV w rfl
      have A7 := QD new sV sW
      obtain ⟨w2, e3, fV, hE⟩ := A6 (P := P) hW hb (by rw [A7]; rw [Nat.add_mul] at c1; omega) c2a c3 e2
      refine ⟨_, .slice (some ⟨(ρ b).aF, (ρ b).base + off, none⟩) (n' + m) c, w2, ρ, ?_, Yields.value _, fun _ _ => rfl, fV, ?_, hE⟩
      . rw [if_pos sC, e1]
        simp only [Result.andThen_ok, nA]
        rw [Nat.add_assoc, e3]; rfl
      . exact .slice _ _ _ _ _ _ _ sC (fun c hc => by cases hc; rfl) (fun _ => ⟨bD, rfl, hbound⟩) (fun h => by cases h)
    . rename_i sC
      have sC : ¬ (n' + m <= c) := fun h => by rw [Nat.ble_eq_true_of_le h] at sC; cases sC
      split at hr <;> first | (cases hr; done) | skip
      rename_i ic new vw sV
      simp only [Option.some.injEq] at hr; subst hr
      exact Fo none 0 ic new sC vw sV (hls ic vw) (QD new sV sW)
  ·
    rename_i b off n' bR sW
    have sW := SR sW
    simp only [eH, Option.some.injEq] at hn; subst hn
    split at hr <;> first | (cases hr; done) | skip
    rename_i cs fz ic new hb vw sV
    split at hr <;> first | (cases hr; done) | skip
    rename_i c2 c3
    simp only [Bool.and_eq_true] at c2
    have c2a := Nat.le_of_ble_eq_true c2.1
    have c2b := Nat.eq_of_beq_eq_true c2.2
    subst c2b
    simp only [Option.some.injEq] at hr; subst hr
    by_cases sC : n' + m <= aU
    ·
      obtain ⟨aa, cc, he, hlec, Of, ha⟩ := hs.eJ
      rw [he] at mZ
      simp only [Value.slice.injEq] at mZ
      obtain ⟨rfl, _, rfl⟩ := mZ
      obtain ⟨bD, rfl, hbound⟩ := ha (by omega)
      obtain ⟨ys, e1, e2, _⟩ := om (P := P) hW hu hm (Nat.le_refl _) sV w rfl
      have A7 := QD new sV sW
      have Vl := hls ic vw
      obtain ⟨mY, nc, c, ce, fr, g1, g2, g3, g4, g5⟩ := hW.live b _ hb
      have hmul : (n' + m) * te.size <= cc * te.size := Nat.mul_le_mul_right _ sC
      have hmul2 : (n' + m) * te.size = n' * te.size + m * te.size := Nat.add_mul _ _ _
      have hyl : ys.length = m * te.size := by rw [<- e2.1, A7]
      have hold : ay ρ st.next.toNat C ic ((c.toList.drop ((ρ b).base + off)).take (n' * te.size)) := by
        simp only [eV] at vw
        split at vw
        . rename_i QE
          have QE := Nat.eq_of_beq_eq_true QE
          simp only [Option.some.injEq] at vw; subst vw
          rw [QE]; simpa using (ay.nil : ay ρ st.next.toNat C [] [])
        . rw [hb] at vw
          simp only at vw
          obtain ⟨ho1, ho2⟩ := Gr vw
          have h := (g4.drop off).take (n' * te.size)
          rw [<- ho1] at h
          have : List.take (n' * te.size) (List.drop off (List.take cs.length (List.drop (ρ b).base c.toList))) = (c.toList.drop ((ρ b).base + off)).take (n' * te.size) := by
            rw [List.drop_take, List.take_take, List.drop_drop, Nat.min_eq_left (by omega)]
          rw [this] at h
          exact h
      obtain ⟨w2, s1, s2, s3, s4, s5, s6, s7⟩ := pg (P := P) (ρ b).aF ce fr ys 0 ((ρ b).base + off + n' * te.size) c w g1 (by omega) (A5 c3 e2) (fun k hk ug => by
        have := g5 (k - (ρ b).base) (by omega) (by omega)
        rwa [show (ρ b).base + (k - (ρ b).base) = k from by omega] at this)
      simp only [Nat.add_zero] at s1 s2
      let ρ' : Pos -> Loc := fun q => if q = st.next then ⟨(ρ b).aF, (ρ b).base + off, (ρ b).size⟩ else ρ q
      have aY : ∀ q : Pos, q.toNat < st.next.toNat -> ρ' q = ρ q := fun q hq => if_neg (fun e => by rw [e] at hq; omega)
      have fu : ρ' st.next = ⟨(ρ b).aF, (ρ b).base + off, (ρ b).size⟩ := if_pos rfl
      have hcl : c.toList.length = c.size := by simp
      have hWn : cw ρ' C (st.aN (some b) none (some (.cells (ic ++ new) (fz - off)))) w2 := by
        refine hW.O3 (b0 := st.next) (x0 := .cells (ic ++ new) (fz - off)) (by rw [Pos.aL]; omega) (by rw [Pos.aL]; omega) (by rw [T.fQ]) ?_ aY ?_ ?_ (by rw [fu, s3]; exact nc) (by omega) (fun k hk ug => s4 k (by rw [fu] at ug; exact ug))
        . intro q x hq hx
          rw [T.bT _ (fun e => hq e.symm)] at hx
          obtain ⟨h1, h2⟩ := A4 (some b) _ hx
          refine ⟨h1, ?_⟩
          rw [fu]
          exact fun e => h2 b rfl (hW.inj _ _ _ _ h1 hb e)
        . rw [fu]
          refine ⟨_, ce, fr, s2, by simp [bg]; omega, by simp [bg, Vl, A7]; omega, ?_, fun i qa hi => ?_⟩
          . simp only
            rw [EM _ _ _ _ (by omega)]
            have Qp : (bg (c.toList.drop ((ρ b).base + off)) (n' * te.size) ys).take (ic ++ new).length = (c.toList.drop ((ρ b).base + off)).take (n' * te.size) ++ ys := by
              unfold bg
              rw [<- List.append_assoc, List.take_left']
              simp [Vl, A7, hyl]; omega
            rw [Qp]
            exact (hold.append e2).mono aY (by rw [Pos.aL]; omega)
          . have hi' : (ρ b).base + off + i < c.size := by
              simp only [List.size_toArray] at hi
              have : (bg c.toList ((ρ b).base + off + n' * te.size) ys).length = c.size := by simp [bg]; omega
              omega
            have := g5 (off + i) (by omega) (by omega)
            simp only
            rwa [<- Nat.add_assoc] at this
        . intro ad v hv
          rw [fu]
          exact fun e => (hW.fD ad v hv).2 b _ hb e.symm
      refine ⟨_, (.slice (some ⟨(ρ b).aF, (ρ b).base + off, none⟩) (n' + m) cc), w2, ρ', ?_, Yields.value _, aY, hWn, ?_, ⟨s5, s6, s7, by omega, fun k _ hk => s4 k (fun e => hk b _ hb e.symm), fun q x hx => ?_⟩⟩
      rotate_left
      rotate_left
      . left
        by_cases hq : q = st.next
        . exact ⟨b, _, hb, by rw [hq, fu]⟩
        . simp only [St.aN, zo] at hx
          rw [T.bT _ (fun e => hq e.symm)] at hx
          obtain ⟨h1, _⟩ := A4 (some b) _ hx
          exact ⟨q, x, h1, by rw [aY q (hW.live q x h1).1]⟩
      . rw [if_pos sC, e1]
        simp only [Result.andThen_ok, nA]
        rw [s1]; rfl
      . refine .slice _ _ _ _ _ _ _ sC (fun c hc => by cases hc) (fun _ => ⟨by simp [St.aN, Pos.aL], by rw [fu]; rfl, ?_⟩) (fun _ => by simp [St.aN, Pos.aL])
        rw [fu]; simp only; omega
    . exact Fo (some b) _ ic new sC vw sV (hls ic vw) (QD new sV sW)
end
end Go.Ai
end
section
namespace Go.Ai
open Go Go.RowKit
section
variable {P : Program} {tt : TT} {ρ : Pos -> Loc} {C : Cells} {st : St} {w w' : World}
theorem GD {n : Nat} {xs : Array Value} {u v : AV} (h : ay ρ n C [u, v] xs.toList) : ∃ x y, xs = #[x, y] /\ ax ρ n C u x /\ ax ρ n C v y := by
  obtain ⟨x, l, h1, h2, h3⟩ := h.cons_inv
  obtain ⟨y, l', h4, h5, h6⟩ := h3.cons_inv
  have := h6.o4; subst this
  exact ⟨x, y, by apply Array.ext'; rw [h1, h4], h2, h5⟩
theorem QF {n : Nat} {xs : Array Value} {u : AV} (h : ay ρ n C [u] xs.toList) : ∃ x, xs = #[x] /\ ax ρ n C u x := by
  obtain ⟨x, l, h1, h2, h3⟩ := h.cons_inv
  have := h3.o4; subst this
  exact ⟨x, by apply Array.ext'; rw [h1], h2⟩
theorem Pn {ts : Array TypeId} {t : TypeId} {l : List TypeId} (h : ts.toList = t :: l) : ts[0]? = some t := by
  rw [<- Array.getElem?_toList, h]; rfl
theorem arr1 {ts : Array TypeId} {t t2 : TypeId} {l : List TypeId} (h : ts.toList = t :: t2 :: l) : ts[1]? = some t2 := by
  rw [<- Array.getElem?_toList, h]; rfl
theorem SS (hT : cG P tt) {t e : Nat} {ts : Array TypeId} {ti te : TI} (ez : tt.get (key t) = some ti) (hk : ti.k = .slice e)
    (jN : tt.get (key e) = some te) (h0 : ts[0]? = some t) (ty : TypeId) {d u : AV} {xd xu : Value} {res : dz} (hW : cw ρ C st w)
    (hd : ax ρ st.next.toNat C d xd) (hu : ax ρ st.next.toNat C u xu) (hr : uw (fun b => st.heap.get b) st.next te.size [d, u] = some res) :
    uX P ρ C st w (((Builtin.copy_ ts ty #[xd, xu]).run P w).andThen fun v w => .ok (.value v) w) res := by
  obtain ⟨dd, hdd, cA⟩ := (hT.at ez).und
  rw [hk] at cA; rw [lD cA] at hdd
  obtain ⟨i0, qa, nY, _⟩ := (hT.at jN).info
  simp only [uw] at hr
  split at hr <;> first | (cases hr; done) | skip
  rename_i n m hn hm
  have hlen := K8 (P := P) (w := w) hu hm
  have Qx : (∃ s, d = .str s) \/ ∃ base aU, xd = .slice base n aU /\ n <= aU := by
    unfold eH at hn
    split at hn <;> first | (cases hn; done) | skip
    . cases hn; exact .inr ⟨none, 0, hd.gx, Nat.le_refl _⟩
    . cases hn; obtain ⟨a, c, he, hle, _⟩ := hd.eJ; exact .inr ⟨_, c, he, hle⟩
    . cases hn; obtain ⟨a, c, _, he, hle, _⟩ := hd.p8; exact .inr ⟨_, c, he, hle⟩
    . exact .inl ⟨_, rfl⟩
  have aac : m = 0 \/ n = 0 -> (Builtin.firstCells te.size 0 xu).run P w = .ok #[] w := by
    intro _
    unfold eH at hm
    split at hm <;> first | (cases hm; done) | skip
    . rw [hu.gx]; simp [Builtin.firstCells]
    . obtain ⟨_, _, he, _⟩ := hu.eJ; rw [he]; simp [Builtin.firstCells, loadCells, loadCellsFrom]
    . obtain ⟨_, _, _, he, _⟩ := hu.p8; rw [he]; simp [Builtin.firstCells, loadCells, loadCellsFrom]
    . obtain ⟨bs, rfl, _⟩ := hu.dZ
      simp only [Builtin.firstCells, Sem.run_pure]
      congr 1
      apply Array.ext'
      simp
  have nX : ∀ base aU, xd = .slice base n aU -> (Builtin.copy_ ts ty #[xd, xu]).run P w = ((Builtin.firstCells te.size (Nat.min m n) xu).run P w).andThen fun cells w => ((match base with | some a => storeCells a cells.toList | none => pure ()).run P w).andThen fun _ w => .ok (goInt (Nat.min m n)) w := by
    intro base aU he
    unfold Builtin.copy_
    simp only [h0, he, List.getElem?_toArray, List.getElem?_cons_zero, List.getElem?_cons_succ, Sem.run_bind, aO hdd, Result.andThen_ok, iX qa, nY, hlen]
    cases base <;> simp only [Sem.run_bind, Sem.run_pure, Result.andThen_ok]
  split at hr
  . rename_i sD
    have sD := Nat.eq_of_beq_eq_true sD
    split at hr <;> first | (cases hr; done) | skip
    rename_i Z8
    simp only [Option.some.injEq] at hr; subst hr
    rcases Qx with ⟨s, rfl⟩ | ⟨base, aU, he, hle⟩
    . exact absurd rfl (Z8 s)
    . have hk0' : Nat.min m n = 0 := sD
      refine .pure (x := goInt 0) ?_ (.int _ _)
      rw [nX base aU he, hk0', aac (by have : min m n = 0 := sD; omega)]
      cases base <;> simp [storeCells]
  . rename_i sD
    have sD := Nat.ne_of_beq_eq_false sD
    split at hr <;> first | (cases hr; done) | skip
    rename_i b off n' cap bR
    split at hr <;> first | (cases hr; done) | skip
    rename_i cs fz new hb sV
    split at hr <;> first | (cases hr; done) | skip
    rename_i c1 c2 c3
    have c1 := Nat.le_of_ble_eq_true c1
    have c2 := Nat.le_of_ble_eq_true c2
    simp only [Option.some.injEq] at hr; subst hr
    simp only [eH, Option.some.injEq] at hn; subst hn
    obtain ⟨aa, aU, he, hle, _, ha⟩ := hd.eJ
    have hmin : min m n' <= m /\ min m n' <= n' := ⟨Nat.min_le_left _ _, Nat.min_le_right _ _⟩
    obtain ⟨bD, rfl, _⟩ := ha (by omega)
    obtain ⟨ys, e1, e2, e3⟩ := om (P := P) hW hu hm hmin.1 sV w rfl
    have A7 : new.length = min m n' * te.size := by
      rcases e3 with rfl | e3
      . simp [eH] at hm; omega
      . exact e3
    obtain ⟨w2, f1, fV, hE⟩ := A6 (P := P) hW hb (by rw [A7]; exact c1) c2 c3 e2
    refine ⟨_, goInt ((min m n' : Nat) : Int), w2, ρ, ?_, Yields.value _, fun _ _ => rfl, fV, .int _ _, hE⟩
    rw [nX _ _ he]
    have hmm : Nat.min m n' = min m n' := rfl
    rw [hmm, e1]
    simp only [Result.andThen_ok]
    rw [f1]; rfl
theorem V5 (hT : cG P tt) {t : Nat} {ts : Array TypeId} {ti : TI} (ez : tt.get (key t) = some ti) {k : LK} (hk : (k = .s /\ ti.k = .string) \/ (k = .l /\ ∃ e, ti.k = .slice e) \/ (k = .m /\ ∃ a b, ti.k = .map a b))
    (h0 : ts[0]? = some t) (ty : TypeId) {u : AV} {xu : Value} {res : dz} (hW : cw ρ C st w)
    (hu : ax ρ st.next.toNat C u xu) (hr : zR (fun b => st.heap.get b) st.next k [u] = some res) :
    uX P ρ C st w (((Builtin.len_ ts ty #[xu]).run P w).andThen fun v w => .ok (.value v) w) res := by
  obtain ⟨d, hd, cA⟩ := (hT.at ez).und
  have nX : ∀ x, xu = x -> (Builtin.len_ ts ty #[xu]).run P w = (Builtin.len_ ts ty #[x]).run P w := fun x e => by rw [e]
  simp only [zR] at hr
  rcases hk with ⟨rfl, hk⟩ | ⟨rfl, e, hk⟩ | ⟨rfl, a, b, hk⟩ <;> rw [hk] at cA
  . rw [lg cA] at hd
    cases u <;> simp only [reduceCtorEq] at hr <;> first | (cases hr; done) | skip
    simp only [Option.some.injEq] at hr; subst hr
    obtain ⟨bs, rfl, hs⟩ := hu.dZ
    exact .pure (x := goInt bs.size) (by unfold Builtin.len_; simp [h0, aO hd]) (by rw [rX hs]; exact .int _ _)
  . rw [lD cA] at hd
    cases u <;> simp only [reduceCtorEq] at hr <;> first | (cases hr; done) | skip
    . simp only [Option.some.injEq] at hr; subst hr
      rw [hu.gx]
      exact .pure (x := goInt 0) (by unfold Builtin.len_; simp [h0, aO hd]) (.int _ _)
    . simp only [Option.some.injEq] at hr; subst hr
      obtain ⟨aa, c, he, _⟩ := hu.eJ
      rw [he]
      exact .pure (by unfold Builtin.len_; simp [h0, aO hd]; rfl) (.int _ _)
    . simp only [Option.some.injEq] at hr; subst hr
      obtain ⟨aa, c, _, he, _⟩ := hu.p8
      rw [he]
      exact .pure (by unfold Builtin.len_; simp [h0, aO hd]; rfl) (.int _ _)
  . rw [CX cA] at hd
    cases u <;> simp only [reduceCtorEq] at hr <;> first | (cases hr; done) | skip
    . simp only [Option.some.injEq] at hr; subst hr
      rw [hu.uB]
      exact .pure (x := goInt 0) (by unfold Builtin.len_; simp [h0, aO hd]) (.int _ _)
    . split at hr <;> first | (cases hr; done) | skip
      rename_i es c hb
      simp only [Option.some.injEq] at hr; subst hr
      obtain ⟨_, he⟩ := hu.uC
      obtain ⟨_, _, bR, gG, hlen, _⟩ := hW.live _ _ hb
      rw [he]
      exact .pure (x := goInt bR.size) (by unfold Builtin.len_; simp [h0, aO hd, run_getObj_map gG]) (by rw [<- hlen]; exact .int _ _)
theorem Iq (z : Array Value) (m : Nat) : (Builtin.zeroCells z m).toList = cv z.toList m := by
  unfold Builtin.zeroCells
  by_cases h : 0 < z.size
  . exact KY z m h
  . have h0 : z.size = 0 := by omega
    have : z = #[] := Array.eq_empty_of_size_eq_zero h0
    subst this
    have h1 : cv ([] : List Value) m = [] := List.eq_nil_of_length_eq_zero (by rw [iH]; simp)
    simp [h1]
theorem QG (hT : cG P tt) {t e : Nat} {ts : Array TypeId} {ti te : TI} {z : List AV} (ez : tt.get (key t) = some ti) (hk : ti.k = .slice e)
    (jN : tt.get (key e) = some te) (hz : te.zero = some z) (h0 : ts[0]? = some t) (ty : TypeId) {u : AV} {xu : Value} {res : dz} (hW : cw ρ C st w)
    (hu : ax ρ st.next.toNat C u xu) (hr : su (fun b => st.heap.get b) st.next te.size z [u] = some res) :
    uX P ρ C st w (((Builtin.clear_ ts ty #[xu]).run P w).andThen fun v w => .ok (.value v) w) res := by
  obtain ⟨dd, hdd, cA⟩ := (hT.at ez).und
  rw [hk] at cA; rw [lD cA] at hdd
  obtain ⟨i0, qa, nY, _, yN⟩ := (hT.at jN).info
  obtain ⟨zv0, _, _, Gy, _⟩ := yN z hz
  obtain ⟨zv, Co, _, uj⟩ := uD hT jN hz (ρ := ρ) (n := st.next.toNat) (C := C) w
  simp only [su] at hr
  split at hr <;> first | (cases hr; done) | skip
  . simp only [Option.some.injEq] at hr; subst hr
    rw [hu.gx]
    exact .pure (x := undef) (by unfold Builtin.clear_; simp [h0, aO hdd]; rfl) ax.uE
  . rename_i b off n cap bR
    obtain ⟨aa, aU, he, hle, _, ha⟩ := hu.eJ
    rw [he]
    split at hr
    . rename_i Jd
      have := Nat.eq_of_beq_eq_true Jd; subst this
      simp only [Option.some.injEq] at hr; subst hr
      exact .pure (x := undef) (by unfold Builtin.clear_; simp [h0, aO hdd]; rfl) ax.uE
    . rename_i Jd
      have Jd := Nat.ne_of_beq_eq_false Jd
      split at hr <;> first | (cases hr; done) | skip
      rename_i cs fz hb
      split at hr <;> first | (cases hr; done) | skip
      rename_i c1 c2 c3
      have c1 := Nat.le_of_ble_eq_true c1
      have c2 := Nat.le_of_ble_eq_true c2
      simp only [Option.some.injEq] at hr; subst hr
      obtain ⟨_, rfl, _⟩ := ha (by omega)
      obtain ⟨w2, f1, fV, hE⟩ := A6 (P := P) hW hb (vs := cv z n) (ys := cv zv.cells.toList n) (by rw [iH, Gy]; exact c1) c2 c3 (zu uj n)
      refine ⟨_, undef, w2, ρ, ?_, Yields.value _, fun _ _ => rfl, fV, ax.uE, hE⟩
      unfold Builtin.clear_
      cases n with
      | zero => exact absurd rfl Jd
      | succ n => simp [h0, aO hdd, Co, Iq, f1, undef]
theorem Ad (c : Call) (f : Operand) (hc : c.callee = .value f) (a : Act) (o : Oper) (ho : o.op = .call c) {g : FuncId} {x y : Array Value} (he : a.eval f = .func (.func g) x y) :
    (execOp a.eval o).run P w = (callFunc g (x ++ c.args.map a.eval ++ y)).run P w := by
  simp [execOp, ho, resolve, hc, he, Deferred.ofValue, invoke]
theorem SU (hT : cG P tt) (c : Call) : cV P tt (.call c) := by
  intro ρ C st w k xs cls fr a o vs res ho hc hW hF hx hr
  simp only [fS] at hc
  split at hc <;> first | (cases hc; done) | skip
  rename_i l hl
  split at hc <;> first | (cases hc; done) | skip
  ·
    rename_i g K9
    cases hc
    have hv := fT hl hF hx
    simp only [aE.run, Ff, Option.some.injEq] at hr; subst hr
    refine ⟨c.args.toList.map a.eval, ?_, hv⟩
    rw [Ad c _ K9 a o ho (g := g) (x := #[]) (y := #[]) rfl]
    congr 2
    apply Array.ext'
    simp
  ·
    rename_i f hnf K9
    split at hc <;> first | (cases hc; done) | skip
    rename_i ao hao
    cases hc
    unfold eC at hx
    split at hx <;> first | (cases hx; done) | skip
    rename_i fv hfv
    split at hx <;> first | (cases hx; done) | skip
    rename_i Z4 SV
    simp only [Option.some.injEq] at hx; subst hx
    have h1 := xk hao hF hfv
    have h2 := fT hl hF SV
    simp only [aE.run, Fg] at hr
    split at hr <;> first | (cases hr; done) | skip
    rename_i g first captured
    simp only [Option.some.injEq] at hr; subst hr
    obtain ⟨x, y, he, hx, hy⟩ := h1.AS
    refine ⟨x.toList ++ (c.args.toList.map a.eval ++ y.toList), ?_, hx.append (h2.append hy)⟩
    rw [Ad c f K9 a o ho he]
    congr 2
    apply Array.ext'
    simp
  ·
    rename_i b K9
    have hex : ∀ (s : Sem Value), (∀ consts, builtin b c.argTypes o.type consts (c.args.map a.eval) = (do pure (.value (<- s)))) -> (execOp a.eval o).run P w = (s.run P w).andThen fun v w => .ok (.value v) w := by
      intro s hs
      simp only [execOp, ho, resolve, K9, pure_bind, invoke]
      rw [hs]
      simp
    split at hc <;> first | (cases hc; done) | skip
    ·
      split at hc <;> first | (cases hc; done) | skip
      rename_i t _ _ C8
      split at hc <;> first | (cases hc; done) | skip
      rename_i ti ez
      have hv := fT hl hF (vs := vs) (by
        split at hc <;> first | (cases hc; done) | skip
        all_goals cases hc; exact hx)
      rw [j9] at hv
      rw [hex (Builtin.len_ c.argTypes o.type (c.args.map a.eval)) (fun _ => rfl)]
      have hu : ∃ u, vs = [u] := by
        have h1 := hv.1
        have h2 : (c.args.toList).length = 1 := by
          have : ∀ {xs : List Operand} {os : List jW}, iW xs = some os -> xs.length = os.length := by
            intro xs
            induction xs with
            | nil => intro os h; simp [iW] at h; subst h; rfl
            | cons x xs ih => intro os h; unfold iW at h; split at h <;> first | (cases h; done) | skip
                              rename_i e1 e2; simp only [Option.some.injEq] at h; subst h; simp [ih e2]
          rw [this hl]; rfl
        match vs, h1 with
        | [u], _ => exact ⟨u, rfl⟩
        | [], h1 => simp at h1 h2; omega
        | _ :: _ :: _, h1 => simp at h1 h2; omega
      obtain ⟨u, rfl⟩ := hu
      obtain ⟨x, mZ, hux⟩ := QF hv
      rw [mZ]
      split at hc <;> first | (cases hc; done) | skip
      all_goals
        rename_i hk
        cases hc
        simp only [aE.run] at hr
        refine V5 hT ez ?_ (Pn C8) o.type hW hux hr
      . exact .inl ⟨rfl, hk⟩
      . exact .inr (.inl ⟨rfl, _, hk⟩)
      . exact .inr (.inr ⟨rfl, _, _, hk⟩)
    ·
      split at hc <;> first | (cases hc; done) | skip
      rename_i t t2 _ C8
      split at hc <;> first | (cases hc; done) | skip
      rename_i ti Gp ez QB
      split at hc <;> first | (cases hc; done) | skip
      rename_i e hk vu
      split at hc <;> first | (cases hc; done) | skip
      rename_i te jN
      split at hc <;> first | (cases hc; done) | skip
      rename_i z hz
      cases hc
      have hv := fT hl hF hx
      rw [j9] at hv
      rw [hex (Builtin.append_ c.argTypes o.type (c.args.map a.eval)) (fun _ => rfl)]
      simp only [aE.run] at hr
      have hu : ∃ s u, vs = [s, u] := by
        unfold ld at hr
        split at hr <;> first | (cases hr; done) | skip
        exact ⟨_, _, rfl⟩
      obtain ⟨s, u, rfl⟩ := hu
      obtain ⟨x, y, mZ, h1, h2⟩ := GD hv
      rw [mZ]
      exact Pm hT ez QB hk (fun k hk => vu k hk) jN hz (Pn C8) (arr1 C8) o.type hW h1 h2 hr
    ·
      split at hc <;> first | (cases hc; done) | skip
      rename_i t _ C8
      split at hc <;> first | (cases hc; done) | skip
      rename_i ti ez
      split at hc <;> first | (cases hc; done) | skip
      rename_i e hk
      split at hc <;> first | (cases hc; done) | skip
      rename_i te jN
      cases hc
      have hv := fT hl hF hx
      rw [j9] at hv
      rw [hex (Builtin.copy_ c.argTypes o.type (c.args.map a.eval)) (fun _ => rfl)]
      simp only [aE.run] at hr
      have hu : ∃ s u, vs = [s, u] := by
        unfold uw at hr
        split at hr <;> first | (cases hr; done) | skip
        exact ⟨_, _, rfl⟩
      obtain ⟨s, u, rfl⟩ := hu
      obtain ⟨x, y, mZ, h1, h2⟩ := GD hv
      rw [mZ]
      exact SS hT ez hk jN (Pn C8) o.type hW h1 h2 hr
    ·
      split at hc <;> first | (cases hc; done) | skip
      cases hc
      have hv := fT hl hF hx
      rw [j9] at hv
      rw [hex (Builtin.min_ c.argTypes o.type (c.args.map a.eval)) (fun _ => rfl)]
      simp only [aE.run] at hr
      have hu : ∃ s u r, vs = [s, u] /\ res = .val r := by
        unfold wP at hr
        split at hr <;> first | (cases hr; done) | skip
        split at hr <;> first | (cases hr; done) | skip
        all_goals cases hr; exact ⟨_, _, _, rfl, rfl⟩
      obtain ⟨s, u, r, rfl, rfl⟩ := hu
      obtain ⟨x, y, mZ, h1, h2⟩ := GD hv
      obtain ⟨z, hz, hvz⟩ := SK (P := P) (w := w) h1 h2 hr
      rw [mZ]
      refine .pure (x := z) ?_ hvz
      simp [Builtin.min_, hz]
    ·
      split at hc <;> first | (cases hc; done) | skip
      cases hc
      have hv := fT hl hF hx
      rw [j9] at hv
      rw [hex (Builtin.max_ c.argTypes o.type (c.args.map a.eval)) (fun _ => rfl)]
      simp only [aE.run] at hr
      have hu : ∃ s u r, vs = [s, u] /\ res = .val r := by
        unfold wQ at hr
        split at hr <;> first | (cases hr; done) | skip
        split at hr <;> first | (cases hr; done) | skip
        all_goals cases hr; exact ⟨_, _, _, rfl, rfl⟩
      obtain ⟨s, u, r, rfl, rfl⟩ := hu
      obtain ⟨x, y, mZ, h1, h2⟩ := GD hv
      obtain ⟨z, hz, hvz⟩ := SL (P := P) (w := w) h1 h2 hr
      rw [mZ]
      refine .pure (x := z) ?_ hvz
      simp [Builtin.max_, hz]
    ·
      split at hc <;> first | (cases hc; done) | skip
      rename_i t _ C8
      split at hc <;> first | (cases hc; done) | skip
      rename_i ti ez
      split at hc <;> first | (cases hc; done) | skip
      rename_i e hk
      split at hc <;> first | (cases hc; done) | skip
      rename_i te jN
      split at hc <;> first | (cases hc; done) | skip
      rename_i z hz
      cases hc
      have hv := fT hl hF hx
      rw [j9] at hv
      rw [hex (Builtin.clear_ c.argTypes o.type (c.args.map a.eval)) (fun _ => rfl)]
      simp only [aE.run] at hr
      have hu : ∃ u, vs = [u] := by
        unfold su at hr
        split at hr <;> first | (cases hr; done) | skip
        exact ⟨_, rfl⟩
      obtain ⟨u, rfl⟩ := hu
      obtain ⟨x, mZ, hux⟩ := QF hv
      rw [mZ]
      exact QG hT ez hk jN hz (Pn C8) o.type hW hux hr
theorem Eh (hT : cG P tt) (op : Op) : cV P tt op := by
  cases op with
  | move x => exact SG x
  | assign x => exact O8 x
  | pick c x y => exact SH c x y
  | alloc t => exact Qu hT t
  | box t x => exact V3 t x
  | build t ps => exact Qq hT t ps
  | buildSlice t n ps => exact Ip hT t n ps
  | insert t m k v => exact GC hT _ t m k v (.inr rfl)
  | load t x => exact SJ hT t x
  | store t x y => exact Qw hT t x y
  | nilCheck x => exact KV x
  | binOp op t x y yt => exact Qi hT op t x y yt
  | unOp op t x => exact SI op t x
  | convert s d x =>
    by_cases h : ∃ xs cls, fS tt (.convert s d x) = some (.conv .bytes, xs, cls)
    . exact J0 hT s d x h
    . exact Nu hT s d x fun k xs cls hc e => h ⟨xs, cls, by rw [hc, e]⟩
  | makeInterface t x => exact Nt hT t x
  | makeFunc f x y => exact O9 f x y
  | makeMap t r => exact Qv t r hT
  | makeSlice t l c => exact Nv hT t l c
  | slice t x l h m => exact Qm hT t x l h m
  | fieldAddr t x f => exact JY hT t x f
  | field t x f => exact Qj hT t x f
  | indexAddr t x i => exact JZ hT t x i
  | index t x i => exact Qk hT t x i
  | lookup t x i ok => exact Pb hT t x i ok
  | mapUpdate t m k v => exact GC hT _ t m k v (.inl rfl)
  | range t x => exact Pd hT t x
  | next it s => exact Qz it s
  | extract x i => exact Ns x i
  | call c => exact SU hT c
  | _ => intro ρ C st w k xs cls fr a o vs res ho hc; simp [fS] at hc
end
end Go.Ai
end
section
namespace Go.Ai
open Go Go.RowKit
def Reaches (P : Program) (R : Value -> World -> Prop) : Result Next -> Prop
  | .ok (.value x) w' => R x w'
  | .ok .skip w' => R undef w'
  | .ok (.enter f args) w' => Calls P f args w' fun | .returned v, w'' => R v w'' | _, _ => False
  | .ok (.row row args) w' => Rows P row args w' R
  | _ => False
theorem Reaches.mono {P : Program} {R R' : Value -> World -> Prop} (h : ∀ x w, R x w -> R' x w) : ∀ {r : Result Next}, Reaches P R r -> Reaches P R' r
  | .ok (.value _) _, hr => h _ _ hr
  | .ok .skip _, hr => h _ _ hr
  | .ok (.enter _ _) _, hr => Calls.mono hr fun e w he => by cases e <;> first | exact h _ _ he | exact he
  | .ok (.row _ _) _, hr => Rows.mono hr h
theorem Reaches.upon {P : Program} {R : Value -> World -> Prop} {o : Oper} {a : Act} {K : Act -> World -> Prop} {Q : Exit -> Act -> World -> Prop} {r : Result Next}
    (hr : Reaches P R r) (h : ∀ x w, R x w -> K (a.put o.dst x) w) : o.upon P a K Q r := by
  cases r with
  | ok n w =>
    cases n <;> simp only [Reaches] at hr
    . exact h _ _ hr
    . exact h _ _ hr
    . exact Calls.mono hr fun e w he => by
        cases e with
        | returned v => exact h _ _ he
        | panicked c => exact he.elim
        | outgrown => exact he.elim
    . exact Rows.mono hr fun v w he => h _ _ he
  | halt x w => simp only [Reaches] at hr
def jI (ρ : Pos -> Loc) (C : Cells) (st : St) (w : World) (v : AV) (st' : St) (x : Value) (w' : World) : Prop :=
  ∃ ρ', ax ρ' st'.next.toNat C v x /\ (∀ b : Pos, b.toNat < st.next.toNat -> ρ' b = ρ b) /\ st.next.toNat <= st'.next.toNat /\ cw ρ' C st' w' /\ ny ρ st w ρ' st' w'
def kD (P : Program) (C : Cells) (call : ai) : Prop :=
  ∀ (ρ : Pos -> Loc) (st : St) (w : World) (f : FuncId) (args : List AV) (v : AV) (st' : St) (cq : List Value), call f args st = some (v, st') ->
    cw ρ C st w -> ay ρ st.next.toNat C args cq -> Reaches P (jI ρ C st w v st') ((callFunc f cq.toArray).run P w)
section
variable {P : Program} {tt : TT} {C : Cells} {call : ai}
theorem St.A8 (st : St) (del : Option Pos) (set : Option (Pos × AB)) (new : Option AB) : st.next.toNat <= (st.aN del set new).next.toNat := by
  cases new with
  | none => exact Nat.le_refl _
  | some x => simp only [St.aN, Pos.aL]; omega
theorem ER (hT : cG P tt) (gW : kD P C call) {ρ : Pos -> Loc} {st st' : St} {w : World} {k : aE} {xs : List jW} {cls : N3} {fr : Fr} {a : Act} {o : Oper} {vs : List AV} {v : AV}
    (hc : fS tt o.op = some (k, xs, cls)) (hW : cw ρ C st w) (hF : lC ρ st.next.toNat C fr a.tmps) (hx : eC fr xs = some vs)
    (hs : cP call k vs st = some (v, st')) : Reaches P (jI ρ C st w v st') ((execOp a.eval o).run P w) := by
  have H := Eh hT o.op ρ C st w k xs cls fr a o vs
  unfold cP at hs
  split at hs
  . rename_i u hr
    simp only [Option.some.injEq, Prod.mk.injEq] at hs
    obtain ⟨rfl, rfl⟩ := hs
    obtain ⟨N, x, he, hy, hv⟩ := H _ rfl hc hW hF hx hr
    have hp : jI ρ C st w u st x w := ⟨ρ, hv, fun _ _ => rfl, Nat.le_refl _, hW, ny.refl _ _ _⟩
    rw [he]
    rcases hy with rfl | ⟨rfl, rfl⟩ <;> exact hp
  . rename_i u del set new hr
    simp only [Option.some.injEq, Prod.mk.injEq] at hs
    obtain ⟨rfl, rfl⟩ := hs
    obtain ⟨N, x, w', ρ', he, hy, aY, fV, hv, hE⟩ := H _ rfl hc hW hF hx hr
    have hp : jI ρ C st w u (st.aN del set new) x w' := ⟨ρ', hv, aY, St.A8 _ _ _ _, fV, hE⟩
    rw [he]
    rcases hy with rfl | ⟨rfl, rfl⟩ <;> exact hp
  . rename_i f args hr
    obtain ⟨cq, he, hv⟩ := H _ rfl hc hW hF hx hr
    rw [he]
    exact gW ρ st w f args v st' cq hs hW hv
  . cases hs
structure qH (tt : TT) (nt : Nat) (ops : Array Oper) (o : Oper) (ao : bI) : Prop where
  dst : ao.dst = o.dst.map key
  lt : ∀ d, o.dst = some d -> d < nt
  guard : Gq ops o.guard = some ao.guard
  op : (fS tt o.op = some (ao.k, ao.xs, ao.cls)) \/ (ao.k = .bad /\ ao.cls = .aN)
theorem uY {nt : Nat} {ops : Array Oper} : ∀ {os : List Oper} {bs : List Nat} {l : List bI}, sS tt nt ops os bs = some l ->
    l.length = os.length /\ ∀ (i : Nat) (o : Oper), os[i]? = some o -> ∃ ao, l[i]? = some ao /\ qH tt nt ops o ao /\ ao.bL = bs.getD i 0
  | [], bs, l, h => by simp [sS] at h; subst h; exact ⟨rfl, fun i o ho => by simp at ho⟩
  | o :: os, bs, l, h => by
    unfold sS at h
    split at h <;> first | (cases h; done) | skip
    rename_i g l' hg hl hd
    obtain ⟨h1, h2⟩ := uY hl
    have bD : ∀ d, o.dst = some d -> d < nt := fun d hdd => by
      rw [hdd] at hd
      simpa [sS.Va] using hd
    have hb : ∀ i, bs.tail.getD i 0 = bs.getD (i + 1) 0 := fun i => by cases bs <;> simp
    have sU : bs.headD 0 = bs.getD 0 0 := by cases bs <;> simp
    split at h
    . rename_i k xs cls hc
      simp only [Option.some.injEq] at h; subst h
      refine ⟨by simp [h1], fun i o' ho => ?_⟩
      cases i with
      | zero =>
        simp at ho; subst ho
        exact ⟨_, rfl, ⟨rfl, bD, hg, .inl hc⟩, sU⟩
      | succ i =>
        simp at ho
        obtain ⟨ao, h3, h4, h5⟩ := h2 i o' ho
        exact ⟨ao, by simpa using h3, h4, by rw [h5, hb]⟩
    . simp only [Option.some.injEq] at h; subst h
      refine ⟨by simp [h1], fun i o' ho => ?_⟩
      cases i with
      | zero =>
        simp at ho; subst ho
        exact ⟨_, rfl, ⟨rfl, bD, hg, .inr ⟨rfl, rfl⟩⟩, sU⟩
      | succ i =>
        simp at ho
        obtain ⟨ao, h3, h4, h5⟩ := h2 i o' ho
        exact ⟨ao, by simpa using h3, h4, by rw [h5, hb]⟩
theorem xq {ops : Array Oper} {ρ : Pos -> Loc} {n : Nat} {fr : Fr} {a : Act} {o : Oper} {g : Option (Pos × Bool)} {b : Bool} (hg : Gq ops o.guard = some g)
    (hF : ∀ p v, fr.get p = some v -> (∃ q, g = some (p, q)) -> ∃ x, a.tmps[p.toNat - 1]? = some x /\ ax ρ n C v x)
    (hw : bQ fr g = some b) : Region.wanted o (yielded ops a.tmps) = b := by
  unfold Region.wanted
  unfold Gq at hg
  split at hg
  . rename_i hn
    simp only [Option.some.injEq] at hg; subst hg
    simp only [bQ, Option.some.injEq] at hw; subst hw
    rw [hn]
  . rename_i j want hn
    rw [hn]
    split at hg <;> first | (cases hg; done) | skip
    rename_i oj hj
    split at hg <;> first | (cases hg; done) | skip
    rename_i d hd
    simp only [Option.some.injEq] at hg; subst hg
    simp only [bQ] at hw
    split at hw
    . rename_i u hu
      simp only [Option.some.injEq] at hw; subst hw
      obtain ⟨x, hx, hv⟩ := hF _ _ hu ⟨_, rfl⟩
      rw [iG, Nat.add_sub_cancel] at hx
      have := hv.iz; subst this
      simp [yielded, hj, hd, hx]
    . rename_i l hu
      simp only [Option.some.injEq] at hw; subst hw
      obtain ⟨x, hx, hv⟩ := hF _ _ hu ⟨_, rfl⟩
      rw [iG, Nat.add_sub_cancel] at hx
      obtain ⟨cs, rfl, _⟩ := hv.I0
      simp [yielded, hj, hd, hx]
    . cases hw
theorem ax.Je {ρ : Pos -> Loc} {n : Nat} : ax ρ n C AV.undef undef := .tuple [] #[] rfl fun _ _ _ h => by simp at h
theorem Act.A9 (a : Act) (d : Option Tmp) (v : Value) : (a.put d v).tmps.size = a.tmps.size := by cases d <;> simp [Act.put]
theorem Act.uZ (a : Act) (d : Option Tmp) (v : Value) : (a.put d v).defers = a.defers := by cases d <;> rfl
theorem lC.put {ρ : Pos -> Loc} {n nt : Nat} {fr : Fr} {a : Act} {d : Option Tmp} {v : AV} {x : Value} (hF : lC ρ n C fr a.tmps) (hs : a.tmps.size = nt)
    (hd : ∀ e, d = some e -> e < nt) (hv : ax ρ n C v x) : lC ρ n C (dh fr (d.map key) v) (a.put d x).tmps := by
  cases d with
  | none => exact hF
  | some e =>
    have he := hd e rfl
    intro p u hp
    simp only [Option.map_some, dh] at hp
    simp only [Act.put]
    by_cases Og : key e = p
    . subst Og
      rw [T.fQ] at hp
      simp only [Option.some.injEq] at hp; subst hp
      refine ⟨x, ?_, hv⟩
      rw [iG, Nat.add_sub_cancel, Array.getElem?_setIfInBounds]
      simp [hs, he]
    . rw [T.bT _ Og] at hp
      obtain ⟨y, hy, hr⟩ := hF p u hp
      refine ⟨y, ?_, hr⟩
      rw [Array.getElem?_setIfInBounds_ne, hy]
      intro h
      apply Og
      apply Pos.toNat_inj
      rw [iG]
      have := p.toNat_pos
      omega
theorem lC.mono {ρ ρ' : Pos -> Loc} {n n' : Nat} {fr : Fr} {tmps : Array Value} (hF : lC ρ n C fr tmps) (aY : ∀ b : Pos, b.toNat < n -> ρ' b = ρ b) (hn : n <= n') : lC ρ' n' C fr tmps :=
  fun p v hp => let ⟨x, hx, hv⟩ := hF p v hp; ⟨x, hx, hv.mono aY hn⟩
structure Ba (nt : Nat) (ρ : Pos -> Loc) (C : Cells) (fr : Fr) (st : St) (a : Act) (w : World) : Prop where
  W : cw ρ C st w
  F : lC ρ st.next.toNat C fr a.tmps
  size : a.tmps.size = nt
  defers : a.defers = []
def kN (nt : Nat) (ρ : Pos -> Loc) (C : Cells) (st : St) (w : World) (aX : Fr) (st' : St) (a' : Act) (w' : World) : Prop :=
  ∃ ρ', Ba nt ρ' C aX st' a' w' /\ (∀ b : Pos, b.toNat < st.next.toNat -> ρ' b = ρ b) /\ st.next.toNat <= st'.next.toNat /\ ny ρ st w ρ' st' w'
theorem kN.refl {nt : Nat} {ρ : Pos -> Loc} {fr : Fr} {st : St} {a : Act} {w : World} (h : Ba nt ρ C fr st a w) : kN nt ρ C st w fr st a w :=
  ⟨ρ, h, fun _ _ => rfl, Nat.le_refl _, ny.refl _ _ _⟩
theorem kN.trans {nt : Nat} {ρ ig : Pos -> Loc} {Cq : Fr} {st ct yG : St} {a2 : Act} {w w1 w2 : World}
    (h1 : ∀ b : Pos, b.toNat < st.next.toNat -> ig b = ρ b) (h2 : st.next.toNat <= ct.next.toNat) (h3 : ny ρ st w ig ct w1)
    (h : kN nt ig C ct w1 Cq yG a2 w2) : kN nt ρ C st w Cq yG a2 w2 := by
  obtain ⟨vo, k1, k2, k3, k4⟩ := h
  exact ⟨vo, k1, fun b hb => (k2 b (Nat.lt_of_lt_of_le hb h2)).trans (h1 b hb), Nat.le_trans h2 k3, h3.trans k4⟩
theorem Reaches.bad {k : aE} {vs : List AV} {st : St} {r : AV × St} (hk : k = .bad) (h : cP call k vs st = some r) : False := by
  subst hk; simp [cP, aE.run] at h
theorem Bb (hT : cG P tt) (gW : kD P C call) {nt : Nat} {ops : Array Oper} {Q : Exit -> Act -> World -> Prop} : ∀ (La : List bI) (k : Nat) (fr aX : Fr) (st st' : St) (ρ : Pos -> Loc) (a : Act) (w : World),
    (∀ (i : Nat) (ao : bI), La[i]? = some ao -> ∃ o, ops[k + i]? = some o /\ qH tt nt ops o ao) ->
    jy call La fr st = some (aX, st') -> Ba nt ρ C fr st a w -> (∀ a' w', kN nt ρ C st w aX st' a' w' -> Q .normal a' w') -> wpOps P ops Q (List.range' k La.length) a w
  | [], k, fr, aX, st, st', ρ, a, w, _, h, hS, hQ => by
    simp only [jy, Option.some.injEq, Prod.mk.injEq] at h
    obtain ⟨rfl, rfl⟩ := h
    exact hQ a w (kN.refl hS)
  | ao :: La, k, fr, aX, st, st', ρ, a, w, ho, h, hS, hQ => by
    obtain ⟨o, dx, hR⟩ := ho 0 ao rfl
    rw [Nat.add_zero] at dx
    have yO : ∀ (i : Nat) (QH : bI), La[i]? = some QH -> ∃ o, ops[k + 1 + i]? = some o /\ qH tt nt ops o QH := fun i QH hi => by
      obtain ⟨o', h1, h2⟩ := ho (i + 1) QH (by simpa using hi)
      exact ⟨o', by rw [<- h1]; congr 1; omega, h2⟩
    simp only [List.length_cons, List.range'_succ, wpOps, dx]
    unfold jy at h
    split at h
    . rename_i hw
      rw [if_pos (xq hR.guard (fun p v hp _ => hS.F p v hp) hw)]
      split at h <;> first | (cases h; done) | skip
      rename_i vs sB
      split at h <;> first | (cases h; done) | skip
      rename_i v ct vz
      rcases hR.op with hc | ⟨hk, _⟩
      . have hr := ER hT gW hc hS.W hS.F sB vz
        refine .inl (hr.upon fun x w1 hp => ?_)
        obtain ⟨ig, hv, h1, h2, QI, hE⟩ := hp
        rw [hR.dst] at h
        refine Bb hT gW La (k + 1) _ aX ct st' ig _ w1 yO h ⟨QI, lC.put (hS.F.mono h1 h2) hS.size hR.lt hv, by rw [Act.A9]; exact hS.size, by rw [Act.uZ]; exact hS.defers⟩ fun a' w' hp => hQ a' w' (kN.trans h1 h2 hE hp)
      . exact (Reaches.bad hk vz).elim
    . rename_i hw
      rw [if_neg (by rw [xq hR.guard (fun p v hp _ => hS.F p v hp) hw]; simp)]
      rw [hR.dst] at h
      exact Bb hT gW La (k + 1) _ aX st st' ρ _ w yO h ⟨hS.W, lC.put hS.F hS.size hR.lt .Je, by rw [Act.A9]; exact hS.size, by rw [Act.uZ]; exact hS.defers⟩ hQ
    . cases h
theorem Lb {nt : Nat} {ops : Array Oper} {l : List bI} {bs : List Nat} (h : sS tt nt ops ops.toList bs = some l) (i : Nat) (ao : bI) (hi : l[i]? = some ao) :
    ∃ o, ops[i]? = some o /\ qH tt nt ops o ao /\ ao.bL = bs.getD i 0 := by
  obtain ⟨h1, h2⟩ := uY h
  have bD : i < ops.toList.length := by rw [<- h1]; exact (List.getElem?_eq_some_iff.1 hi).1
  obtain ⟨QH, h3, h4, h5⟩ := h2 i _ (List.getElem?_eq_getElem bD)
  rw [hi] at h3
  simp only [Option.some.injEq] at h3; subst h3
  exact ⟨_, by rw [<- Array.getElem?_toList]; exact List.getElem?_eq_getElem bD, h4, h5⟩
theorem Lc (hT : cG P tt) (gW : kD P C call) {nt id : Nat} {ops : Array Oper} {bs : List Nat} {l : List bI} {Q : Exit -> Act -> World -> Prop} {fr aX : Fr} {st st' : St} {ρ : Pos -> Loc} {a : Act} {w : World}
    (hl : sS tt nt ops ops.toList bs = some l) (h : jy call l fr st = some (aX, st')) (hS : Ba nt ρ C fr st a w)
    (hQ : ∀ a' w', kN nt ρ C st w aX st' a' w' -> Q .normal a' w') : (Code.region id ops false).wp P Q a w := by
  apply wp_region
  have hlen : l.length = ops.size := by rw [(uY hl).1, Array.length_toList]
  rw [List.range_eq_range', <- hlen]
  exact Bb hT gW l 0 fr aX st st' ρ a w (fun i ao hi => by
    obtain ⟨o, h1, h2, _⟩ := Lb hl i ao hi
    exact ⟨o, by rw [Nat.zero_add]; exact h1, h2⟩) h hS hQ
end
end Go.Ai
end
section
namespace Go.Ai
open Go Go.RowKit
section
variable {P : Program} {tt : TT} {C : Cells} {call : ai}
def C9 (P : Program) (tt : TT) (C : Cells) (call : ai) : Prop :=
  ∀ (nt id : Nat) (ops : Array Oper) (l : List bI) (Q : Exit -> Act -> World -> Prop) (fr aX : Fr) (st st' : St) (ρ : Pos -> Loc) (a : Act) (w : World),
    sS tt nt ops ops.toList (KL ops.toList []) = some l -> zU l.length 0 (rK (xe 0 l) []) = true -> dc call (rK (xe 0 l) []) [] st.heap fr st = some (aX, st') -> Ba nt ρ C fr st a w ->
    (∀ a' w', kN nt ρ C st w aX st' a' w' -> Q .normal a' w') -> (Code.region id ops true).wp P Q a w
def Ei : mD -> Exit
  | .normal => .normal
  | .exit id => .exit id
  | .ret => .ret
def GF (P : Program) (tt : TT) (C : Cells) (call : ai) (nt m : Nat) : Prop :=
  ∀ (c : Code) (ac : AC) (fr aX : Fr) (st st' : St) (ex : mD) (ρ : Pos -> Loc) (a : Act) (w : World) (Q : Exit -> Act -> World -> Prop),
    uW tt nt c = some ac -> exec call m ac fr st = some (ex, aX, st') -> Ba nt ρ C fr st a w ->
    (∀ a' w', kN nt ρ C st w aX st' a' w' -> Q (Ei ex) a' w') -> c.wp P Q a w
def GG (P : Program) (tt : TT) (C : Cells) (call : ai) (nt m : Nat) : Prop :=
  ∀ (c : Code) (ac : AC) (fr aX : Fr) (st st' : St) (ex : mD) (ρ : Pos -> Loc) (a : Act) (w : World) (Q : Exit -> Act -> World -> Prop),
    uW tt nt c = some ac -> exec call m (.loop ac) fr st = some (ex, aX, st') -> Ba nt ρ C fr st a w ->
    (∀ a' w', kN nt ρ C st w aX st' a' w' -> Q (Ei ex) a' w') -> Code.rounds P c Q m a w
theorem Jf {nt m : Nat} (xw : GF P tt C call nt m) (ihL : GG P tt C call nt m) : GG P tt C call nt (m + 1) := by
  intro c ac fr aX st st' ex ρ a w Q hc h hS hQ
  simp only [exec, aQ] at h
  rw [rounds_succ]
  split at h
  . rename_i fG ct h1
    refine xw c ac fr fG st ct .normal ρ a w _ hc h1 hS fun a1 w1 hp => ?_
    obtain ⟨ig, qc, k1, k2, k3⟩ := hp
    exact ihL c ac fG aX ct st' ex ig a1 w1 Q hc h qc fun a2 w2 hp => hQ a2 w2 (kN.trans k1 k2 k3 hp)
  . rename_i cM
    cases ex with
    | normal => exact (cM _ _ h).elim
    | exit id => exact xw c ac fr aX st st' (.exit id) ρ a w _ hc h hS fun a1 w1 hp => hQ a1 w1 hp
    | ret => exact xw c ac fr aX st st' .ret ρ a w _ hc h hS fun a1 w1 hp => hQ a1 w1 hp
theorem QJ (hT : cG P tt) (gW : kD P C call) (sX : C9 P tt C call) {nt m : Nat} (xw : GF P tt C call nt m) (ihL : GG P tt C call nt m) : GF P tt C call nt (m + 1) := by
  intro c ac fr aX st st' ex ρ a w Q hc h hS hQ
  have abX := Jf xw ihL
  unfold uW at hc
  split at hc <;> first | (cases hc; done) | skip
  . simp only [Option.some.injEq] at hc; subst hc
    simp only [exec, aQ, Option.some.injEq, Prod.mk.injEq] at h
    obtain ⟨rfl, rfl, rfl⟩ := h
    exact wp_skip (hQ _ _ (kN.refl hS))
  . rename_i ix ops draw
    split at hc <;> first | (cases hc; done) | skip
    rename_i l hl
    split at hc
    . simp only [Option.some.injEq] at hc; subst hc
      simp only [exec, aQ] at h
      split at h <;> first | (cases h; done) | skip
      rename_i fG ct h1
      simp only [Option.some.injEq, Prod.mk.injEq] at h
      obtain ⟨rfl, rfl, rfl⟩ := h
      exact Lc hT gW hl h1 hS hQ
    . split at hc <;> first | (cases hc; done) | skip
      rename_i ht
      simp only [Option.some.injEq] at hc; subst hc
      simp only [exec, aQ] at h
      split at h <;> first | (cases h; done) | skip
      rename_i fG ct h1
      simp only [Option.some.injEq, Prod.mk.injEq] at h
      obtain ⟨rfl, rfl, rfl⟩ := h
      exact sX nt _ ops l Q fr fG st ct ρ a w hl ht h1 hS hQ
  . split at hc <;> first | (cases hc; done) | skip
    rename_i x y h1 h2
    simp only [Option.some.injEq] at hc; subst hc
    simp only [exec, aQ] at h
    apply wp_seq
    split at h
    . rename_i fG ct h3
      refine xw _ _ fr fG st ct .normal ρ a w _ h1 h3 hS fun a1 w1 hp => ?_
      obtain ⟨ig, qc, k1, k2, k3⟩ := hp
      exact xw _ _ fG aX ct st' ex ig a1 w1 Q h2 h qc fun a2 w2 hp => hQ a2 w2 (kN.trans k1 k2 k3 hp)
    . rename_i cM
      cases ex with
      | normal => exact (cM _ _ h).elim
      | exit id => exact xw _ _ fr aX st st' (.exit id) ρ a w _ h1 h hS fun a1 w1 hp => hQ a1 w1 hp
      | ret => exact xw _ _ fr aX st st' .ret ρ a w _ h1 h hS fun a1 w1 hp => hQ a1 w1 hp
  . split at hc <;> first | (cases hc; done) | skip
    rename_i x y z h1 h2 h3
    simp only [Option.some.injEq] at hc; subst hc
    simp only [exec, aQ] at h
    split at h
    . rename_i hx
      exact wp_cond_true ((xk h1 hS.F hx).iz) (xw _ _ fr aX st st' ex ρ a w Q h2 h hS hQ)
    . rename_i hx
      exact wp_cond_false ((xk h1 hS.F hx).iz) (xw _ _ fr aX st st' ex ρ a w Q h3 h hS hQ)
    . cases h
  . split at hc <;> first | (cases hc; done) | skip
    rename_i x h1
    simp only [Option.some.injEq] at hc; subst hc
    simp only [exec, aQ] at h
    apply wp_block
    split at h
    . rename_i pK fG ct h2
      split at h
      . rename_i he
        simp only [Option.some.injEq, Prod.mk.injEq] at h
        obtain ⟨rfl, rfl, rfl⟩ := h
        have := Nat.eq_of_beq_eq_true he; subst this
        exact xw _ _ fr fG st ct (.exit pK) ρ a w _ h1 h2 hS fun a1 w1 hp => by
          simp only [Ei, Exit.inBlock, if_true]; exact hQ a1 w1 hp
      . rename_i he
        simp only [Option.some.injEq, Prod.mk.injEq] at h
        obtain ⟨rfl, rfl, rfl⟩ := h
        have := Nat.ne_of_beq_eq_false he
        exact xw _ _ fr fG st ct (.exit pK) ρ a w _ h1 h2 hS fun a1 w1 hp => by
          simp only [Ei, Exit.inBlock, if_neg this]; exact hQ a1 w1 hp
    . rename_i cM
      cases ex with
      | normal => exact xw _ _ fr aX st st' .normal ρ a w _ h1 h hS fun a1 w1 hp => hQ a1 w1 hp
      | exit id => exact (cM _ _ _ h).elim
      | ret => exact xw _ _ fr aX st st' .ret ρ a w _ h1 h hS fun a1 w1 hp => hQ a1 w1 hp
  . split at hc <;> first | (cases hc; done) | skip
    rename_i x h1
    simp only [Option.some.injEq] at hc; subst hc
    exact wp_loop_rounds (m + 1) (abX _ _ fr aX st st' ex ρ a w Q h1 h hS hQ)
  . simp only [Option.some.injEq] at hc; subst hc
    simp only [exec, aQ, Option.some.injEq, Prod.mk.injEq] at h
    obtain ⟨rfl, rfl, rfl⟩ := h
    exact wp_exit (hQ _ _ (kN.refl hS))
  . simp only [Option.some.injEq] at hc; subst hc
    simp only [exec, aQ, Option.some.injEq, Prod.mk.injEq] at h
    obtain ⟨rfl, rfl, rfl⟩ := h
    exact wp_ret (hQ _ _ (kN.refl hS))
theorem sY (hT : cG P tt) (gW : kD P C call) (sX : C9 P tt C call) {nt : Nat} : ∀ m, GF P tt C call nt m /\ GG P tt C call nt m
  | 0 => ⟨fun c ac fr aX st st' ex ρ a w Q hc h => by simp [exec] at h, fun c ac fr aX st st' ex ρ a w Q hc h => by simp [exec] at h⟩
  | m + 1 => let ⟨h1, h2⟩ := sY hT gW sX m; ⟨QJ hT gW sX h1 h2, Jf h1 h2⟩
def Ej (tmps : Array Value) : ResultVar -> Sem Value
  | .tmp t => pure (tmps.getD t undef)
  | .cell a t => do loadVar t (<- asAddr (tmps.getD a undef))
theorem Po (hT : cG P tt) {ρ : Pos -> Loc} {st : St} {w : World} {fr : Fr} {a : Act} {x : Tmp} {t : TypeId} {ti : TI} {q v : AV} (ez : tt.get (key t) = some ti)
    (hW : cw ρ C st w) (hF : lC ρ st.next.toNat C fr a.tmps) (hq : fr.get (key x) = some q) (hr : (aE.load (sQ ti)).run (fun b => st.heap.get b) .h [q] = some (.val v)) :
    ∃ y, (Ej a.tmps (.cell x t)).run P w = .ok y w /\ ax ρ st.next.toNat C v y := by
  have hc : fS tt (.load t (.tmp x)) = some (.load (sQ ti), [.t (key x)], .read) := by simp [fS, ez, nw]
  have hx : eC fr [.t (key x)] = some [q] := by simp [eC, vn, hq]
  have jX : (aE.load (sQ ti)).run (fun b => st.heap.get b) st.next [q] = some (.val v) := hr
  obtain ⟨N, y, he, hy, hv⟩ := Eh hT (.load t (.tmp x)) ρ C st w _ _ _ fr a { dst := none, op := .load t (.tmp x), type := t, pos := default, after := #[], guard := none } _ _ rfl hc hW hF hx jX
  refine ⟨y, ?_, hv⟩
  simp only [execOp, Instr.loadAt, Act.eval] at he
  simp only [Ej]
  obtain ⟨z, hz, Vm⟩ := hF _ _ hq
  rw [iG, Nat.add_sub_cancel] at hz
  have hzd : a.tmps.getD x undef = z := by simp [Array.getD_eq_getD_getElem?, hz]
  rw [hzd] at he ⊢
  have hp : ∃ ad, z = .pointer (some ad) := by
    simp only [aE.run, qF] at hr
    split at hr <;> first | (cases hr; done) | skip
    . obtain ⟨_, h⟩ := Vm.mo; exact ⟨_, h⟩
    . obtain ⟨_, _, _, _, h, _⟩ := Vm.zX; exact ⟨_, h⟩
  obtain ⟨ad, rfl⟩ := hp
  simp only [Instr.sureAddr, asAddr, Sem.run_bind, Sem.run_pure, Result.andThen] at he ⊢
  cases hl : (loadVar t ad).run P w with
  | ok u w1 =>
    rw [hl] at he
    simp at he
    obtain ⟨h1, h2⟩ := he
    subst h2
    rcases hy with hy | ⟨hy, _⟩
    . rw [hy] at h1; simp at h1; rw [h1]
    . rw [hy] at h1; simp at h1
  | halt u w1 => rw [hl] at he; simp at he
theorem xx (hT : cG P tt) {ρ : Pos -> Loc} {st : St} {w : World} {fr : Fr} {a : Act} (hW : cw ρ C st w) (hF : lC ρ st.next.toNat C fr a.tmps) :
    ∀ (rs : List ResultVar) (GH : List Gn) (vs : List AV), p6 tt rs = some GH -> fC (fun b => st.heap.get b) fr GH = some vs ->
      ∃ ys, (rs.mapM (Ej a.tmps)).run P w = .ok ys w /\ ay ρ st.next.toNat C vs ys
  | [], GH, vs, hc, hr => by
    simp only [p6, Option.some.injEq] at hc; subst hc
    simp only [fC, Option.some.injEq] at hr; subst hr
    exact ⟨[], by simp, ay.nil⟩
  | .tmp t :: rs, GH, vs, hc, hr => by
    simp only [p6] at hc
    split at hc <;> first | (cases hc; done) | skip
    rename_i l hl
    simp only [Option.some.injEq] at hc; subst hc
    simp only [fC] at hr
    split at hr <;> first | (cases hr; done) | skip
    rename_i v hv
    split at hr <;> first | (cases hr; done) | skip
    rename_i us Ql
    simp only [Option.some.injEq] at hr; subst hr
    obtain ⟨ys, h1, h2⟩ := xx hT hW hF rs l us hl Ql
    obtain ⟨z, hz, Vm⟩ := hF _ _ hv
    rw [iG, Nat.add_sub_cancel] at hz
    refine ⟨z :: ys, ?_, ay.cons Vm h2⟩
    simp [List.mapM_cons, Ej, h1, Array.getD_eq_getD_getElem?, hz]
  | .cell x t :: rs, GH, vs, hc, hr => by
    simp only [p6] at hc
    split at hc <;> first | (cases hc; done) | skip
    rename_i ti l Ja hl
    simp only [Option.some.injEq] at hc; subst hc
    simp only [fC] at hr
    split at hr <;> first | (cases hr; done) | skip
    rename_i q hq
    split at hr <;> first | (cases hr; done) | skip
    rename_i v hv
    split at hr <;> first | (cases hr; done) | skip
    rename_i us Ql
    simp only [Option.some.injEq] at hr; subst hr
    obtain ⟨ys, h1, h2⟩ := xx hT hW hF rs l us hl Ql
    obtain ⟨y, h3, h4⟩ := Po hT Ja hW hF hq hv
    refine ⟨y :: ys, ?_, ay.cons h4 h2⟩
    simp [List.mapM_cons, h1, h3]
theorem rL (hT : cG P tt) {ρ : Pos -> Loc} {st : St} {w : World} {fr : Fr} {a : Act} {fn : Func} {GH : List Gn} {vs : List AV} (hW : cw ρ C st w) (hF : lC ρ st.next.toNat C fr a.tmps)
    (hc : p6 tt fn.results.toList = some GH) (hr : fC (fun b => st.heap.get b) fr GH = some vs) :
    ∃ y, (results fn a.tmps).run P w = .ok y w /\ ax ρ st.next.toNat C (sO vs) y := by
  obtain ⟨ys, h1, h2⟩ := xx hT hW hF _ GH vs hc hr
  have h3 : (fn.results.mapM (Ej a.tmps)).run P w = .ok ys.toArray w := by
    rw [Array.mapM_eq_mapM_toList]
    simp [h1]
  have h4 : (results fn a.tmps).run P w = .ok (if h : ys.toArray.size = 1 then ys.toArray[0] else .tuple ys.toArray) w := by
    have hfun : results fn a.tmps = (fn.results.mapM (Ej a.tmps) >>= fun vs => pure (if h : vs.size = 1 then vs[0] else .tuple vs)) := by
      unfold results
      congr 2
    rw [hfun, Sem.run_bind, h3]
    simp
  refine ⟨_, h4, ?_⟩
  cases vs with
  | nil => have := h2.o4; subst this; simp [sO]; exact .p7 (by simpa using ay.nil)
  | cons v vs =>
    obtain ⟨y, ys', rfl, hv, sB⟩ := h2.cons_inv
    cases vs with
    | nil => have := sB.o4; subst this; simpa [sO] using hv
    | cons v' Z4 =>
      obtain ⟨y', ys'', rfl, z6, SV⟩ := sB.cons_inv
      simp [sO]
      exact .p7 (by simpa using ay.cons hv (ay.cons z6 SV))
def GI (P : Program) (tt : TT) (G : T aK) : Prop :=
  ∀ p F, G.get p = some F -> ∃ fn, P.funcs[p.toNat - 1]? = some fn /\ (fn.name == "runtime.NumGoroutine") = false /\ ak tt fn = some F
def qd (P : Program) (C : Cells) (O : fy) : Prop :=
  ∀ (f : FuncId) (s : List AV -> St -> Option (AV × St)), O f = some s ->
    ∀ (ρ : Pos -> Loc) (st : St) (w : World) (args : List AV) (v : AV) (st' : St) (cq : List Value), s args st = some (v, st') ->
      cw ρ C st w -> ay ρ st.next.toNat C args cq -> Reaches P (jI ρ C st w v st') ((callFunc f cq.toArray).run P w)
theorem Bc {ρ : Pos -> Loc} {n : Nat} {tmps : Array Value} : ∀ (vs : List AV) (xs : List Value) (i : Nat) (fr : Fr), ay ρ n C vs xs ->
    (∀ (j : Nat) (x : Value), xs[j]? = some x -> tmps[i + j]? = some x) -> lC ρ n C fr tmps -> lC ρ n C (params i vs fr) tmps
  | [], _, _, _, _, _, hF => hF
  | v :: vs, xs, i, fr, h, hx, hF => by
    obtain ⟨x, sy, rfl, hv, sB⟩ := h.cons_inv
    unfold params
    refine Bc vs sy (i + 1) _ sB (fun j y hy => by rw [<- hx (j + 1) y (by simpa using hy)]; congr 1; omega) fun p u hp => ?_
    by_cases Og : key i = p
    . subst Og
      rw [T.fQ] at hp
      simp only [Option.some.injEq] at hp; subst hp
      exact ⟨x, by rw [iG, Nat.add_sub_cancel]; exact hx 0 x rfl, hv⟩
    . rw [T.bT _ Og] at hp
      exact hF p u hp
theorem ES (hT : cG P tt) {O : fy} {G : T aK} (hO : qd P C O) (hG : GI P tt G) (m : Nat) (sX : ∀ d, kD P C (mE O G m d) -> C9 P tt C (mE O G m d)) : ∀ d, kD P C (mE O G m d)
  | 0 => fun ρ st w f args v st' cq h => by simp [mE] at h
  | d + 1 => by
    intro ρ st w f args v st' cq h hW rM
    have ih := ES hT hO hG m sX d
    unfold mE at h
    split at h
    . rename_i s hs
      exact hO f s hs ρ st w args v st' cq h hW rM
    . split at h <;> first | (cases h; done) | skip
      rename_i F hF
      split at h <;> first | (cases h; done) | skip
      rename_i hlen
      have hlen := Nat.eq_of_beq_eq_true hlen
      obtain ⟨fn, iw, pM, xy⟩ := hG _ _ hF
      rw [iG, Nat.add_sub_cancel] at iw
      unfold ak at xy
      split at xy <;> first | (cases xy; done) | skip
      rename_i c hb
      split at xy <;> first | (cases xy; done) | skip
      rename_i ac rs QK Oh hle
      simp only [Option.some.injEq] at xy; subst xy
      simp only at h hlen
      have hle := Nat.le_of_ble_eq_true hle
      have cH : (callFunc f cq.toArray).run P w = .ok (.enter f cq.toArray) w := by
        have Ld : ¬ fn.name = "runtime.NumGoroutine" := by simpa using pM
        simp [callFunc, iw, Ld, hb]
      rw [cH]
      simp only [Reaches]
      refine calls_of_wp iw hb ?_
      have gO : cq.length <= fn.ntmps := by rw [<- rM.1, hlen]; exact hle
      have hS : Ba fn.ntmps ρ C (params 0 args .e) st { tmps := cq.toArray ++ Array.replicate (fn.ntmps - cq.toArray.size) undef, defers := [] } w := by
        refine ⟨hW, ?_, ?_, rfl⟩
        . refine Bc args cq 0 .e rM (fun j x hx => ?_) (fun p v hp => by rw [T.fO] at hp; cases hp)
          have hj : j < cq.length := (List.getElem?_eq_some_iff.1 hx).1
          rw [Nat.zero_add, Array.getElem?_append_left (by simpa using hj)]
          simpa using hx
        . simp; omega
      split at h <;> first | (cases h; done) | skip
      . rename_i fG ct h1
        split at h <;> first | (cases h; done) | skip
        rename_i vs sB
        simp only [Option.some.injEq, Prod.mk.injEq] at h
        obtain ⟨rfl, rfl⟩ := h
        refine (sY hT ih (sX _ ih) m).1 c ac _ fG st ct .normal ρ _ w _ QK h1 hS fun a' w' hp => ?_
        obtain ⟨ig, qc, k1, k2, k3⟩ := hp
        obtain ⟨y, EG, EH⟩ := rL hT qc.W qc.F Oh sB
        exact ⟨qc.defers, y, EG, ig, EH, k1, k2, qc.W, k3⟩
      . rename_i fG ct h1
        split at h <;> first | (cases h; done) | skip
        rename_i vs sB
        simp only [Option.some.injEq, Prod.mk.injEq] at h
        obtain ⟨rfl, rfl⟩ := h
        refine (sY hT ih (sX _ ih) m).1 c ac _ fG st ct .ret ρ _ w _ QK h1 hS fun a' w' hp => ?_
        obtain ⟨ig, qc, k1, k2, k3⟩ := hp
        obtain ⟨y, EG, EH⟩ := rL hT qc.W qc.F Oh sB
        exact ⟨qc.defers, y, EG, ig, EH, k1, k2, qc.W, k3⟩
end
end Go.Ai
end
