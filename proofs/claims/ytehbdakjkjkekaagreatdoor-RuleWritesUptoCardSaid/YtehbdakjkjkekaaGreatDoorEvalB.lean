/- The evaluator's operations answer as the model's do, first part. -/
import Derived.Test.YtehbdakjkjkekaaGreatDoorEvalA
import Derived.LaidEql
import Derived.Laws.Strings
import Derived.Laws.StructEq
import Derived.Laws.Small
import Derived.Lib.Builder
import Derived.Laws.BytesString
import Derived.Laws.Tables
set_option linter.all false
set_option linter.unusedSectionVars false
set_option linter.deprecated false
section
namespace Go.Ai
def tkMatch : TK -> TypeDesc -> Bool
  | .bool, .bool => true
  | .int k, .int k' => eqKind k k'
  | .string, .string => true
  | .ptr e, .pointer e' => Nat.beq e e'
  | .slice e, .slice e' => Nat.beq e e'
  | .array n e, .array n' e' => Nat.beq n n' && Nat.beq e e'
  | .map k e, .map k' e' => Nat.beq k k' && Nat.beq e e'
  | .struct fs, .struct fs' => fieldsMatch fs fs'.toList
  | .func, .func _ _ _ => true
  | .iface, .interface _ => true
  | .upt, .unsafePointer => true
  | .other, .interface _ => false
  | .other, .int _ => false
  | .other, .array _ _ => false
  | .other, .struct _ => false
  | .other, _ => true
  | _, _ => false
where
  fieldsMatch : List (Nat × Nat × Bool) -> List Field -> Bool
    | [], [] => true
    | (off, t, named) :: l, f :: l' => Nat.beq off f.offset && Nat.beq t f.type && (named == (f.name != "_")) && fieldsMatch l l'
    | _, _ => false
structure TIOk (P : Program) (t : TypeId) (ti : TI) : Prop where
  und : ∃ d, P.underlying t = some d /\ tkMatch ti.k d = true
  info : ∃ i, P.info? t = some i /\ i.size = ti.size /\ i.bytes = ti.bytes /\
    ∀ z, ti.zero = some z -> ∃ v, i.zero = some v /\ scalarsOf v.cells.toList = some z /\ z.length = ti.size /\ (ti.k.isAgg = true -> ∃ cs, v = .agg cs) /\ (ti.k.isAgg = false -> v.cells = #[v])
  elem : ∀ e, ti.k = .ptr e -> ∃ j, P.info? e = some j
  eqs : ti.eqPlainStruct = true -> P.stoodInHeld t = false /\ P.eqGuardType P.depth t = false
def TTOk (P : Program) (tt : TT) : Prop := ∀ p ti, tt.get p = some ti -> TIOk P (p.toNat - 1) ti
theorem TTOk.at {P : Program} {tt : TT} (h : TTOk P tt) {t : Nat} {ti : TI} (ht : tt.get (key t) = some ti) : TIOk P t ti := by
  have := h _ _ ht
  rwa [key_toNat, Nat.add_sub_cancel] at this
section
variable {P : Program} {tt : TT} {ρ : Pos -> Loc} {n : Nat} {C : Cells}
theorem run_und {t : TypeId} {d : TypeDesc} (h : P.underlying t = some d) (w : World) : (underlying t).run P w = .ok d w := run_underlying h w
theorem run_info {t : TypeId} {i : TypeInfo} (h : P.info? t = some i) (w : World) : (typeInfo t).run P w = .ok i w := by simp [typeInfo, h]
theorem run_size {t : TypeId} {i : TypeInfo} (h : P.info? t = some i) (w : World) : (sizeOf t).run P w = .ok i.size w := by simp [sizeOf, typeInfo, h]
theorem run_zero {t : TypeId} {i : TypeInfo} {v : Value} (h : P.info? t = some i) (hz : i.zero = some v) (w : World) : (zeroValue t).run P w = .ok v w := by simp [zeroValue, typeInfo, h, hz]
theorem tk_isAgg {k : TK} {d : TypeDesc} (h : tkMatch k d = true) (w : World) {t : TypeId} (ht : P.underlying t = some d) : (isAgg t).run P w = .ok k.isAgg w := by
  cases k <;> cases d <;> first | (simp [tkMatch] at h; done) | simp [isAgg, run_und ht, TK.isAgg]
theorem tk_slice {e : Nat} {d : TypeDesc} (h : tkMatch (.slice e) d = true) : d = .slice e := by
  cases d <;> simp [tkMatch] at h; rw [h]
theorem tk_ptr {e : Nat} {d : TypeDesc} (h : tkMatch (.ptr e) d = true) : d = .pointer e := by
  cases d <;> simp [tkMatch] at h; rw [h]
theorem tk_array {m e : Nat} {d : TypeDesc} (h : tkMatch (.array m e) d = true) : d = .array m e := by
  cases d <;> simp [tkMatch] at h; rw [h.1, h.2]
theorem tk_map {k e : Nat} {d : TypeDesc} (h : tkMatch (.map k e) d = true) : d = .map k e := by
  cases d <;> simp [tkMatch] at h; rw [h.1, h.2]
theorem tk_bool {d : TypeDesc} (h : tkMatch .bool d = true) : d = .bool := by
  cases d <;> simp [tkMatch] at h; rfl
theorem eqKind_eq {a b : IntKind} (h : eqKind a b = true) : a = b := by
  unfold eqKind at h; split at h
  . assumption
  . cases h
theorem tk_int {k : IntKind} {d : TypeDesc} (h : tkMatch (.int k) d = true) : d = .int k := by
  cases d <;> simp [tkMatch] at h; rw [eqKind_eq h]
theorem tk_string {d : TypeDesc} (h : tkMatch .string d = true) : d = .string := by
  cases d <;> simp [tkMatch] at h; rfl
theorem tk_struct {fs : List (Nat × Nat × Bool)} {d : TypeDesc} (h : tkMatch (.struct fs) d = true) : ∃ gs, d = .struct gs /\ tkMatch.fieldsMatch fs gs.toList = true := by
  cases d <;> simp [tkMatch] at h; exact ⟨_, rfl, h⟩
theorem tk_func {d : TypeDesc} (h : tkMatch .func d = true) : ∃ a b c, d = .func a b c := by
  cases d <;> simp [tkMatch] at h; exact ⟨_, _, _, rfl⟩
theorem tk_iface {d : TypeDesc} (h : tkMatch .iface d = true) : ∃ a, d = .interface a := by
  cases d <;> simp [tkMatch] at h; exact ⟨_, rfl⟩
theorem tk_upt {d : TypeDesc} (h : tkMatch .upt d = true) : d = .unsafePointer := by
  cases d <;> simp [tkMatch] at h; rfl
theorem nth_eq {α : Type} : ∀ (l : List α) (i : Nat), nth l i = l[i]?
  | [], _ => by simp [nth]
  | _ :: _, 0 => rfl
  | _ :: l, i + 1 => by simp [nth, nth_eq l i]
theorem field_at : ∀ {fs : List (Nat × Nat × Bool)} {gs : List Field} {i : Nat} {x : Nat × Nat × Bool}, tkMatch.fieldsMatch fs gs = true -> nth fs i = some x ->
    ∃ f, gs[i]? = some f /\ f.offset = x.1 /\ f.type = x.2.1 /\ (f.name != "_") = x.2.2
  | [], _, i, _, _, h => by simp [nth] at h
  | (off, t, named) :: l, [], i, _, h, _ => by simp [tkMatch.fieldsMatch] at h
  | (off, t, named) :: l, f :: l', 0, x, h, hx => by
    simp [tkMatch.fieldsMatch] at h
    simp [nth] at hx
    subst hx
    exact ⟨f, rfl, h.1.1.1.symm, h.1.1.2.symm, h.1.2.symm⟩
  | (off, t, named) :: l, f :: l', i + 1, x, h, hx => by
    simp [tkMatch.fieldsMatch] at h
    simp [nth] at hx
    obtain ⟨f', h1, h2⟩ := field_at h.2 hx
    exact ⟨f', by simpa using h1, h2⟩
theorem scalarOf_rel {v : Value} {a : AV} (h : scalarOf v = some a) : VRel ρ n C a v := by
  unfold scalarOf at h
  split at h <;> first
    | (cases h; done)
    | (simp only [Option.some.injEq] at h; subst h)
  . exact .bool _
  . exact .int _ _
  . exact .str _ _ rfl
  . exact .nilp
  . exact .nils
  . exact .nilm
  . exact .func _ _ _ _ _ rfl rfl (fun _ _ _ h => by simp at h) (fun _ _ _ h => by simp at h)
  . exact .nilf
  . exact .nili
theorem scalarsOf_rel : ∀ {l : List Value} {as : List AV}, scalarsOf l = some as -> VsRel ρ n C as l
  | [], as, h => by simp [scalarsOf] at h; subst h; exact VsRel.nil
  | v :: l, as, h => by
    unfold scalarsOf at h
    split at h
    . rename_i a as' h1 h2
      simp only [Option.some.injEq] at h; subst h
      exact VsRel.cons (scalarOf_rel h1) (scalarsOf_rel h2)
    . cases h
theorem constOf_rel {v : Value} {a : AV} (h : constOf v = some a) : VRel ρ n C a v := by
  unfold constOf at h
  split at h
  . split at h
    . rename_i l hl; simp only [Option.some.injEq] at h; subst h; exact .agg_of (scalarsOf_rel hl)
    . cases h
  . exact scalarOf_rel h
theorem cOpd_rel {x : Operand} {o : AOpd} {fr : Fr} {a : Act} {v : AV} (h : cOpd x = some o) (hF : FRel ρ n C fr a.tmps) (hv : evA fr o = some v) : VRel ρ n C v (a.eval x) := by
  unfold cOpd at h
  split at h
  . rename_i t
    simp only [Option.some.injEq] at h; subst h
    obtain ⟨y, hy, hr⟩ := hF _ _ hv
    rw [key_toNat, Nat.add_sub_cancel] at hy
    simp only [Act.eval, Array.getD_eq_getD_getElem?, hy, Option.getD_some]; exact hr
  . split at h
    . rename_i c hc
      simp only [Option.some.injEq] at h; subst h
      simp only [evA, Option.some.injEq] at hv; subst hv
      exact constOf_rel hc
    . cases h
  . rename_i f
    simp only [Option.some.injEq] at h; subst h
    simp only [evA, Option.some.injEq] at hv; subst hv
    exact .func _ _ _ _ _ rfl rfl (fun _ _ _ h => by simp at h) (fun _ _ _ h => by simp at h)
  . cases h
theorem cOpds_rel : ∀ {xs : List Operand} {os : List AOpd} {fr : Fr} {a : Act} {vs : List AV}, cOpds xs = some os -> FRel ρ n C fr a.tmps -> evsA fr os = some vs -> VsRel ρ n C vs (xs.map a.eval)
  | [], os, fr, a, vs, h, _, hv => by
    simp [cOpds] at h; subst h
    simp [evsA] at hv; subst hv
    exact VsRel.nil
  | x :: xs, os, fr, a, vs, h, hF, hv => by
    unfold cOpds at h
    split at h
    . rename_i o os' h1 h2
      simp only [Option.some.injEq] at h; subst h
      unfold evsA at hv
      split at hv
      . rename_i v vL
        split at hv
        . rename_i Bp oP
          simp only [Option.some.injEq] at hv; subst hv
          exact VsRel.cons (cOpd_rel h1 hF vL) (cOpds_rel h2 hF oP)
        . cases hv
      . cases hv
    . cases h
theorem cOpd_rel1 {x : Operand} {o : AOpd} {fr : Fr} {a : Act} {vs : List AV} (h : cOpd x = some o) (hF : FRel ρ n C fr a.tmps) (hv : evsA fr [o] = some vs) :
    ∃ v, vs = [v] /\ VRel ρ n C v (a.eval x) := by
  unfold evsA at hv
  split at hv
  . rename_i v vL
    simp only [evsA, Option.some.injEq] at hv; subst hv
    exact ⟨v, rfl, cOpd_rel h hF vL⟩
  . cases hv
end
def Yields (N : Next) (x : Value) : Prop := N = .value x \/ (N = .skip /\ x = undef)
def ResOk (P : Program) (ρ : Pos -> Loc) (C : Cells) (st : St) (w : World) (r : Result Next) : ARes -> Prop
  | .val v => ∃ N x, r = .ok N w /\ Yields N x /\ VRel ρ st.next.toNat C v x
  | .eff v del set new => ∃ N x w' ρ', r = .ok N w' /\ Yields N x /\ (∀ b : Pos, b.toNat < st.next.toNat -> ρ' b = ρ b) /\ WRel ρ' C (st.eff del set new) w' /\
      VRel ρ' (st.eff del set new).next.toNat C v x /\ Evo ρ st w ρ' (st.eff del set new) w'
  | .call f args => ∃ ay : List Value, r = (callFunc f ay.toArray).run P w /\ VsRel ρ st.next.toNat C args ay
end Go.Ai
end
section
namespace Go.Ai
open Go Go.RowKit
theorem add_at (b o i : Nat) : (⟨b, o, none⟩ : Addr).add i = ⟨b, o + i, none⟩ := by
  unfold Addr.add; split
  . rename_i h; subst h; rfl
  . rfl
section
variable {P : Program} {ρ ρ' : Pos -> Loc} {C : Cells} {st : St} {w w' : World}
theorem WRel.put1 (hW : WRel ρ C st w) {wN : T AB} {next' b0 : Pos} {x0 : AB}
    (hn : st.next.toNat <= next'.toNat) (gj : b0.toNat < next'.toNat) (Kt : wN.get b0 = some x0)
    (dm : ∀ b x, b ≠ b0 -> wN.get b = some x -> st.heap.get b = some x /\ (ρ b).blk ≠ (ρ' b0).blk)
    (ak : ∀ b : Pos, b.toNat < st.next.toNat -> ρ' b = ρ b)
    (hB : BRel ρ' next'.toNat C (ρ' b0) w' x0)
    (oQ : ∀ a v, C a = some v -> a.block ≠ (ρ' b0).blk)
    (aA : (ρ' b0).blk < w'.heap.size) (wO : w.heap.size <= w'.heap.size)
    (gI : ∀ k, k < w.heap.size -> k ≠ (ρ' b0).blk -> w'.heap[k]? = w.heap[k]?) :
    WRel ρ' C ⟨wN, next'⟩ w' where
  live b x hb := by
    by_cases h : b = b0
    . subst h
      rw [Kt] at hb; cases hb
      exact ⟨gj, aA, hB⟩
    . obtain ⟨h1, h2⟩ := dm b x h hb
      obtain ⟨h3, h4, h5⟩ := hW.live b x h1
      rw [ak b h3]
      exact ⟨Nat.lt_of_lt_of_le h3 hn, Nat.lt_of_lt_of_le h4 wO, (h5.mono ak hn).of_heap (gI _ h4 h2)⟩
  inj b b' x x' hb bQ he := by
    by_cases h : b = b0
    . subst h
      by_cases h' : b' = b
      . exact h'.symm
      . obtain ⟨h1, h2⟩ := dm b' x' h' bQ
        rw [ak b' (hW.live b' x' h1).1] at he
        exact absurd he.symm h2
    . obtain ⟨h1, h2⟩ := dm b x h hb
      rw [ak b (hW.live b x h1).1] at he
      by_cases h' : b' = b0
      . subst h'; exact absurd he h2
      . obtain ⟨vM, F5⟩ := dm b' x' h' bQ
        rw [ak b' (hW.live b' x' vM).1] at he
        exact hW.inj b b' x x' h1 vM he
  froz a v ha := by
    obtain ⟨h1, h2⟩ := hW.froz a v ha
    have lG : a.block < w.heap.size := World.block_lt_of_cell? _ _ h1
    refine ⟨?_, fun b x hb => ?_⟩
    . rw [World.cell?_of_block (w := w) (gI _ lG (oQ a v ha))]; exact h1
    . by_cases h : b = b0
      . subst h; exact fun e => oQ a v ha e.symm
      . obtain ⟨h3, _⟩ := dm b x h hb
        rw [ak b (hW.live b x h3).1]; exact h2 b x h3
  whole a v ha o ho := by
    have cO : a.block < w.heap.size := World.block_lt_of_cell? _ _ (hW.froz a v ha).1
    rw [World.cell?_of_block (w := w) (a := ⟨a.block, o, none⟩) (gI _ cO (oQ a v ha))]; exact hW.whole a v ha o ho
theorem WRel.cell (hW : WRel ρ C st w) {b : Pos} {cs : List AV} {fz : Nat} (hb : st.heap.get b = some (.cells cs fz)) {i : Nat} {v : AV} (hv : cs[i]? = some v) :
    ∃ x, w.cell? ⟨(ρ b).blk, (ρ b).base + i, none⟩ = some x /\ VRel ρ st.next.toNat C v x := by
  obtain ⟨_, _, c, e, fr, h1, h2, h3, h4, _⟩ := hW.live b _ hb
  obtain ⟨x, hx, hr⟩ := h4.get hv
  have hi : i < cs.length := (List.getElem?_eq_some_iff.1 hv).1
  rw [List.getElem?_take, if_pos hi, List.getElem?_drop] at hx
  exact ⟨x, by simp [World.cell?, h1, <- hx], hr⟩
theorem WRel.cellT (hW : WRel ρ C st w) {b : Pos} {cs : List AV} {t : TypeId} (hb : st.heap.get b = some (.typed t cs)) {i : Nat} {v : AV} (hv : cs[i]? = some v) :
    ∃ x, w.cell? ⟨(ρ b).blk, (ρ b).base + i, none⟩ = some x /\ VRel ρ st.next.toNat C v x := by
  obtain ⟨_, _, c, fr, h1, h2, h3, h4, _⟩ := hW.live b _ hb
  obtain ⟨x, hx, hr⟩ := h4.get hv
  have hi : i < cs.length := (List.getElem?_eq_some_iff.1 hv).1
  rw [List.getElem?_take, if_pos hi, List.getElem?_drop] at hx
  exact ⟨x, by simp [World.cell?, h1, <- hx], hr⟩
theorem cut_eq {α : Type} {l l' : List α} {i n : Nat} (h : cut l i n = some l') : l' = (l.drop i).take n /\ i + n <= l.length := by
  unfold cut at h; split at h
  . rename_i hb; cases h; exact ⟨rfl, Nat.le_of_ble_eq_true hb⟩
  . cases h
theorem cut_length {α : Type} {l l' : List α} {i n : Nat} (h : cut l i n = some l') : l'.length = n := by
  obtain ⟨rfl, h2⟩ := cut_eq h; simp; omega
theorem WRel.loadCells (hW : WRel ρ C st w) {b : Pos} {cs vs : List AV} {fz off n : Nat} (hb : st.heap.get b = some (.cells cs fz)) (hc : cut cs off n = some vs) :
    ∃ ys : List Value, (Go.loadCells ⟨(ρ b).blk, (ρ b).base + off, none⟩ n).run P w = .ok ys.toArray w /\ VsRel ρ st.next.toNat C vs ys := by
  obtain ⟨_, _, c, e, fr, h1, h2, h3, h4, _⟩ := hW.live b _ hb
  obtain ⟨ec, hle⟩ := cut_eq hc
  have hr := (h4.drop off).take n
  rw [<- ec] at hr
  refine ⟨_, ?_, hr⟩
  have hlen : (List.take n (List.drop off (List.take cs.length (List.drop (ρ b).base c.toList)))).length = n := by
    rw [<- hr.1]; exact cut_length hc
  conv => lhs; rw [<- hlen]
  refine run_loadCells_list w _ _ fun j v hj => ?_
  have mG : j < n := by rw [<- hlen]; exact (List.getElem?_eq_some_iff.1 hj).1
  rw [List.getElem?_take, if_pos mG, List.getElem?_drop, List.getElem?_take, if_pos (by omega), List.getElem?_drop] at hj
  rw [add_at]
  simp [World.cell?, h1, <- hj, Nat.add_assoc]
theorem WRel.loadCellsT (hW : WRel ρ C st w) {b : Pos} {cs vs : List AV} {t : TypeId} {off n : Nat} (hb : st.heap.get b = some (.typed t cs)) (hc : cut cs off n = some vs) :
    ∃ ys : List Value, (Go.loadCells ⟨(ρ b).blk, (ρ b).base + off, none⟩ n).run P w = .ok ys.toArray w /\ VsRel ρ st.next.toNat C vs ys := by
  obtain ⟨_, _, c, fr, h1, h2, h3, h4, _⟩ := hW.live b _ hb
  obtain ⟨ec, hle⟩ := cut_eq hc
  have hr := (h4.drop off).take n
  rw [<- ec] at hr
  refine ⟨_, ?_, hr⟩
  have hlen : (List.take n (List.drop off (List.take cs.length (List.drop (ρ b).base c.toList)))).length = n := by
    rw [<- hr.1]; exact cut_length hc
  conv => lhs; rw [<- hlen]
  refine run_loadCells_list w _ _ fun j v hj => ?_
  have mG : j < n := by rw [<- hlen]; exact (List.getElem?_eq_some_iff.1 hj).1
  rw [List.getElem?_take, if_pos mG, List.getElem?_drop, List.getElem?_take, if_pos (by omega), List.getElem?_drop] at hj
  rw [add_at]
  simp [World.cell?, h1, <- hj, Nat.add_assoc]
theorem run_storeCells_over (g e : Nat) (fr : Nat × Nat) : ∀ (vs : List Value) (i o : Nat) (cur : Array Value) (w : World), w.heap[g]? = some (.cells cur e fr) -> o + i + vs.length <= cur.size ->
    (∀ v ∈ vs, v.oneCell' = true) -> (∀ k, o + i <= k -> k < cur.size -> ¬ (fr.1 <= k /\ k < fr.2)) ->
    ∃ w', (storeCells ⟨g, o, none⟩ vs i).run P w = .ok () w' /\ w'.heap[g]? = some (.cells (splice cur.toList (o + i) vs).toArray e fr) /\
      w'.heap.size = w.heap.size /\ (∀ k, k ≠ g -> w'.heap[k]? = w.heap[k]?) /\ w'.os = w.os /\ w'.tape = w.tape /\ w'.output = w.output
  | [], i, o, cur, w, hg, _, _, _ => ⟨w, by simp [storeCells], by rw [hg]; simp [splice, List.take_append_drop], rfl, fun _ _ => rfl, rfl, rfl, rfl⟩
  | v :: vs, i, o, cur, w, hg, hle, h1, hf => by
    simp only [List.length_cons] at hle
    have hv : v.oneCell' = true := h1 v (by simp)
    have iI : w.cell? ⟨g, o + i, none⟩ = some (cur[o + i]'(by omega)) := by simp [World.cell?, hg]
    have xS : w.frozen? ⟨g, o + i, none⟩ = false := by
      have := hf (o + i) (Nat.le_refl _) (by omega)
      simp only [World.frozen?, hg]
      simpa using this
    have mH : (w.setCell ⟨g, o + i, none⟩ v).heap[g]? = some (.cells (cur.setIfInBounds (o + i) v) e fr) := by
      simp [World.setCell, Array.getElem?_modify, hg]
    obtain ⟨w', h2, h3, h4, h5, h6, h7, h8⟩ := run_storeCells_over g e fr vs (i + 1) o _ _ mH (by simp; omega) (fun v hv => h1 v (by simp [hv])) (by
      intro k hk eV; simp at eV; exact hf k (by omega) eV)
    refine ⟨w', ?_, ?_, by simp [h4], fun k hk => ?_, h6, h7, h8⟩
    . simp only [storeCells, Sem.run_bind, add_at, run_store P w _ _ _ hv, iI, xS]
      simpa using h2
    . rw [h3]
      congr 2
      simp only [splice, List.length_cons, Array.toList_setIfInBounds]
      rw [List.drop_set_of_lt (by omega)]
      have : o + (i + 1) = (o + i) + 1 := by omega
      rw [this, List.take_set, List.take_add_one]
      have aA : o + i < cur.toList.length := by simp; omega
      rw [List.getElem?_eq_getElem aA]
      simp only [Option.toList_some, List.set_append, List.length_take]
      have hm : min (o + i) cur.toList.length = o + i := Nat.min_eq_left (Nat.le_of_lt aA)
      rw [hm, if_neg (Nat.lt_irrefl _), Nat.sub_self]
      simp
      rw [show o + i + 1 + vs.length = o + i + (vs.length + 1) from by omega]
    . rw [h5 k hk, Below.heap_setCell _ _ _ _ (by simpa using hk)]
end
end Go.Ai
end
section
namespace Go.Ai
open Go Go.RowKit
section
variable {P : Program} {tt : TT} {ρ : Pos -> Loc} {C : Cells} {st : St} {w : World} {n : Nat}
theorem Yields.value (x : Value) : Yields (.value x) x := .inl rfl
theorem ResOk.pure {v : AV} {x : Value} {r : Result Next} (h : r = .ok (.value x) w) (hv : VRel ρ st.next.toNat C v x) : ResOk P ρ C st w r (.val v) :=
  ⟨_, x, h, Yields.value x, hv⟩
theorem VRel.int_inv {k : IntKind} {i : Int} {x : Value} (h : VRel ρ n C (.int k i) x) : x = .int k i := by cases h; rfl
theorem VRel.bool_inv {b : Bool} {x : Value} (h : VRel ρ n C (.bool b) x) : x = .bool b := by cases h; rfl
theorem VRel.str_inv {s : List Nat} {x : Value} (h : VRel ρ n C (.str s) x) : ∃ bs : ByteArray, x = .string bs /\ bs.data.toList.map UInt8.toNat = s := by
  cases h with | str _ bs h => exact ⟨bs, rfl, h⟩
theorem VRel.nilp_inv {x : Value} (h : VRel ρ n C .nilp x) : x = .pointer none := by cases h; rfl
theorem VRel.nils_inv {x : Value} (h : VRel ρ n C .nils x) : x = .slice none 0 0 := by cases h; rfl
theorem VRel.nilm_inv {x : Value} (h : VRel ρ n C .nilm x) : x = .map none := by cases h; rfl
theorem VRel.nilf_inv {x : Value} (h : VRel ρ n C .nilf x) : x = .nilFunc := by cases h; rfl
theorem VRel.nili_inv {x : Value} (h : VRel ρ n C .nili x) : x = .nilIface := by cases h; rfl
theorem VRel.ptr_inv {b : Pos} {off : Nat} {x : Value} (h : VRel ρ n C (.ptr b off) x) : b.toNat < n /\ x = .pointer (some ⟨(ρ b).blk, (ρ b).base + off, none⟩) := by
  cases h with | ptr _ _ h => exact ⟨h, rfl⟩
theorem VRel.map_inv {b : Pos} {x : Value} (h : VRel ρ n C (.map b) x) : b.toNat < n /\ x = .map (some (ρ b).blk) := by
  cases h with | map _ h => exact ⟨h, rfl⟩
theorem VRel.iface_inv {t : TypeId} {v : AV} {x : Value} (h : VRel ρ n C (.iface t v) x) : ∃ y, x = .iface t y /\ VRel ρ n C v y := by
  cases h with | iface _ _ y h => exact ⟨y, rfl, h⟩
theorem VRel.slice_inv {b : Pos} {off len es : Nat} {cap : Option Nat} {x : Value} (h : VRel ρ n C (.slice b off len cap es) x) :
    ∃ (a : Addr) (aj : Nat), x = .slice (some a) len aj /\ len <= aj /\ (∀ c, cap = some c -> c = aj) /\
      (aj ≠ 0 -> b.toNat < n /\ a = ⟨(ρ b).blk, (ρ b).base + off, none⟩ /\ (ρ b).base + off + aj * es <= (ρ b).size) := by
  cases h with | slice _ _ _ _ _ aj a hl hc ha _ => exact ⟨a, aj, rfl, hl, hc, ha⟩
theorem VRel.slice_key {b : Pos} {off len es : Nat} {cap : Option Nat} {x : Value} (h : VRel ρ n C (.slice b off len cap es) x) : cap = none -> b.toNat < n := by
  cases h with | slice _ _ _ _ _ _ _ _ _ _ hk => exact hk
theorem VRel.fl_inv {xs : List (List AV)} {es : Nat} {x : Value} (h : VRel ρ n C (.fl xs es) x) :
    ∃ (a : Addr) (aj : Nat) (cell : Nat -> Nat -> Value), x = .slice (some a) xs.length aj /\ xs.length <= aj /\ (xs ≠ [] -> a.spot = none) /\
      (∀ (i : Nat) (cs : List AV), xs[i]? = some cs -> cs.length = es) /\
      (∀ (i j : Nat) (cs : List AV) (v : AV), xs[i]? = some cs -> cs[j]? = some v -> C ⟨a.block, a.off + i * es + j, none⟩ = some (cell i j)) /\
      (∀ (i j : Nat) (cs : List AV) (v : AV), xs[i]? = some cs -> cs[j]? = some v -> VRel ρ n C v (cell i j)) := by
  cases h with | fl _ _ aj a cell hl hs cg hc hv => exact ⟨a, aj, cell, rfl, hl, hs, cg, hc, hv⟩
theorem VRel.fp_inv {xs : List (List AV)} {i j : Nat} {x : Value} (h : VRel ρ n C (.fp xs i j) x) :
    ∃ (es blk base : Nat) (cell : Nat -> Nat -> Value), x = .pointer (some ⟨blk, base + i * es + j, none⟩) /\
      (∀ (i : Nat) (cs : List AV), xs[i]? = some cs -> cs.length = es) /\
      (∀ (i j : Nat) (cs : List AV) (v : AV), xs[i]? = some cs -> cs[j]? = some v -> C ⟨blk, base + i * es + j, none⟩ = some (cell i j)) /\
      (∀ (i j : Nat) (cs : List AV) (v : AV), xs[i]? = some cs -> cs[j]? = some v -> VRel ρ n C v (cell i j)) := by
  cases h with | fp _ _ _ es blk base cell hl hc hv => exact ⟨es, blk, base, cell, rfl, hl, hc, hv⟩
theorem wrapI_eq (k : IntKind) (i : Int) : wrapI k i = k.wrap i := by
  unfold wrapI
  split
  . rename_i h1 _
    split
    . rename_i h2 _
      cases k <;> simp only [loI, hiI] at h1 h2 <;> simp only [IntKind.wrap, IntKind.bits, IntKind.signed] <;> simp <;> omega
    . rfl
  . rfl
theorem intEq_eq (a b : Int) : intEq a b = (a == b) := by
  unfold intEq; split
  . rename_i h _; subst h; simp
  . rename_i h _; simp [h]
theorem intLt_eq (a b : Int) : intLt a b = decide (a < b) := by
  unfold intLt; split <;> (rename_i h _; simp [h])
theorem intLe_eq (a b : Int) : intLe a b = decide (a <= b) := by
  unfold intLe; split <;> (rename_i h _; simp [h])
theorem beqNats_eq : ∀ {a b : List Nat}, beqNats a b = true ↔ a = b
  | [], [] => by simp [beqNats]
  | [], _ :: _ => by simp [beqNats]
  | _ :: _, [] => by simp [beqNats]
  | a :: x, b :: y => by
    unfold beqNats
    split
    . rename_i h; have := Nat.eq_of_beq_eq_true h; subst this; simp [beqNats_eq (a := x) (b := y)]
    . rename_i h; have := Nat.ne_of_beq_eq_false h; simp [this]
theorem toNat_inj_list : ∀ {a b : List UInt8}, a.map UInt8.toNat = b.map UInt8.toNat -> a = b
  | [], [], _ => rfl
  | [], _ :: _, h => by simp at h
  | _ :: _, [], h => by simp at h
  | a :: x, b :: y, h => by
    simp at h
    rw [UInt8.toNat_inj.1 h.1, toNat_inj_list h.2]
theorem toList_data (b : ByteArray) : b.toList = b.data.toList := ByteArray.toList_eq b
theorem lessNats_eq : ∀ (x y : List UInt8), lessNats (x.map UInt8.toNat) (y.map UInt8.toNat) = Op.bytesLess x y
  | [], [] => by simp [lessNats, Op.bytesLess]
  | _ :: _, [] => by simp [lessNats, Op.bytesLess]
  | [], _ :: _ => by simp [lessNats, Op.bytesLess]
  | a :: x, b :: y => by
    simp only [List.map_cons, lessNats, Op.bytesLess]
    split
    . rename_i h
      have : a < b := by rw [UInt8.lt_iff_toNat_lt]; simpa using h
      simp [this]
    . rename_i h
      have h1 : ¬ a < b := by
        rw [UInt8.lt_iff_toNat_lt]; intro h'
        have h2 : Nat.blt a.toNat b.toNat = true := by simpa using h'
        rw [h2] at h; cases h
      split
      . rename_i h2
        have : a = b := UInt8.toNat_inj.1 (Nat.eq_of_beq_eq_true h2)
        subst this; simp only [h1, decide_false, Bool.false_or, beq_self_eq_true, Bool.true_and]; exact lessNats_eq x y
      . rename_i h2
        have : a ≠ b := fun e => Nat.ne_of_beq_eq_false h2 (by rw [e])
        simp [h1, this]
theorem str_beq {a b : List Nat} {x y : ByteArray} (hx : x.data.toList.map UInt8.toNat = a) (hy : y.data.toList.map UInt8.toNat = b) : (x.toList == y.toList) = beqNats a b := by
  rw [toList_data, toList_data, Bool.eq_iff_iff, beqNats_eq, beq_iff_eq, <- hx, <- hy]
  exact ⟨fun h => by rw [h], fun h => toNat_inj_list h⟩
theorem str_less {a b : List Nat} {x y : ByteArray} (hx : x.data.toList.map UInt8.toNat = a) (hy : y.data.toList.map UInt8.toNat = b) : Op.bytesLess x.toList y.toList = lessNats a b := by
  rw [toList_data, toList_data, <- hx, <- hy, lessNats_eq]
theorem str_size {a : List Nat} {x : ByteArray} (hx : x.data.toList.map UInt8.toNat = a) : x.size = a.length := by
  rw [<- hx, List.length_map, Array.length_toList]; rfl
def PK.fits : PK -> TypeDesc -> Bool
  | .b, .bool => true
  | .i, .int _ => true
  | .s, .string => true
  | _, _ => false
theorem eqPK_rel {t : TypeId} {d : TypeDesc} (hd : P.underlying t = some d) {pk : PK} (hk : pk.fits d = true) {a b : AV} {x y : Value} {r : Bool} {m : Nat}
    (ha : VRel ρ n C a x) (hb : VRel ρ n C b y) (h : eqPK pk a b = some r) (w : World) : (Op.equalIn (m + 1) t x y).run P w = .ok r w := by
  unfold eqPK at h
  split at h
  . simp only [Option.some.injEq] at h; subst h
    rw [ha.bool_inv, hb.bool_inv]
    cases d <;> simp [PK.fits] at hk
    rw [run_equalIn_bool' w m t _ _ hd]
  . split at h
    . rename_i eV; have := eqKind_eq eV; subst this
      simp only [Option.some.injEq] at h; subst h
      rw [ha.int_inv, hb.int_inv]
      cases d <;> simp [PK.fits] at hk
      rw [run_equalIn_int w m t _ _ _ _ hd, intEq_eq]
    . cases h
  . simp only [Option.some.injEq] at h; subst h
    obtain ⟨bx, rfl, h1⟩ := ha.str_inv
    obtain ⟨bz, rfl, h2⟩ := hb.str_inv
    cases d <;> simp [PK.fits] at hk
    rw [run_equalIn_string w m t _ _ hd, str_beq h1 h2]
  . cases h
theorem eqFields_rel : ∀ {fs : List (Nat × Nat × Bool)} {l : List (Nat × PK)} {gs : List Field} {xs ys : List AV} {cx cy : Array Value} {r : Bool} {m : Nat} (_hT : TTOk P tt)
    (_hm : tkMatch.fieldsMatch fs gs = true) (_hf : eqKOf.fields tt fs = some l) (_hx : VsRel ρ n C xs cx.toList) (_hy : VsRel ρ n C ys cy.toList) (_h : eqFields xs ys l = some r) (w : World),
    (Op.eqFields (m + 1) cx cy gs).run P w = .ok r w
  | [], l, gs, xs, ys, cx, cy, r, m, hT, hm, hf, hx, hy, h, w => by
    cases gs with
    | cons f gs => simp [tkMatch.fieldsMatch] at hm
    | nil =>
      simp [eqKOf.fields] at hf; subst hf
      simp [eqFields] at h; subst h
      simp [Op.eqFields]
  | (off, t, named) :: fs, l, gs, xs, ys, cx, cy, r, m, hT, hm, hf, hx, hy, h, w => by
    cases gs with
    | nil => simp [tkMatch.fieldsMatch] at hm
    | cons f gs =>
      simp [tkMatch.fieldsMatch] at hm
      obtain ⟨⟨⟨ho, ht⟩, hn⟩, xT⟩ := hm
      unfold eqKOf.fields at hf
      split at hf <;> first | (cases hf; done) | skip
      rename_i ti l' aO Bq
      obtain ⟨d, hd, aE⟩ := (hT.at aO).und
      have key : ∃ pk, l = (off, pk) :: l' /\ pk.fits d = true /\ (isAgg t).run P w = .ok false w := by
        have eB := tk_isAgg aE w hd
        split at hf <;> first | (cases hf; done) | skip
        all_goals
          rename_i hk
          simp only [Option.some.injEq] at hf
          rw [hk] at aE eB
          refine ⟨_, hf.symm, ?_, eB⟩
        . rw [tk_bool aE]; rfl
        . rw [tk_int aE]; rfl
        . rw [tk_string aE]; rfl
      obtain ⟨pk, rfl, dR, eB⟩ := key
      have aI : f.name ≠ "_" := by intro e; rw [e] at hn; simp at hn
      unfold eqFields at h
      split at h <;> first | (cases h; done) | skip
      rename_i a b ha hb
      rw [nth_eq] at ha hb
      obtain ⟨x, hx1, vN⟩ := hx.get ha
      obtain ⟨y, n5, n6⟩ := hy.get hb
      have px : (part f.type cx f.offset).run P w = .ok x w := by
        rw [<- ht, <- ho]; simp at hx1; simp [part, eB, hx1]
      have py : (part f.type cy f.offset).run P w = .ok y w := by
        rw [<- ht, <- ho]; simp at n5; simp [part, eB, n5]
      simp only [Op.eqFields, Sem.run_bind, Sem.run_ite, aI, px, py, Result.andThen_ok, ne_eq, not_false_eq_true, if_true]
      split at h
      . rename_i he
        rw [<- ht, eqPK_rel hd dR vN n6 he w]
        simpa using eqFields_rel (m := m) hT xT Bq hx hy h w
      . rename_i he
        simp only [Option.some.injEq] at h; subst h
        rw [<- ht, eqPK_rel hd dR vN n6 he w]
        simp
      . cases h
def EqFit (tt : TT) (op : BinOp) (q : EqK) (t : TypeId) : Prop := eqKOf tt t = some q \/ (q = .num /\ op ≠ .eql /\ op ≠ .neq)
def EqInv (P : Program) (tt : TT) (t : TypeId) : EqK -> Prop
  | .num => True
  | .bool => P.underlying t = some .bool
  | .ptr => ∃ e, P.underlying t = some (.pointer e) /\ ∃ j, P.info? e = some j
  | .slice => ∃ e, P.underlying t = some (.slice e)
  | .map => ∃ k e, P.underlying t = some (.map k e)
  | .func => ∃ a b c, P.underlying t = some (.func a b c)
  | .iface => ∃ a, P.underlying t = some (.interface a)
  | .struct l => ∃ fs gs, P.underlying t = some (.struct gs) /\ tkMatch.fieldsMatch fs gs.toList = true /\ eqKOf.fields tt fs = some l /\ P.stoodInHeld t = false /\ P.eqGuardType P.depth t = false
theorem eqK_inv (hT : TTOk P tt) {t : TypeId} {q : EqK} (hq : eqKOf tt t = some q) : EqInv P tt t q := by
  unfold eqKOf at hq
  split at hq <;> first | (cases hq; done) | skip
  rename_i ti aO
  obtain ⟨d, hd, aE⟩ := (hT.at aO).und
  split at hq <;> first | (cases hq; done) | skip
  all_goals rename_i hk
  all_goals rw [hk] at aE
  . simp only [Option.some.injEq] at hq; subst hq; rw [tk_bool aE] at hd; exact hd
  . simp only [Option.some.injEq] at hq; subst hq; trivial
  . simp only [Option.some.injEq] at hq; subst hq; trivial
  . simp only [Option.some.injEq] at hq; subst hq; rw [tk_ptr aE] at hd; exact ⟨_, hd, (hT.at aO).elem _ hk⟩
  . simp only [Option.some.injEq] at hq; subst hq; rw [tk_slice aE] at hd; exact ⟨_, hd⟩
  . simp only [Option.some.injEq] at hq; subst hq; rw [tk_map aE] at hd; exact ⟨_, _, hd⟩
  . simp only [Option.some.injEq] at hq; subst hq; obtain ⟨_, _, _, rfl⟩ := tk_func aE; exact ⟨_, _, _, hd⟩
  . simp only [Option.some.injEq] at hq; subst hq; obtain ⟨_, rfl⟩ := tk_iface aE; exact ⟨_, hd⟩
  . split at hq <;> first | (cases hq; done) | skip
    rename_i fs _ _ l hp hl
    simp only [Option.some.injEq] at hq; subst hq
    obtain ⟨gs, rfl, hm⟩ := tk_struct aE
    exact ⟨fs, gs, hd, hm, hl, (hT.at aO).eqs hp⟩
theorem eqBy_relIn (m : Nat) (hT : TTOk P tt) {t : TypeId} {q : EqK} (hq : eqKOf tt t = some q) {a b : AV} {x y : Value} {r : Bool} (ha : VRel ρ n C a x) (hb : VRel ρ n C b y) (h : eqBy q a b = some r) (w : World) :
    (Op.equalIn (m + 1 + 1) t x y).run P w = .ok r w := by
  have hi := eqK_inv hT hq
  clear hq
  unfold eqBy at h
  split at h <;> first | (cases h; done) | skip
  . simp only [Option.some.injEq] at h; subst h
    rw [ha.bool_inv, hb.bool_inv, run_equalIn_bool' w _ t _ _ hi]
  all_goals first
    | (simp only [Option.some.injEq] at h; subst h)
    | skip
  . obtain ⟨e, hd, _⟩ := hi; rw [ha.nilp_inv, hb.nilp_inv]; (unfold Op.equalIn; rw [Sem.run_bind, run_und hd]; rfl)
  . obtain ⟨e, hd, _⟩ := hi; obtain ⟨_, hb⟩ := hb.ptr_inv; rw [ha.nilp_inv, hb]; (unfold Op.equalIn; rw [Sem.run_bind, run_und hd]; rfl)
  . obtain ⟨e, hd, _⟩ := hi; obtain ⟨_, ha⟩ := ha.ptr_inv; rw [hb.nilp_inv, ha]; (unfold Op.equalIn; rw [Sem.run_bind, run_und hd]; rfl)
  . obtain ⟨e, hd, _⟩ := hi; obtain ⟨_, _, _, _, hb, _⟩ := hb.fp_inv; rw [ha.nilp_inv, hb]; (unfold Op.equalIn; rw [Sem.run_bind, run_und hd]; rfl)
  . obtain ⟨e, hd, _⟩ := hi; obtain ⟨_, _, _, _, ha, _⟩ := ha.fp_inv; rw [hb.nilp_inv, ha]; (unfold Op.equalIn; rw [Sem.run_bind, run_und hd]; rfl)
  . obtain ⟨e, hd, j, hj⟩ := hi
    split at h <;> first | (cases h; done) | skip
    rename_i e1 e2
    have e1 := Pos.beq_eq.1 e1
    have e2 := Nat.eq_of_beq_eq_true e2
    subst e1; subst e2
    simp only [Option.some.injEq] at h; subst h
    obtain ⟨_, ha⟩ := ha.ptr_inv; obtain ⟨_, hb⟩ := hb.ptr_inv; rw [ha, hb]
    simp [Op.equalIn, run_und hd, sizeOf, typeInfo, hj, run_sameAddr_same]
  . obtain ⟨e, hd⟩ := hi; rw [ha.nils_inv, hb.nils_inv]; (unfold Op.equalIn; rw [Sem.run_bind, run_und hd]; rfl)
  . obtain ⟨e, hd⟩ := hi; obtain ⟨_, _, hb, _⟩ := hb.slice_inv; rw [ha.nils_inv, hb]; (unfold Op.equalIn; rw [Sem.run_bind, run_und hd]; rfl)
  . obtain ⟨e, hd⟩ := hi; obtain ⟨_, _, ha, _⟩ := ha.slice_inv; rw [hb.nils_inv, ha]; (unfold Op.equalIn; rw [Sem.run_bind, run_und hd]; rfl)
  . obtain ⟨e, hd⟩ := hi; obtain ⟨_, _, _, hb, _⟩ := hb.fl_inv; rw [ha.nils_inv, hb]; (unfold Op.equalIn; rw [Sem.run_bind, run_und hd]; rfl)
  . obtain ⟨e, hd⟩ := hi; obtain ⟨_, _, _, ha, _⟩ := ha.fl_inv; rw [hb.nils_inv, ha]; (unfold Op.equalIn; rw [Sem.run_bind, run_und hd]; rfl)
  . obtain ⟨k, e, hd⟩ := hi; rw [ha.nilm_inv, hb.nilm_inv]; (unfold Op.equalIn; rw [Sem.run_bind, run_und hd]; rfl)
  . obtain ⟨k, e, hd⟩ := hi; obtain ⟨_, hb⟩ := hb.map_inv; rw [ha.nilm_inv, hb]; (unfold Op.equalIn; rw [Sem.run_bind, run_und hd]; rfl)
  . obtain ⟨k, e, hd⟩ := hi; obtain ⟨_, ha⟩ := ha.map_inv; rw [hb.nilm_inv, ha]; (unfold Op.equalIn; rw [Sem.run_bind, run_und hd]; rfl)
  . obtain ⟨_, _, _, hd⟩ := hi; rw [ha.nilf_inv, hb.nilf_inv]; (unfold Op.equalIn; rw [Sem.run_bind, run_und hd]; rfl)
  . obtain ⟨_, _, _, hd⟩ := hi; obtain ⟨_, _, hb, _⟩ := hb.func_inv; rw [ha.nilf_inv, hb]; (unfold Op.equalIn; rw [Sem.run_bind, run_und hd]; rfl)
  . obtain ⟨_, _, _, hd⟩ := hi; obtain ⟨_, _, ha, _⟩ := ha.func_inv; rw [hb.nilf_inv, ha]; (unfold Op.equalIn; rw [Sem.run_bind, run_und hd]; rfl)
  . obtain ⟨_, hd⟩ := hi; obtain ⟨_, hb, _⟩ := hb.iface_inv; rw [ha.nili_inv, hb]; (unfold Op.equalIn; rw [Sem.run_bind, run_und hd]; rfl)
  . obtain ⟨_, hd⟩ := hi; obtain ⟨_, ha, _⟩ := ha.iface_inv; rw [hb.nili_inv, ha]; (unfold Op.equalIn; rw [Sem.run_bind, run_und hd]; rfl)
  . obtain ⟨fs, gs, hd, hm, hl, hp, _⟩ := hi
    obtain ⟨cx, rfl, hx⟩ := ha.agg_inv
    obtain ⟨cy, rfl, hy⟩ := hb.agg_inv
    have hfo : P.fieldsOf t = gs := by simp [Program.fieldsOf, hd]
    rw [run_equalIn_agg w (m + 1) t cx cy (by rw [hfo, hd]) hp, hfo]
    exact eqFields_rel (m := m) hT hm hl hx hy h w
theorem eqBy_rel (hT : TTOk P tt) {t : TypeId} {q : EqK} (hq : eqKOf tt t = some q) {a b : AV} {x y : Value} {r : Bool} (ha : VRel ρ n C a x) (hb : VRel ρ n C b y) (h : eqBy q a b = some r) (w : World) :
    (Op.equal t x y).run P w = .ok r w := eqBy_relIn 9998 hT hq ha hb h w
theorem eqBy_guard (hT : TTOk P tt) {t : TypeId} {q : EqK} (hq : eqKOf tt t = some q) {a b : AV} {x y : Value} {r : Bool} (ha : VRel ρ n C a x) (hb : VRel ρ n C b y) (h : eqBy q a b = some r) (op : BinOp) (ox oy : Operand) (w : World) :
    (eqGuard op t ox oy x y).run P w = .ok () w := by
  have hi := eqK_inv hT hq
  clear hq
  unfold eqBy at h
  split at h <;> first | (cases h; done) | skip
  all_goals first
    | (obtain ⟨fs, gs, hd, hm, hl, hp, hg⟩ := hi
       obtain ⟨cx, rfl, hx⟩ := ha.agg_inv
       obtain ⟨cy, rfl, hy⟩ := hb.agg_inv
       exact run_eqGuard_agg w op t ox oy cx cy hg)
    | (cases ha <;> cases hb <;> cases op <;> rfl)
end
end Go.Ai
end
section
namespace Go.Ai
open Go Go.RowKit
section
variable {P : Program} {tt : TT} {ρ : Pos -> Loc} {C : Cells} {st : St} {w : World} {n : Nat}
theorem run_binOp_int (op : BinOp) (t : TypeId) (k : IntKind) (i j : Int) (hs : op ≠ .shl) (hr : op ≠ .shr) : (binOp op t (.int k i) (.int k j)).run P w =
    (match op with
      | .add | .sub | .mul => Op.intArith op k i j
      | .quo | .rem => Op.intDiv op k i j
      | .and | .or | .xor | .andNot => Op.intBits op k i j
      | _ => Op.intCmp op i j).run P w := by
  cases op <;> first | (exact absurd rfl hs) | (exact absurd rfl hr) | simp [binOp]
theorem binA_rel (hT : TTOk P tt) {op : BinOp} {t : TypeId} {q : EqK} (hq : EqFit tt op q t) {a b v : AV} {x y : Value} (ha : VRel ρ n C a x) (hb : VRel ρ n C b y) (h : binA op q a b = some v) (ox oy : Operand) :
    ∃ z, (do eqGuard op t ox oy x y; binOp op t x y : Sem Value).run P w = .ok z w /\ VRel ρ n C v z := by
  unfold binA at h
  split at h
  ·
    rename_i k i k' j
    rw [ha.int_inv, hb.int_inv]
    have hg : ∀ op, (eqGuard op t ox oy (.int k i) (.int k' j)).run P w = .ok () w := by intro op; cases op <;> rfl
    rw [Sem.run_bind, hg, Result.andThen_ok]
    split at h
    . split at h
      . cases h
      . rename_i aA
        rw [intLt_eq] at aA; have aA := of_decide_eq_false aA
        simp only [Option.some.injEq] at h; subst h
        exact ⟨_, by simp [binOp, Op.shift, aA, wrapI_eq], .int _ _⟩
    . split at h
      . cases h
      . rename_i aA
        rw [intLt_eq] at aA; have aA := of_decide_eq_false aA
        simp only [Option.some.injEq] at h; subst h
        exact ⟨_, by simp [binOp, Op.shift, aA], .int _ _⟩
    . rename_i hs hr
      split at h
      . cases h
      . rename_i hk
        have := eqKind_eq hk; subst this
        rw [run_binOp_int op t k i j (fun e => hs e) (fun e => hr e)]
        split at h
        . simp only [Option.some.injEq] at h; subst h; exact ⟨_, by simp [Op.intArith, wrapI_eq], .int _ _⟩
        . simp only [Option.some.injEq] at h; subst h; exact ⟨_, by simp [Op.intArith, wrapI_eq], .int _ _⟩
        . simp only [Option.some.injEq] at h; subst h; exact ⟨_, by simp [Op.intArith, wrapI_eq], .int _ _⟩
        . split at h
          . cases h
          . rename_i h0; rw [intEq_eq] at h0; have F6 : ¬ j = 0 := by simpa using h0
            simp only [Option.some.injEq] at h; subst h; exact ⟨_, by simp [Op.intDiv, F6, wrapI_eq], .int _ _⟩
        . split at h
          . cases h
          . rename_i h0; rw [intEq_eq] at h0; have F6 : ¬ j = 0 := by simpa using h0
            simp only [Option.some.injEq] at h; subst h; exact ⟨_, by simp [Op.intDiv, F6], .int _ _⟩
        . simp only [Option.some.injEq] at h; subst h; exact ⟨_, by simp [Op.intBits], .int _ _⟩
        . simp only [Option.some.injEq] at h; subst h; exact ⟨_, by simp [Op.intBits], .int _ _⟩
        . simp only [Option.some.injEq] at h; subst h; exact ⟨_, by simp [Op.intBits], .int _ _⟩
        . simp only [Option.some.injEq] at h; subst h; exact ⟨_, by simp [Op.intBits], .int _ _⟩
        . simp only [Option.some.injEq] at h; subst h; exact ⟨_, by simp [Op.intCmp, intEq_eq], .bool _⟩
        . simp only [Option.some.injEq] at h; subst h; refine ⟨_, rfl, ?_⟩; rw [intEq_eq]; exact .bool _
        . simp only [Option.some.injEq] at h; subst h; refine ⟨_, rfl, ?_⟩; rw [intLt_eq]; exact .bool _
        . simp only [Option.some.injEq] at h; subst h; refine ⟨_, rfl, ?_⟩; rw [intLe_eq]; exact .bool _
        . simp only [Option.some.injEq] at h; subst h; refine ⟨_, rfl, ?_⟩; rw [intLt_eq]; exact .bool _
        . simp only [Option.some.injEq] at h; subst h; refine ⟨_, rfl, ?_⟩; rw [intLe_eq]; exact .bool _
        . cases h
  ·
    rename_i s u
    obtain ⟨bx, rfl, h1⟩ := ha.str_inv
    obtain ⟨bz, rfl, h2⟩ := hb.str_inv
    have hg : ∀ op, (eqGuard op t ox oy (.string bx) (.string bz)).run P w = .ok () w := by intro op; cases op <;> rfl
    rw [Sem.run_bind, hg, Result.andThen_ok]
    have hs : (binOp op t (.string bx) (.string bz)).run P w = (Op.stringOp op bx bz).run P w := by cases op <;> rfl
    rw [hs]
    have e1 := str_beq h1 h2
    have e2 := str_less h1 h2
    split at h
    . split at h
      . rename_i hb
        have hb := Nat.le_of_ble_eq_true hb
        simp only [Option.some.injEq] at h; subst h
        have cW : ¬ (((bx.size + bz.size : Nat) : Int) > IntKind.i64.max) := by
          rw [str_size h1, str_size h2]; simp [IntKind.max, IntKind.signed, IntKind.bits]; omega
        refine ⟨.string (bx ++ bz), ?_, .str _ _ ?_⟩
        . simp only [Op.stringOp]; rw [if_neg cW]; rfl
        . rw [ByteArray.data_append, Array.toList_append, List.map_append, h1, h2]
      . cases h
    all_goals first | (cases h; done) | skip
    all_goals
      simp only [Option.some.injEq] at h; subst h
      refine ⟨_, rfl, ?_⟩
      first | rw [e1, e2] | rw [e1] | rw [e2]
      exact .bool _
  ·
    rename_i F7 F8
    have kg : ∀ op, (op = .eql \/ op = .neq) -> (binOp op t x y).run P w = ((Op.equal t x y).run P w).andThen fun r w' => .ok (.bool (if op = .eql then r else !r)) w' := by
      rintro op (rfl | rfl)
      all_goals
        cases ha <;> cases hb <;> first
          | (exact (F7 _ _ _ _ rfl rfl).elim)
          | (exact (F8 _ _ rfl rfl).elim)
          | simp [binOp]
    split at h
    . split at h
      . rename_i r hr
        simp only [Option.some.injEq] at h; subst h
        rcases hq with hq | ⟨_, hq, _⟩
        . refine ⟨.bool r, ?_, .bool r⟩
          rw [Sem.run_bind, eqBy_guard hT hq ha hb hr, Result.andThen_ok, kg _ (.inl rfl), eqBy_rel hT hq ha hb hr]; rfl
        . exact absurd rfl hq
      . cases h
    . split at h
      . rename_i r hr
        simp only [Option.some.injEq] at h; subst h
        rcases hq with hq | ⟨_, _, hq⟩
        . refine ⟨.bool (!r), ?_, .bool _⟩
          rw [Sem.run_bind, eqBy_guard hT hq ha hb hr, Result.andThen_ok, kg _ (.inr rfl), eqBy_rel hT hq ha hb hr]; rfl
        . exact absurd rfl hq
      . cases h
    . cases h
end
end Go.Ai
end
section
namespace Go.Ai
open Go Go.RowKit
def OpSound (P : Program) (tt : TT) (op : Op) : Prop :=
  ∀ (ρ : Pos -> Loc) (C : Cells) (st : St) (w : World) (k : OpK) (xs : List AOpd) (cls : Cls) (fr : Fr) (a : Act) (o : Oper) (vs : List AV) (res : ARes),
    o.op = op -> cOp tt op = some (k, xs, cls) -> WRel ρ C st w -> FRel ρ st.next.toNat C fr a.tmps -> evsA fr xs = some vs ->
    k.run (fun b => st.heap.get b) st.next vs = some res -> ResOk P ρ C st w ((execOp a.eval o).run P w) res
section
variable {P : Program} {tt : TT}
theorem evs2 {ρ : Pos -> Loc} {n : Nat} {C : Cells} {x y : Operand} {os : List AOpd} {fr : Fr} {a : Act} {vs : List AV} (h : cOpds [x, y] = some os) (hF : FRel ρ n C fr a.tmps) (hv : evsA fr os = some vs) :
    ∃ u v, vs = [u, v] /\ VRel ρ n C u (a.eval x) /\ VRel ρ n C v (a.eval y) := by
  have h1 := cOpds_rel h hF hv
  cases vs with
  | nil => have := h1.1; simp at this
  | cons u vs =>
    cases vs with
    | nil => have := h1.1; simp at this
    | cons v vs =>
      cases vs with
      | nil => exact ⟨u, v, rfl, h1.2 0 u _ rfl rfl, h1.2 1 v _ rfl rfl⟩
      | cons z vs => have := h1.1; simp at this
theorem evs3 {ρ : Pos -> Loc} {n : Nat} {C : Cells} {x y z : Operand} {os : List AOpd} {fr : Fr} {a : Act} {vs : List AV} (h : cOpds [x, y, z] = some os) (hF : FRel ρ n C fr a.tmps) (hv : evsA fr os = some vs) :
    ∃ u v q, vs = [u, v, q] /\ VRel ρ n C u (a.eval x) /\ VRel ρ n C v (a.eval y) /\ VRel ρ n C q (a.eval z) := by
  have h1 := cOpds_rel h hF hv
  match vs, h1 with
  | [u, v, q], h1 => exact ⟨u, v, q, rfl, h1.2 0 u _ rfl rfl, h1.2 1 v _ rfl rfl, h1.2 2 q _ rfl rfl⟩
  | [], h1 => have := h1.1; simp at this
  | [_], h1 => have := h1.1; simp at this
  | [_, _], h1 => have := h1.1; simp at this
  | _ :: _ :: _ :: _ :: _, h1 => have := h1.1; simp at this
theorem snd_move (x : Operand) : OpSound P tt (.move x) := by
  intro ρ C st w k xs cls fr a o vs res ho hc hW hF hx hr
  simp only [cOp] at hc
  split at hc <;> first | (cases hc; done) | skip
  rename_i b hb
  cases hc
  obtain ⟨v, rfl, hv⟩ := cOpd_rel1 hb hF hx
  simp only [OpK.run, runMove, Option.some.injEq] at hr; subst hr
  exact .pure (by simp [execOp, ho]) hv
theorem snd_assign (x : Operand) : OpSound P tt (.assign x) := by
  intro ρ C st w k xs cls fr a o vs res ho hc hW hF hx hr
  simp only [cOp] at hc
  split at hc <;> first | (cases hc; done) | skip
  rename_i b hb
  cases hc
  obtain ⟨v, rfl, hv⟩ := cOpd_rel1 hb hF hx
  simp only [OpK.run, runMove, Option.some.injEq] at hr; subst hr
  exact .pure (by simp [execOp, ho]) hv
theorem snd_pick (c x y : Operand) : OpSound P tt (.pick c x y) := by
  intro ρ C st w k xs cls fr a o vs res ho hc hW hF hx hr
  simp only [cOp] at hc
  split at hc <;> first | (cases hc; done) | skip
  rename_i l hl
  cases hc
  obtain ⟨u, v, q, rfl, h1, h2, h3⟩ := evs3 hl hF hx
  simp only [OpK.run, runPick] at hr
  split at hr <;> first | (cases hr; done) | skip
  all_goals
    simp only [Option.some.injEq] at hr; subst hr
    have h1 := h1.bool_inv
  . exact .pure (by simp [execOp, ho, h1, asBool]) h2
  . exact .pure (by simp [execOp, ho, h1, asBool]) h3
theorem snd_binOp (hT : TTOk P tt) (op : BinOp) (t : TypeId) (x y : Operand) (yt : TypeId) : OpSound P tt (.binOp op t x y yt) := by
  intro ρ C st w k xs cls fr a o vs res ho hc hW hF hx hr
  have key : ∃ q, EqFit tt op q t /\ k = .bin op q /\ cOpds [x, y] = some xs := by
    simp only [cOp] at hc
    split at hc
    . rename_i q l hq hl
      cases hc
      exact ⟨q, .inl hq, rfl, hl⟩
    . rename_i l hq hl
      split at hc <;> first | (cases hc; done) | skip
      rename_i h1 h2
      cases hc
      exact ⟨.num, .inr ⟨rfl, fun e => h1 e, fun e => h2 e⟩, rfl, hl⟩
    . cases hc
  obtain ⟨q, hq, rfl, hl⟩ := key
  obtain ⟨u, v, rfl, h1, h2⟩ := evs2 hl hF hx
  simp only [OpK.run, runBin] at hr
  split at hr <;> first | (cases hr; done) | skip
  rename_i r hb
  simp only [Option.some.injEq] at hr; subst hr
  obtain ⟨z, hz, hv⟩ := binA_rel hT hq h1 h2 hb x y (w := w)
  refine .pure ?_ hv
  simp only [execOp, ho]
  rw [Sem.run_bind, hz]; rfl
theorem snd_unOp (op : UnOp) (t : TypeId) (x : Operand) : OpSound P tt (.unOp op t x) := by
  intro ρ C st w k xs cls fr a o vs res ho hc hW hF hx hr
  simp only [cOp] at hc
  split at hc <;> first | (cases hc; done) | skip
  rename_i b hb
  cases hc
  obtain ⟨v, rfl, hv⟩ := cOpd_rel1 hb hF hx
  simp only [OpK.run, runUn] at hr
  split at hr <;> first | (cases hr; done) | skip
  rename_i r hu
  simp only [Option.some.injEq] at hr; subst hr
  unfold unA at hu
  split at hu
  . split at hu <;> first | (cases hu; done) | skip
    simp only [Option.some.injEq] at hu; subst hu
    exact .pure (by simp [execOp, ho, hv.bool_inv, Op.unary]) (.bool _)
  . split at hu <;> first | (cases hu; done) | skip
    simp only [Option.some.injEq] at hu; subst hu
    exact .pure (by simp [execOp, ho, hv.int_inv, Op.unary, Op.intArith]; rfl) (by rw [wrapI_eq]; simpa using VRel.int _ _)
  . cases hu
theorem snd_nilCheck (x : Operand) : OpSound P tt (.nilCheck x) := by
  intro ρ C st w k xs cls fr a o vs res ho hc hW hF hx hr
  simp only [cOp] at hc
  split at hc <;> first | (cases hc; done) | skip
  rename_i b hb
  cases hc
  obtain ⟨v, rfl, hv⟩ := cOpd_rel1 hb hF hx
  simp only [OpK.run, runNilCheck] at hr
  split at hr <;> first | (cases hr; done) | skip
  all_goals simp only [Option.some.injEq] at hr; subst hr
  . obtain ⟨_, he⟩ := hv.ptr_inv
    exact .pure (by simp [execOp, ho, he]) hv
  . obtain ⟨_, _, _, _, he, _⟩ := hv.fp_inv
    exact .pure (by simp [execOp, ho, he]) hv
  . obtain ⟨_, _, he, _⟩ := hv.func_inv
    exact .pure (by simp [execOp, ho, he]) hv
theorem snd_extract (x : Operand) (i : Nat) : OpSound P tt (.extract x i) := by
  intro ρ C st w k xs cls fr a o vs res ho hc hW hF hx hr
  simp only [cOp] at hc
  split at hc <;> first | (cases hc; done) | skip
  rename_i b hb
  cases hc
  obtain ⟨v, rfl, hv⟩ := cOpd_rel1 hb hF hx
  simp only [OpK.run, runExtract] at hr
  split at hr <;> first | (cases hr; done) | skip
  split at hr <;> first | (cases hr; done) | skip
  rename_i u hu
  simp only [Option.some.injEq] at hr; subst hr
  obtain ⟨cs, he, hs⟩ := hv.tuple_inv
  rw [nth_eq] at hu
  obtain ⟨y, hy, jB⟩ := hs.get hu
  exact .pure (by simp at hy; simp [execOp, ho, he, Instr.extract, hy]) jB
theorem snd_mkIface (hT : TTOk P tt) (t : TypeId) (x : Operand) : OpSound P tt (.makeInterface t x) := by
  intro ρ C st w k xs cls fr a o vs res ho hc hW hF hx hr
  simp only [cOp] at hc
  split at hc <;> first | (cases hc; done) | skip
  rename_i ti b aO hb
  split at hc <;> first | (cases hc; done) | skip
  rename_i h1 h2
  cases hc
  obtain ⟨v, rfl, hv⟩ := cOpd_rel1 hb hF hx
  simp only [OpK.run, runMkIface, Option.some.injEq] at hr; subst hr
  obtain ⟨d, hd, hk⟩ := (hT.at aO).und
  refine .pure (x := .iface t (a.eval x)) ?_ (.iface _ _ _ hv)
  have F7 : ∀ ms, d ≠ .interface ms := by
    rintro ms rfl
    cases ki : ti.k <;> rw [ki] at hk <;> first | (simp [tkMatch] at hk; done) | (exact h1 ki) | (exact h2 ki)
  simp only [execOp, ho, Instr.makeInterface, Sem.run_bind, run_und hd, Result.andThen_ok]
  cases d <;> first | rfl | (exact absurd rfl (F7 _))
theorem snd_mkFunc (fn : Fn) (first captured : Array Operand) : OpSound P tt (.makeFunc fn first captured) := by
  intro ρ C st w k xs cls fr a o vs res ho hc hW hF hx hr
  simp only [cOp] at hc
  split at hc <;> first | (cases hc; done) | skip
  rename_i f l hl
  cases hc
  have h := cOpds_rel hl hF hx
  simp only [OpK.run, runMkFunc, Option.some.injEq] at hr; subst hr
  have e1 : vs.take first.size = vs.take first.size := rfl
  have h1 := h.take first.size
  have h2 := h.drop first.size
  simp only [List.map_append] at h1 h2
  rw [List.take_left' (by simp)] at h1
  rw [List.drop_left' (by simp)] at h2
  refine .pure (x := .func (.func f) (first.map a.eval) (captured.map a.eval)) (by simp [execOp, ho, Instr.makeFunc]) ?_
  exact .func _ _ _ _ _ (by simpa using h1.1) (by simpa using h2.1) (fun i v v' hv kP => h1.2 i v v' hv (by simpa using kP)) (fun i v v' hv kP => h2.2 i v v' hv (by simpa using kP))
theorem snd_fieldAddr (hT : TTOk P tt) (t : TypeId) (x : Operand) (f : Nat) : OpSound P tt (.fieldAddr t x f) := by
  intro ρ C st w k xs cls fr a o vs res ho hc hW hF hx hr
  simp only [cOp] at hc
  split at hc <;> first | (cases hc; done) | skip
  rename_i ti b aO hb
  split at hc <;> first | (cases hc; done) | skip
  rename_i fs hk
  split at hc <;> first | (cases hc; done) | skip
  rename_i off ft nm hf
  split at hc <;> first | (cases hc; done) | skip
  rename_i fi Br
  split at hc <;> first | (cases hc; done) | skip
  rename_i aZ
  cases hc
  obtain ⟨v, rfl, hv⟩ := cOpd_rel1 hb hF hx
  obtain ⟨d, hd, aE⟩ := (hT.at aO).und
  rw [hk] at aE
  obtain ⟨gs, rfl, hm⟩ := tk_struct aE
  obtain ⟨g, hg, eW, rF, _⟩ := field_at hm hf
  simp only at eW rF
  obtain ⟨i, hi, cI, _⟩ := (hT.at Br).info
  have hs0 : ¬ i.size = 0 := by rw [cI]; exact Nat.ne_of_beq_eq_false aZ
  simp only [OpK.run, runFieldA] at hr
  split at hr <;> first | (cases hr; done) | skip
  . simp only [Option.some.injEq] at hr; subst hr
    obtain ⟨aA, he⟩ := hv.ptr_inv
    refine .pure (x := .pointer (some ⟨(ρ _).blk, (ρ _).base + (_ + off), none⟩)) ?_ (.ptr _ _ aA)
    simp at hg
    simp [execOp, ho, he, Instr.fieldAt, run_und hd, hg, Instr.sureAddr, fieldPlace, rF, run_size hi, hs0, add_at, eW, Nat.add_assoc]
  . simp only [Option.some.injEq] at hr; subst hr
    obtain ⟨es, blk, base, cell, he, h1, h2, h3⟩ := hv.fp_inv
    rename_i gi i' j'
    refine .pure (x := .pointer (some ⟨blk, base + i' * es + (j' + off), none⟩)) ?_ (.fp _ _ _ es blk base cell h1 h2 h3)
    simp at hg
    simp [execOp, ho, he, Instr.fieldAt, run_und hd, hg, Instr.sureAddr, fieldPlace, rF, run_size hi, hs0, add_at, eW, Nat.add_assoc]
theorem asIx_rel {ρ : Pos -> Loc} {n : Nat} {C : Cells} {v : AV} {x : Value} {i : Nat} (h : VRel ρ n C v x) (hi : asIx v = some i) : ∃ k, x = .int k (i : Int) := by
  unfold asIx at hi
  split at hi <;> first | (cases hi; done) | skip
  split at hi <;> first | (cases hi; done) | skip
  simp only [Option.some.injEq] at hi; subst hi
  exact ⟨_, h.int_inv⟩
theorem snd_indexAddr (hT : TTOk P tt) (t : TypeId) (x ix : Operand) : OpSound P tt (.indexAddr t x ix) := by
  intro ρ C st w k xs cls fr a o vs res ho hc hW hF hx hr
  simp only [cOp] at hc
  split at hc <;> first | (cases hc; done) | skip
  rename_i ti l aO hl
  obtain ⟨d, hd, aE⟩ := (hT.at aO).und
  obtain ⟨u, v, rfl, h1, h2⟩ := evs2 hl hF (by
    split at hc <;> first | (cases hc; done) | skip
    all_goals
      split at hc <;> first | (cases hc; done) | skip
      cases hc
      exact hx)
  split at hc <;> first | (cases hc; done) | skip
  . rename_i e hk
    rw [hk] at aE
    rw [tk_slice aE] at hd
    split at hc <;> first | (cases hc; done) | skip
    rename_i te bu
    cases hc
    obtain ⟨i0, cX, cI, _⟩ := (hT.at bu).info
    simp only [OpK.run, runIdxA] at hr
    split at hr <;> first | (cases hr; done) | skip
    rename_i i hi
    obtain ⟨kk, vO⟩ := asIx_rel h2 hi
    split at hr <;> first | (cases hr; done) | skip
    . rename_i b off len cap es' _
      split at hr <;> first | (cases hr; done) | skip
      rename_i aA
      have aA : i < len := by simpa using aA
      simp only [Option.some.injEq] at hr; subst hr
      obtain ⟨aa, aj, he, hle, _, ha⟩ := h1.slice_inv
      obtain ⟨hb, rfl, _⟩ := ha (by omega)
      refine .pure (x := .pointer (some ⟨(ρ b).blk, (ρ b).base + (off + i * te.size), none⟩)) ?_ (.ptr _ _ hb)
      simp [execOp, ho, he, vO, Instr.indexAt, run_und hd, asIntOf, aA, run_size cX, add_at, cI, Nat.add_assoc]
    . rename_i gi es' _
      split at hr <;> first | (cases hr; done) | skip
      rename_i aA cg
      have aA : i < gi.length := by simpa using aA
      have cg : te.size = es' := Nat.eq_of_beq_eq_true cg
      simp only [Option.some.injEq] at hr; subst hr
      obtain ⟨aa, aj, cell, he, hle, gU, g1, g2, g3⟩ := h1.fl_inv
      have gU := gU (by intro e; rw [e] at aA; simp at aA)
      obtain ⟨ab, ao, asp⟩ := aa
      simp only at gU; subst gU
      refine .pure (x := .pointer (some ⟨ab, ao + i * es' + 0, none⟩)) ?_ (.fp _ _ _ es' ab ao cell g1 g2 g3)
      simp [execOp, ho, he, vO, Instr.indexAt, run_und hd, asIntOf, aA, run_size cX, add_at, cI, cg]
    . rename_i hh; cases hh
  . rename_i m e hk
    rw [hk] at aE
    rw [tk_array aE] at hd
    split at hc <;> first | (cases hc; done) | skip
    rename_i te bu
    cases hc
    obtain ⟨i0, cX, cI, _⟩ := (hT.at bu).info
    simp only [OpK.run, runIdxA] at hr
    split at hr <;> first | (cases hr; done) | skip
    rename_i i hi
    obtain ⟨kk, vO⟩ := asIx_rel h2 hi
    split at hr <;> first | (cases hr; done) | skip
    . rename_i hh; cases hh
    . rename_i hh; cases hh
    . rename_i m' b off hh
      cases hh
      split at hr <;> first | (cases hr; done) | skip
      rename_i aA
      have aA : i < m := by simpa using aA
      simp only [Option.some.injEq] at hr; subst hr
      obtain ⟨hb, he⟩ := h1.ptr_inv
      refine .pure (x := .pointer (some ⟨(ρ b).blk, (ρ b).base + (off + i * te.size), none⟩)) ?_ (.ptr _ _ hb)
      simp [execOp, ho, he, vO, Instr.indexAt, run_und hd, asIntOf, aA, run_size cX, add_at, cI, Nat.add_assoc, Instr.sureAddr]
end
end Go.Ai
end
section
namespace Go.Ai
open Go Go.RowKit
section
variable {P : Program} {tt : TT}
theorem snd_field (hT : TTOk P tt) (t : TypeId) (x : Operand) (f : Nat) : OpSound P tt (.field t x f) := by
  intro ρ C st w k xs cls fr a o vs res ho hc hW hF hx hr
  simp only [cOp] at hc
  split at hc <;> first | (cases hc; done) | skip
  rename_i ti b aO hb
  split at hc <;> first | (cases hc; done) | skip
  rename_i fs hk
  split at hc <;> first | (cases hc; done) | skip
  rename_i off ft nm hf
  split at hc <;> first | (cases hc; done) | skip
  rename_i fi Br
  cases hc
  obtain ⟨v, rfl, hv⟩ := cOpd_rel1 hb hF hx
  obtain ⟨d, hd, aE⟩ := (hT.at aO).und
  rw [hk] at aE
  obtain ⟨gs, rfl, hm⟩ := tk_struct aE
  obtain ⟨g, hg, eW, rF, _⟩ := field_at hm hf
  simp only at eW rF
  obtain ⟨i, hi, cI, _⟩ := (hT.at Br).info
  obtain ⟨fd, hfd, hfk⟩ := (hT.at Br).und
  have eB := tk_isAgg hfk w hfd
  simp only [OpK.run, runField] at hr
  split at hr <;> first | (cases hr; done) | skip
  rename_i cs
  obtain ⟨cx, he, hs⟩ := hv.agg_inv
  simp at hg
  split at hr
  . rename_i hn
    split at hr <;> first | (cases hr; done) | skip
    rename_i u hu
    simp only [Option.some.injEq] at hr; subst hr
    rw [nth_eq] at hu
    obtain ⟨y, hy, jB⟩ := hs.get hu
    have wP : fi.k.isAgg = false := by
      unfold loadN at hn; split at hn
      . cases hn
      . assumption
    rw [wP] at eB
    refine .pure (x := y) ?_ jB
    simp at hy
    simp [execOp, ho, he, Instr.field, run_und hd, hg, part, rF, eB, asAgg, eW, hy]
  . rename_i m hn
    simp only [Option.some.injEq] at hr; subst hr
    have wP : fi.k.isAgg = true /\ m = fi.size := by
      unfold loadN at hn; split at hn
      . cases hn; exact ⟨by assumption, rfl⟩
      . cases hn
    rw [wP.1] at eB
    refine .pure (x := .agg (cx.extract off (off + m))) ?_ (.agg_of ?_)
    . simp [execOp, ho, he, Instr.field, run_und hd, hg, part, rF, eB, asAgg, eW, run_size hi, cI, wP.2]
    . have := (hs.drop off).take m
      simpa [Array.toList_extract, List.extract] using this
theorem snd_index (hT : TTOk P tt) (t : TypeId) (x ix : Operand) : OpSound P tt (.index t x ix) := by
  intro ρ C st w k xs cls fr a o vs res ho hc hW hF hx hr
  simp only [cOp] at hc
  split at hc <;> first | (cases hc; done) | skip
  rename_i ti l aO hl
  split at hc <;> first | (cases hc; done) | skip
  rename_i hk
  cases hc
  obtain ⟨u, v, rfl, h1, h2⟩ := evs2 hl hF hx
  obtain ⟨d, hd, aE⟩ := (hT.at aO).und
  rw [hk] at aE
  rw [tk_string aE] at hd
  simp only [OpK.run, runIdxS] at hr
  split at hr <;> first | (cases hr; done) | skip
  rename_i s i hi
  split at hr <;> first | (cases hr; done) | skip
  rename_i c hcx
  simp only [Option.some.injEq] at hr; subst hr
  obtain ⟨bs, he, hs⟩ := h1.str_inv
  obtain ⟨kk, vO⟩ := asIx_rel h2 hi
  rw [nth_eq, <- hs, List.getElem?_map] at hcx
  obtain ⟨b, hb, hbc⟩ := Option.map_eq_some_iff.1 hcx
  have bQ : bs[i]? = some b := by
    obtain ⟨aA, cD⟩ := List.getElem?_eq_some_iff.1 hb
    have lG : i < bs.size := by rw [Array.length_toList] at aA; exact aA
    rw [getElem?_pos bs i lG]
    congr 1
  refine .pure (x := .int .u8 (.ofNat c)) ?_ (.int _ _)
  simp [execOp, ho, he, vO, Instr.index, run_und hd, asIntOf, bQ, <- hbc]
theorem snd_load (hT : TTOk P tt) (t : TypeId) (x : Operand) : OpSound P tt (.load t x) := by
  intro ρ C st w k xs cls fr a o vs res ho hc hW hF hx hr
  simp only [cOp] at hc
  split at hc <;> first | (cases hc; done) | skip
  rename_i ti b aO hb
  cases hc
  obtain ⟨v, rfl, hv⟩ := cOpd_rel1 hb hF hx
  obtain ⟨d, hd, aE⟩ := (hT.at aO).und
  obtain ⟨i, hi, cI, _⟩ := (hT.at aO).info
  have eB := tk_isAgg aE w hd
  have hn : (loadN ti = none /\ ti.k.isAgg = false) \/ (loadN ti = some ti.size /\ ti.k.isAgg = true) := by
    unfold loadN; split <;> simp_all
  simp only [OpK.run, runLoad] at hr
  split at hr <;> first | (cases hr; done) | skip
  . rename_i bb off
    split at hr <;> first | (cases hr; done) | skip
    rename_i cs fz cD
    obtain ⟨_, he⟩ := hv.ptr_inv
    rcases hn with ⟨hn, hf⟩ | ⟨hn, hf⟩
    . rw [hn] at hr; rw [hf] at eB
      simp only at hr
      split at hr <;> first | (cases hr; done) | skip
      rename_i u hu
      simp only [Option.some.injEq] at hr; subst hr
      rw [nth_eq] at hu
      obtain ⟨y, hy, jB⟩ := hW.cell cD hu
      refine .pure (x := y) ?_ jB
      simp [execOp, ho, he, Instr.loadAt, Instr.sureAddr, loadVar, eB, hy]
    . rw [hn] at hr; rw [hf] at eB
      simp only at hr
      split at hr <;> first | (cases hr; done) | skip
      rename_i us hu
      simp only [Option.some.injEq] at hr; subst hr
      obtain ⟨ys, hy, jB⟩ := hW.loadCells (P := P) cD hu
      refine .pure (x := .agg ys.toArray) ?_ (.agg_of (by simpa using jB))
      simp [execOp, ho, he, Instr.loadAt, Instr.sureAddr, loadVar, eB, run_size hi, cI, hy]
    rename_i tt0 cs cD
    obtain ⟨_, he⟩ := hv.ptr_inv
    rcases hn with ⟨hn, hf⟩ | ⟨hn, hf⟩
    . rw [hn] at hr; rw [hf] at eB
      simp only at hr
      split at hr <;> first | (cases hr; done) | skip
      rename_i u hu
      simp only [Option.some.injEq] at hr; subst hr
      rw [nth_eq] at hu
      obtain ⟨y, hy, jB⟩ := hW.cellT cD hu
      refine .pure (x := y) ?_ jB
      simp [execOp, ho, he, Instr.loadAt, Instr.sureAddr, loadVar, eB, hy]
    . rw [hn] at hr; rw [hf] at eB
      simp only at hr
      split at hr <;> first | (cases hr; done) | skip
      rename_i us hu
      simp only [Option.some.injEq] at hr; subst hr
      obtain ⟨ys, hy, jB⟩ := hW.loadCellsT (P := P) cD hu
      refine .pure (x := .agg ys.toArray) ?_ (.agg_of (by simpa using jB))
      simp [execOp, ho, he, Instr.loadAt, Instr.sureAddr, loadVar, eB, run_size hi, cI, hy]
  . rename_i gi i' j'
    split at hr <;> first | (cases hr; done) | skip
    rename_i cs cu
    rw [nth_eq] at cu
    obtain ⟨es, blk, base, cell, he, g1, g2, g3⟩ := hv.fp_inv
    rcases hn with ⟨hn, hf⟩ | ⟨hn, hf⟩
    . rw [hn] at hr; rw [hf] at eB
      simp only at hr
      split at hr <;> first | (cases hr; done) | skip
      rename_i u hu
      simp only [Option.some.injEq] at hr; subst hr
      rw [nth_eq] at hu
      have iI := (hW.froz _ _ (g2 _ _ _ _ cu hu)).1
      refine .pure (x := cell i' j') ?_ (g3 _ _ _ _ cu hu)
      simp [execOp, ho, he, Instr.loadAt, Instr.sureAddr, loadVar, eB, iI]
    . rw [hn] at hr; rw [hf] at eB
      simp only at hr
      split at hr <;> first | (cases hr; done) | skip
      rename_i us hu
      simp only [Option.some.injEq] at hr; subst hr
      obtain ⟨xU, hle⟩ := cut_eq hu
      have hlen := cut_length hu
      have aB : (loadCells ⟨blk, base + i' * es + j', none⟩ ti.size).run P w = .ok ((List.range ti.size).map fun q => cell i' (j' + q)).toArray w := by
        refine run_loadCells w _ _ _ fun q hq => ?_
        rw [add_at]
        have : cs[j' + q]? = some (cs[j' + q]'(by omega)) := List.getElem?_eq_getElem (by omega)
        rw [Nat.add_assoc]
        exact (hW.froz _ _ (g2 _ _ _ _ cu this)).1
      refine .pure (x := .agg ((List.range ti.size).map fun q => cell i' (j' + q)).toArray) ?_ (.agg_of ⟨by simp [hlen], fun q u y F9 hy => ?_⟩)
      . simp [execOp, ho, he, Instr.loadAt, Instr.sureAddr, loadVar, eB, run_size hi, cI, aB]
      . have hq : q < ti.size := by rw [<- hlen]; exact (List.getElem?_eq_some_iff.1 F9).1
        rw [xU, List.getElem?_take, if_pos hq, List.getElem?_drop] at F9
        simp [hq] at hy
        subst hy
        exact g3 _ _ _ _ cu F9
theorem snd_min2 {x y : Value} {ρ : Pos -> Loc} {n : Nat} {C : Cells} {u v r : AV} {w : World} {st : St} (h1 : VRel ρ n C u x) (h2 : VRel ρ n C v y) (hr : runMinB (fun b => st.heap.get b) st.next [u, v] = some (.val r)) :
    ∃ z, (Builtin.min2 x y).run P w = .ok z w /\ VRel ρ n C r z := by
  simp only [runMinB] at hr
  split at hr <;> first | (cases hr; done) | skip
  . simp only [Option.some.injEq, ARes.val.injEq] at hr; subst hr
    rw [h1.int_inv, h2.int_inv]
    refine ⟨_, rfl, ?_⟩
    rw [intLt_eq]
    split
    . rename_i h; rw [if_pos (of_decide_eq_true h)]; exact .int _ _
    . rename_i h; rw [if_neg (of_decide_eq_false h)]; exact .int _ _
  . simp only [Option.some.injEq, ARes.val.injEq] at hr; subst hr
    rename_i sa sb
    obtain ⟨bx, rfl, e1⟩ := h1.str_inv
    obtain ⟨bz, rfl, e2⟩ := h2.str_inv
    have hh : (Op.stringOp .leq bx bz).run P w = .ok (.bool (lessNats sa sb || beqNats sa sb)) w := by
      simp only [Op.stringOp, Sem.run_pure]; rw [str_less e1 e2, str_beq e1 e2]
    refine ⟨_, by simp only [Builtin.min2, Sem.run_bind, hh, Result.andThen_ok, asBool, Sem.run_pure]; rfl, ?_⟩
    split
    . rename_i h; rw [if_pos h]; exact .str _ _ e1
    . rename_i h; rw [if_neg (by rw [h]; simp)]; exact .str _ _ e2
theorem snd_max2 {x y : Value} {ρ : Pos -> Loc} {n : Nat} {C : Cells} {u v r : AV} {w : World} {st : St} (h1 : VRel ρ n C u x) (h2 : VRel ρ n C v y) (hr : runMaxB (fun b => st.heap.get b) st.next [u, v] = some (.val r)) :
    ∃ z, (Builtin.max2 x y).run P w = .ok z w /\ VRel ρ n C r z := by
  simp only [runMaxB] at hr
  split at hr <;> first | (cases hr; done) | skip
  . simp only [Option.some.injEq, ARes.val.injEq] at hr; subst hr
    rw [h1.int_inv, h2.int_inv]
    refine ⟨_, rfl, ?_⟩
    rw [intLt_eq]
    split
    . rename_i h; rw [if_pos (of_decide_eq_true h)]; exact .int _ _
    . rename_i h; rw [if_neg (of_decide_eq_false h)]; exact .int _ _
  . simp only [Option.some.injEq, ARes.val.injEq] at hr; subst hr
    rename_i sa sb
    obtain ⟨bx, rfl, e1⟩ := h1.str_inv
    obtain ⟨bz, rfl, e2⟩ := h2.str_inv
    have hh : (Op.stringOp .geq bx bz).run P w = .ok (.bool (!lessNats sa sb)) w := by
      simp only [Op.stringOp, Sem.run_pure]; rw [str_less e1 e2]
    refine ⟨_, by simp only [Builtin.max2, Sem.run_bind, hh, Result.andThen_ok, asBool, Sem.run_pure]; rfl, ?_⟩
    split
    . rename_i h; rw [if_neg (by rw [h]; simp)]; exact .str _ _ e2
    . rename_i h; rw [if_pos (by rw [h]; rfl)]; exact .str _ _ e1
theorem map_toList_eval (xs : Array Operand) (a : Act) : xs.toList.map a.eval = (xs.map a.eval).toList := by simp
end
end Go.Ai
end
section
namespace Go.Ai
open Go Go.RowKit
section
variable {P : Program} {tt : TT}
theorem vs1 {ρ : Pos -> Loc} {n : Nat} {C : Cells} {bs : List AV} {x : Value} (h : VsRel ρ n C bs [x]) : ∃ b, bs = [b] /\ VRel ρ n C b x := by
  match bs, h with
  | [b], h => exact ⟨b, rfl, h.2 0 b x rfl rfl⟩
  | [], h => have := h.1; simp at this
  | _ :: _ :: _, h => have := h.1; simp at this
theorem vs2 {ρ : Pos -> Loc} {n : Nat} {C : Cells} {bs : List AV} {x y : Value} (h : VsRel ρ n C bs [x, y]) : ∃ b c, bs = [b, c] /\ VRel ρ n C b x /\ VRel ρ n C c y := by
  match bs, h with
  | [b, c], h => exact ⟨b, c, rfl, h.2 0 b x rfl rfl, h.2 1 c y rfl rfl⟩
  | [], h => have := h.1; simp at this
  | [_], h => have := h.1; simp at this
  | _ :: _ :: _ :: _, h => have := h.1; simp at this
theorem vs3 {ρ : Pos -> Loc} {n : Nat} {C : Cells} {bs : List AV} {x y z : Value} (h : VsRel ρ n C bs [x, y, z]) : ∃ b c d, bs = [b, c, d] /\ VRel ρ n C b x /\ VRel ρ n C c y /\ VRel ρ n C d z := by
  match bs, h with
  | [b, c, d], h => exact ⟨b, c, d, rfl, h.2 0 b x rfl rfl, h.2 1 c y rfl rfl, h.2 2 d z rfl rfl⟩
  | [], h => have := h.1; simp at this
  | [_], h => have := h.1; simp at this
  | [_, _], h => have := h.1; simp at this
  | _ :: _ :: _ :: _ :: _, h => have := h.1; simp at this
def BndRel (x : Option Value) (i : Option Nat) : Prop := (x = none /\ i = none) \/ ∃ j k, i = some j /\ x = some (.int k (j : Int))
theorem bounds_rel {ρ : Pos -> Loc} {n : Nat} {C : Cells} {lo hi mx : Option Operand} {bs : List AV} {a : Act} {l h m : Option Nat}
    (hb : VsRel ρ n C bs ((optOpd lo ++ optOpd hi ++ optOpd mx).map a.eval)) (hr : bounds lo.isSome hi.isSome mx.isSome bs = some (l, h, m)) :
    BndRel (lo.map a.eval) l /\ BndRel (hi.map a.eval) h /\ BndRel (mx.map a.eval) m /\ (m.isSome = true -> h.isSome = true) := by
  unfold bounds at hr
  cases lo <;> cases hi <;> cases mx <;> simp only [Option.isSome_some, Option.isSome_none, optOpd, List.nil_append, List.append_nil, List.cons_append, List.map_cons, List.map_nil] at hb hr <;>
    first | (cases hr; done) | skip
  . cases bs with
    | cons b bs => have := hb.1; simp at this
    | nil => simp at hr; obtain ⟨rfl, rfl, rfl⟩ := hr; exact ⟨.inl ⟨rfl, rfl⟩, .inl ⟨rfl, rfl⟩, .inl ⟨rfl, rfl⟩, fun h => by cases h⟩
  . obtain ⟨b, rfl, h1⟩ := vs1 hb
    simp only at hr
    split at hr <;> first | (cases hr; done) | skip
    rename_i j hj
    obtain ⟨k, hk⟩ := asIx_rel h1 hj
    simp at hr; obtain ⟨rfl, rfl, rfl⟩ := hr
    exact ⟨.inl ⟨rfl, rfl⟩, .inr ⟨j, k, rfl, by simp [hk]⟩, .inl ⟨rfl, rfl⟩, fun h => by cases h⟩
  . obtain ⟨b, c, rfl, h1, h2⟩ := vs2 hb
    simp only at hr
    split at hr <;> first | (cases hr; done) | skip
    rename_i j j' hj mG
    obtain ⟨k, hk⟩ := asIx_rel h1 hj
    obtain ⟨k', eV⟩ := asIx_rel h2 mG
    simp at hr; obtain ⟨rfl, rfl, rfl⟩ := hr
    exact ⟨.inl ⟨rfl, rfl⟩, .inr ⟨j, k, rfl, by simp [hk]⟩, .inr ⟨j', k', rfl, by simp [eV]⟩, fun _ => rfl⟩
  . obtain ⟨b, rfl, h1⟩ := vs1 hb
    simp only at hr
    split at hr <;> first | (cases hr; done) | skip
    rename_i j hj
    obtain ⟨k, hk⟩ := asIx_rel h1 hj
    simp at hr; obtain ⟨rfl, rfl, rfl⟩ := hr
    exact ⟨.inr ⟨j, k, rfl, by simp [hk]⟩, .inl ⟨rfl, rfl⟩, .inl ⟨rfl, rfl⟩, fun h => by cases h⟩
  . obtain ⟨b, c, rfl, h1, h2⟩ := vs2 hb
    simp only at hr
    split at hr <;> first | (cases hr; done) | skip
    rename_i j j' hj mG
    obtain ⟨k, hk⟩ := asIx_rel h1 hj
    obtain ⟨k', eV⟩ := asIx_rel h2 mG
    simp at hr; obtain ⟨rfl, rfl, rfl⟩ := hr
    exact ⟨.inr ⟨j, k, rfl, by simp [hk]⟩, .inr ⟨j', k', rfl, by simp [eV]⟩, .inl ⟨rfl, rfl⟩, fun h => by cases h⟩
  . obtain ⟨b, c, d, rfl, h1, h2, h3⟩ := vs3 hb
    simp only at hr
    split at hr <;> first | (cases hr; done) | skip
    rename_i j j' j'' hj mG Lo
    obtain ⟨k, hk⟩ := asIx_rel h1 hj
    obtain ⟨k', eV⟩ := asIx_rel h2 mG
    obtain ⟨k'', Lp⟩ := asIx_rel h3 Lo
    simp at hr; obtain ⟨rfl, rfl, rfl⟩ := hr
    exact ⟨.inr ⟨j, k, rfl, by simp [hk]⟩, .inr ⟨j', k', rfl, by simp [eV]⟩, .inr ⟨j'', k'', rfl, by simp [Lp]⟩, fun _ => rfl⟩
theorem run_sliceBounds_rel (Ga : Bool) {len cap : Nat} {xl xh xm : Option Value} {l h m : Option Nat} (h1 : BndRel xl l) (h2 : BndRel xh h) (h3 : BndRel xm m) (hmh : m.isSome = true -> h.isSome = true)
    (kQ : l.getD 0 <= h.getD len) (hhm : h.getD len <= m.getD cap) (hmc : m.getD cap <= cap) (w : World) :
    (Instr.sliceBounds Ga len cap xl xh xm).run P w = .ok (l.getD 0, h.getD len, m.getD cap) w := by
  rcases h1 with ⟨rfl, rfl⟩ | ⟨jl, kl, rfl, rfl⟩ <;> rcases h2 with ⟨rfl, rfl⟩ | ⟨jh, kh, rfl, rfl⟩ <;> rcases h3 with ⟨rfl, rfl⟩ | ⟨jm, km, rfl, rfl⟩ <;>
    simp only [Option.getD_none, Option.getD_some, Option.isSome_some, Option.isSome_none] at kQ hhm hmc hmh ⊢ <;>
    first
      | (simp at hmh; done)
      | simp [Instr.sliceBounds, Instr.sliceBound, asIntOf, kQ, hhm, hmc, Int.ofNat_le]
theorem slice_res {ρ : Pos -> Loc} {n : Nat} {C : Cells} {b : Pos} {off es aj l h M : Nat} {aa : Addr} {Am : Option Nat}
    (ha : aj ≠ 0 -> b.toNat < n /\ aa = ⟨(ρ b).blk, (ρ b).base + off, none⟩ /\ (ρ b).base + off + aj * es <= (ρ b).size)
    (h1 : l <= h) (h2 : h <= M) (h3 : M <= aj) (hc : ∀ c, Am = some c -> c = M - l) (hk : Am = none -> b.toNat < n) :
    VRel ρ n C (.slice b (off + l * es) (h - l) Am es) (.slice (if M = l then some aa else (some aa).map (·.add (l * es))) (h - l) (M - l)) := by
  by_cases hm : M = l
  . rw [if_pos hm]
    exact .slice _ _ _ _ _ _ _ (by omega) hc (fun h0 => absurd (by omega) h0) hk
  . rw [if_neg hm]
    obtain ⟨hb, rfl, hle⟩ := ha (by omega)
    refine .slice _ _ _ _ _ _ _ (by omega) hc (fun _ => ⟨hb, by show Addr.add _ _ = _; rw [add_at, Nat.add_assoc], ?_⟩) hk
    have e1 : l * es + (M - l) * es = M * es := by rw [<- Nat.add_mul]; congr 1; omega
    have e2 : M * es <= aj * es := Nat.mul_le_mul_right _ h3
    omega
theorem snd_slice (hT : TTOk P tt) (t : TypeId) (x : Operand) (lo hi mx : Option Operand) : OpSound P tt (.slice t x lo hi mx) := by
  intro ρ C st w k xs cls fr a o vs res ho hc hW hF hx hr
  simp only [cOp] at hc
  split at hc <;> first | (cases hc; done) | skip
  rename_i ti l0 aO hl
  obtain ⟨d, hd, aE⟩ := (hT.at aO).und
  split at hc <;> first | (cases hc; done) | skip
  . rename_i hk
    rw [hk] at aE; rw [tk_string aE] at hd
    split at hc <;> first | (cases hc; done) | skip
    cases hc
    have hv := cOpds_rel hl hF hx
    simp only [optOpd, List.append_nil, List.cons_append, List.nil_append, List.map_cons] at hv
    simp only [OpK.run, runSliceS] at hr
    split at hr <;> first | (cases hr; done) | skip
    rename_i u bs
    split at hr <;> first | (cases hr; done) | skip
    rename_i s l h m' hb
    split at hr <;> first | (cases hr; done) | skip
    rename_i h1 h2
    have h1 := Nat.le_of_ble_eq_true h1
    have h2 := Nat.le_of_ble_eq_true h2
    simp only [Option.some.injEq] at hr; subst hr
    obtain ⟨y, ys, fY, hu, cY⟩ := hv.cons_inv
    simp only [List.cons.injEq] at fY; obtain ⟨rfl, rfl⟩ := fY
    have cD := bounds_rel (lo := lo) (hi := hi) (mx := none) (a := a) (by simpa [optOpd] using cY) hb
    obtain ⟨Bs, he, hs⟩ := hu.str_inv
    have aZ := str_size hs
    have aB := run_sliceBounds_rel (P := P) false (len := Bs.size) (cap := Bs.size) cD.1 cD.2.1 (.inl ⟨rfl, rfl⟩ : BndRel none none) (fun h => by cases h)
      (by rw [aZ]; exact h1) (by rw [aZ]; simpa using h2) (by simp) w
    refine .pure (x := .string (Bs.extract (l.getD 0) (h.getD Bs.size))) ?_ (.str _ _ ?_)
    . simp only [execOp, ho, Instr.sliceAt, Sem.run_bind, run_und hd, Result.andThen_ok, he, Instr.slice]
      simp [aB]
    . rw [aZ, ByteArray.data_extract, Array.toList_extract, <- hs, List.extract, List.map_take, List.map_drop]
      rw [List.drop_take]
  . rename_i e hk
    rw [hk] at aE; rw [tk_slice aE] at hd
    split at hc <;> first | (cases hc; done) | skip
    rename_i te bu
    cases hc
    obtain ⟨i0, cX, cI, _⟩ := (hT.at bu).info
    have hv := cOpds_rel hl hF hx
    simp only [List.cons_append, List.nil_append, List.append_assoc, List.map_cons] at hv
    simp only [OpK.run, runSliceL] at hr
    split at hr <;> first | (cases hr; done) | skip
    rename_i u bs
    obtain ⟨y, ys, fY, hu, cY⟩ := hv.cons_inv
    simp only [List.cons.injEq] at fY; obtain ⟨rfl, rfl⟩ := fY
    have eW : ∀ (sa : Option Addr) (len cap : Nat) (l h m : Option Nat), a.eval x = .slice sa len cap -> bounds lo.isSome hi.isSome mx.isSome bs = some (l, h, m) ->
        l.getD 0 <= h.getD len -> h.getD len <= m.getD cap -> m.getD cap <= cap ->
        (execOp a.eval o).run P w = .ok (.value (.slice (if m.getD cap = l.getD 0 then sa else sa.map (·.add (l.getD 0 * te.size))) (h.getD len - l.getD 0) (m.getD cap - l.getD 0))) w := by
      intro sa len cap l h m he hb h1 h2 h3
      have cD := bounds_rel (lo := lo) (hi := hi) (mx := mx) (a := a) (by simpa [List.append_assoc] using cY) hb
      have aB := run_sliceBounds_rel (P := P) true (len := len) (cap := cap) cD.1 cD.2.1 cD.2.2.1 cD.2.2.2 h1 h2 h3 w
      simp only [execOp, ho, Instr.sliceAt, Sem.run_bind, run_und hd, Result.andThen_ok, he, Instr.slice, aB, run_size cX, cI, Sem.run_pure]
    split at hr <;> first | (cases hr; done) | skip
    ·
      rename_i b off len cap es' l h m hb
      split at hr <;> first | (cases hr; done) | skip
      rename_i cg kQ
      have cg : te.size = es' := Nat.eq_of_beq_eq_true cg
      subst cg
      have kQ := Nat.le_of_ble_eq_true kQ
      obtain ⟨aa, aj, he, hle, iE, ha⟩ := hu.slice_inv
      split at hr
      . rename_i c m'
        split at hr <;> first | (cases hr; done) | skip
        rename_i e1 e2
        have e1 := Nat.le_of_ble_eq_true e1
        have e2 := Nat.le_of_ble_eq_true e2
        have := iE c rfl; subst this
        simp only [Option.some.injEq] at hr; subst hr
        exact .pure (eW _ _ _ _ _ _ he hb kQ (by simpa using e1) (by simpa using e2)) (slice_res ha kQ e1 e2 (fun c hc => by cases hc; rfl) (fun h => by cases h))
      . rename_i c
        split at hr <;> first | (cases hr; done) | skip
        rename_i e1
        have e1 := Nat.le_of_ble_eq_true e1
        have := iE c rfl; subst this
        simp only [Option.some.injEq] at hr; subst hr
        exact .pure (eW _ _ _ _ _ _ he hb kQ (by simpa using e1) (by simp)) (slice_res ha kQ e1 (Nat.le_refl _) (fun c hc => by cases hc; rfl) (fun h => by cases h))
      . rename_i m'
        split at hr <;> first | (cases hr; done) | skip
        rename_i e1 e2
        have e1 := Nat.le_of_ble_eq_true e1
        have e2 := Nat.le_of_ble_eq_true e2
        simp only [Option.some.injEq] at hr; subst hr
        exact .pure (eW _ _ _ _ _ _ he hb kQ (by simpa using e1) (by simp; omega)) (slice_res ha kQ e1 (by simp; omega) (fun c hc => by cases hc; rfl) (fun h => by cases h))
      . split at hr <;> first | (cases hr; done) | skip
        rename_i e1
        have e1 := Nat.le_of_ble_eq_true e1
        simp only [Option.some.injEq] at hr; subst hr
        exact .pure (eW _ _ _ _ _ _ he hb kQ (by simp; omega) (by simp)) (slice_res ha kQ (by simp; omega) (Nat.le_refl _) (fun c hc => by cases hc) (fun _ => hu.slice_key rfl))
    ·
      rename_i gi es' l h m hb
      split at hr <;> first | (cases hr; done) | skip
      rename_i cg
      have cg : te.size = es' := Nat.eq_of_beq_eq_true cg
      subst cg
      obtain ⟨aa, aj, cell, he, hle, gU, g1, g2, g3⟩ := hu.fl_inv
      split at hr
      . rename_i m'
        split at hr <;> first | (cases hr; done) | skip
        rename_i e0 e1 e2
        have e0 := Nat.eq_of_beq_eq_true e0
        have e1 := Nat.eq_of_beq_eq_true e1
        have e2 := Nat.eq_of_beq_eq_true e2
        subst e2
        simp only [Option.some.injEq] at hr; subst hr
        refine .pure (eW _ _ _ _ _ _ he hb (by omega) (by rw [e1]; simp) (by simp)) ?_
        simp only [e0, e1, Option.getD_some, Nat.sub_self, if_true]
        exact .slice _ _ _ _ _ _ _ (Nat.le_refl _) (fun c hc => by cases hc; rfl) (fun h0 => absurd rfl h0) (fun h => by cases h)
      . split at hr <;> first | (cases hr; done) | skip
        rename_i e0 e1
        have e0 := Nat.le_of_ble_eq_true e0
        have e1 := Nat.le_of_ble_eq_true e1
        simp only [Option.some.injEq] at hr; subst hr
        refine .pure (eW _ _ _ _ _ _ he hb e0 (by simp; omega) (by simp)) ?_
        simp only [Option.getD_none]
        have hlen : (List.drop (l.getD 0) (List.take (h.getD gi.length) gi)).length = h.getD gi.length - l.getD 0 := by simp; omega
        rw [<- hlen]
        have dm : ∀ i cs, (List.drop (l.getD 0) (List.take (h.getD gi.length) gi))[i]? = some cs -> gi[l.getD 0 + i]? = some cs := by
          intro i cs hi
          rw [List.getElem?_drop, List.getElem?_take] at hi
          split at hi
          . exact hi
          . cases hi
        by_cases xV : aj = l.getD 0
        . rw [if_pos xV]
          have Lq : List.drop (l.getD 0) (List.take (h.getD gi.length) gi) = [] := by
            apply List.eq_nil_of_length_eq_zero; rw [hlen]; omega
          rw [Lq]
          exact .fl _ _ _ _ (fun _ _ => undef) (by simp) (fun h => absurd rfl h) (fun i cs hi => by simp at hi) (fun i j cs v hi => by simp at hi) (fun i j cs v hi => by simp at hi)
        . rw [if_neg xV]
          by_cases aI : gi = []
          . subst aI
            simp only [List.take_nil, List.drop_nil]
            exact .fl _ _ _ _ (fun _ _ => undef) (by simp) (fun h => absurd rfl h) (fun i cs hi => by simp at hi) (fun i j cs v hi => by simp at hi) (fun i j cs v hi => by simp at hi)
          . have gU := gU aI
            obtain ⟨ab, ao, asp⟩ := aa
            simp only at gU; subst gU
            simp only [Option.map_some, add_at]
            refine .fl _ _ _ _ (fun i j => cell (l.getD 0 + i) j) (by rw [hlen]; omega) (fun _ => rfl) (fun i cs hi => g1 _ _ (dm i cs hi)) (fun i j cs v hi hj => ?_) (fun i j cs v hi hj => g3 _ _ _ _ (dm i cs hi) hj)
            have := g2 _ _ _ _ (dm i cs hi) hj
            simp only at this ⊢
            rw [<- this]
            congr 2
            rw [Nat.add_mul]; omega
    ·
      rename_i l h m hb
      split at hr <;> first | (cases hr; done) | skip
      rename_i e0 e1 e2
      have e0 := Nat.eq_of_beq_eq_true e0
      have e1 := Nat.eq_of_beq_eq_true e1
      have e2 := Nat.eq_of_beq_eq_true e2
      simp only [Option.some.injEq] at hr; subst hr
      have he := hu.nils_inv
      refine .pure (eW _ _ _ _ _ _ he hb (by omega) (by omega) (by omega)) ?_
      simp only [e0, e1, e2, Nat.sub_self, if_true]
      exact .nils
end
end Go.Ai
end
section
namespace Go.Ai
open Go Go.RowKit
section
variable {P : Program} {tt : TT}
theorem bytesOf_rel {ρ : Pos -> Loc} {n : Nat} {C : Cells} : ∀ {l : List AV} {s : List Nat} {ys : List Value}, bytesOf l = some s -> VsRel ρ n C l ys ->
    ys = (s.map Int.ofNat).map (Value.int .u8) /\ ∀ c, c ∈ s -> c < 256
  | [], s, ys, h, hv => by
    simp [bytesOf] at h; subst h
    exact ⟨by simpa using hv.nil_inv, fun c hc => by simp at hc⟩
  | v :: l, s, ys, h, hv => by
    unfold bytesOf at h
    split at h <;> first | (cases h; done) | skip
    . rename_i h0; simp at h0
    . rename_i c l' he
      simp only [List.cons.injEq] at he; obtain ⟨rfl, rfl⟩ := he
      split at h <;> first | (cases h; done) | skip
      rename_i s' aA dB
      simp only [Option.some.injEq] at h; subst h
      obtain ⟨y, ys', rfl, h1, h2⟩ := hv.cons_inv
      obtain ⟨e, dS⟩ := bytesOf_rel dB h2
      have aA : c < 256 := by simpa using aA
      refine ⟨by rw [h1.int_inv, e]; rfl, fun c' hc => ?_⟩
      simp at hc; rcases hc with rfl | hc
      . exact aA
      . exact dS _ hc
theorem foldl_push_data : ∀ (s : List Nat) (acc : ByteArray), ((s.map Int.ofNat).foldl (fun r n => r.push (UInt8.ofNat n.toNat)) acc).data.toList = acc.data.toList ++ s.map UInt8.ofNat
  | [], acc => by simp
  | c :: s, acc => by
    simp only [List.map_cons, List.foldl_cons]
    rw [foldl_push_data s]
    simp [ByteArray.push]
theorem liesAt_self {P : Program} {e : TypeId} (hc : P.cellsOf e ≠ 0) (count : Nat) (hn : 1 <= count) : liesAt P P.depth e count 0 e 1 = true := by
  have hd : P.depth = (2 * (P.types.size + Made.depth) + 1) + 1 := rfl
  rw [hd]
  simp only [liesAt, Bool.or_eq_true]
  left
  rw [hd]
  simp [rowAt, hc, hn, sameLayout]
theorem snd_convert (hT : TTOk P tt) (src dst : TypeId) (x : Operand) (Gb : ∀ k xs cls, cOp tt (.convert src dst x) = some (k, xs, cls) -> k ≠ .conv .bytes) : OpSound P tt (.convert src dst x) := by
  intro ρ C st w k xs cls fr a o vs res ho hc hW hF hx hr
  have Gb := Gb _ _ _ hc
  simp only [cOp] at hc
  split at hc <;> first | (cases hc; done) | skip
  rename_i s d b hs hd hb
  obtain ⟨ds, jC, kR⟩ := (hT.at hs).und
  obtain ⟨dd, hdd, aE⟩ := (hT.at hd).und
  split at hc <;> first | (cases hc; done) | skip
  . rename_i k1 k2 h1 h2
    cases hc
    obtain ⟨v, rfl, hv⟩ := cOpd_rel1 hb hF hx
    rw [h1] at kR; rw [h2] at aE
    rw [tk_int kR] at jC; rw [tk_int aE] at hdd
    simp only [OpK.run, runConv] at hr
    split at hr <;> first | (cases hr; done) | (rename_i heq; cases heq; done) | (rename_i heq; cases heq)
    simp only [Option.some.injEq] at hr; subst hr
    refine .pure ?_ (by rw [wrapI_eq]; exact .int _ _)
    simp [execOp, ho, hv.int_inv, convert, run_und jC, run_und hdd, Conv.intToInt]
  . rename_i h1 h2
    cases hc
    obtain ⟨v, rfl, hv⟩ := cOpd_rel1 hb hF hx
    rw [h1] at kR; rw [h2] at aE
    rw [tk_string kR] at jC; rw [tk_string aE] at hdd
    simp only [OpK.run, runConv] at hr
    split at hr <;> first | (cases hr; done) | (rename_i heq; cases heq; done) | (rename_i heq; cases heq)
    simp only [Option.some.injEq] at hr; subst hr
    obtain ⟨bs, he, hs⟩ := hv.str_inv
    exact .pure (x := .string bs) (by simp [execOp, ho, he, convert, run_und jC, run_und hdd]) (.str _ _ hs)
  . split at hc <;> first | (cases hc; done) | skip
    split at hc <;> first | (cases hc; done) | skip
    cases hc
    exact absurd rfl Gb
  . rename_i e h1 h2
    split at hc <;> first | (cases hc; done) | skip
    rename_i te bu
    split at hc <;> first | (cases hc; done) | skip
    rename_i oR
    cases hc
    obtain ⟨v, rfl, hv⟩ := cOpd_rel1 hb hF hx
    rw [h1] at kR; rw [h2] at aE
    rw [tk_slice kR] at jC; rw [tk_string aE] at hdd
    obtain ⟨de, xW, xX⟩ := (hT.at bu).und
    rw [oR] at xX; rw [tk_int xX] at xW
    have eW : ∀ y : Option Addr × Nat × Nat, a.eval x = .slice y.1 y.2.1 y.2.2 -> (execOp a.eval o).run P w = ((Conv.bytesToString (a.eval x)).run P w).andThen fun v w => .ok (.value v) w := by
      intro y he
      simp [execOp, ho, he, convert, run_und jC, run_und hdd, run_und xW]
    simp only [OpK.run, runConv] at hr
    split at hr <;> first | (cases hr; done) | (rename_i heq; cases heq; done) | (rename_i heq; cases heq)
    . simp only [Option.some.injEq] at hr; subst hr
      have he := hv.nils_inv
      refine .pure (x := .string .empty) ?_ (.str _ _ rfl)
      rw [eW (none, 0, 0) he, he]; simp [Conv.bytesToString]
    . rename_i bb off m cap es
      obtain ⟨aa, aj, he, hle, _, ha⟩ := hv.slice_inv
      split at hr
      . rename_i h0
        have := Nat.eq_of_beq_eq_true h0; subst this
        simp only [Option.some.injEq] at hr; subst hr
        refine .pure (x := .string .empty) ?_ (.str _ _ rfl)
        rw [eW (some aa, 0, aj) he, he]; simp [Conv.bytesToString, loadCells, loadCellsFrom]
      . rename_i h0
        have h0 := Nat.ne_of_beq_eq_false h0
        split at hr <;> first | (cases hr; done) | skip
        rename_i cs fz cD
        split at hr <;> first | (cases hr; done) | skip
        rename_i l hcut
        split at hr <;> first | (cases hr; done) | skip
        rename_i s' rG
        simp only [Option.some.injEq] at hr; subst hr
        obtain ⟨aA, rfl, _⟩ := ha (by omega)
        obtain ⟨ys, fY, ec⟩ := hW.loadCells (P := P) cD hcut
        obtain ⟨e1, e2⟩ := bytesOf_rel rG ec
        rw [e1] at fY
        have aB := run_bytesToString (P := P) w ⟨(ρ bb).blk, (ρ bb).base + off, none⟩ m aj (s'.map Int.ofNat) fY
        refine .pure (x := .string _) (by rw [eW (some _, m, aj) he, he, aB]; rfl) (.str _ _ ?_)
        rw [foldl_push_data, List.map_append]
        have e0 : ByteArray.empty.data.toList = [] := rfl
        rw [e0, List.map_nil, List.nil_append, List.map_map]
        have e3 : s'.map (UInt8.toNat ∘ UInt8.ofNat) = s'.map id := List.map_congr_left fun c hc => by
          have := e2 c hc
          simp only [Function.comp, id, UInt8.toNat_ofNat']
          omega
        rw [e3, List.map_id]
  ·
    rename_i e h1 h2
    split at hc <;> first | (cases hc; done) | skip
    rename_i te bu
    split at hc <;> first | (cases hc; done) | skip
    rename_i aZ
    cases hc
    obtain ⟨v, rfl, hv⟩ := cOpd_rel1 hb hF hx
    rw [h1] at kR; rw [h2] at aE
    rw [tk_ptr kR] at jC; rw [tk_upt aE] at hdd
    obtain ⟨i0, cX, cI, _⟩ := (hT.at bu).info
    have aZ := Nat.ne_of_beq_eq_false aZ
    simp only [OpK.run, runToU] at hr
    split at hr <;> first | (cases hr; done) | skip
    . simp only [Option.some.injEq] at hr; subst hr
      refine .pure (x := .pointer none) ?_ .nilp
      simp [execOp, ho, hv.nilp_inv, convert, run_und jC, run_und hdd, Conv.unsafePointer]
    . rename_i bb off
      split at hr <;> first | (cases hr; done) | skip
      rename_i t0 cs cD
      split at hr <;> first | (cases hr; done) | skip
      rename_i aA
      have aA : off < cs.length := by simpa using aA
      simp only [Option.some.injEq] at hr; subst hr
      obtain ⟨_, he⟩ := hv.ptr_inv
      obtain ⟨_, _, c, fr, g1, g2, g3, g4, g5, g6⟩ := hW.live _ _ cD
      have n7 : w.shape? (ρ bb).blk = some (t0, c.size) := by simp [World.shape?, g1]
      have := Lib.run_to_unsafe (P := P) (w := w) (j := i0) ⟨(ρ bb).blk, (ρ bb).base + off, none⟩ jC hdd cX (by rw [cI]; exact aZ) n7 (by show (ρ bb).base + off < c.size; omega)
      exact .pure (x := .pointer (some ⟨(ρ bb).blk, (ρ bb).base + off, none⟩)) (by simp [execOp, ho, he, this]) (he ▸ hv)
  ·
    rename_i e h1 h2
    split at hc <;> first | (cases hc; done) | skip
    rename_i te bu
    split at hc <;> first | (cases hc; done) | skip
    rename_i aZ
    cases hc
    obtain ⟨v, rfl, hv⟩ := cOpd_rel1 hb hF hx
    rw [h1] at kR; rw [h2] at aE
    rw [tk_upt kR] at jC; rw [tk_ptr aE] at hdd
    obtain ⟨i0, cX, cI, _⟩ := (hT.at bu).info
    have aZ := Nat.ne_of_beq_eq_false aZ
    simp only [OpK.run, runFromU] at hr
    split at hr <;> first | (cases hr; done) | skip
    . simp only [Option.some.injEq] at hr; subst hr
      refine .pure (x := .pointer none) ?_ .nilp
      simp [execOp, ho, hv.nilp_inv, convert, run_und jC, run_und hdd, Conv.unsafePointer]
    . rename_i bb
      split at hr <;> first | (cases hr; done) | skip
      rename_i t0 cs cD
      split at hr <;> first | (cases hr; done) | skip
      rename_i ht hle
      have ht := Nat.eq_of_beq_eq_true ht
      have hle := Nat.le_of_ble_eq_true hle
      subst ht
      simp only [Option.some.injEq] at hr; subst hr
      obtain ⟨_, he⟩ := hv.ptr_inv
      obtain ⟨_, _, c, fr, g1, g2, g3, g4, g5, g6⟩ := hW.live _ _ cD
      have n7 : w.shape? (ρ bb).blk = some (t0, c.size) := by simp [World.shape?, g1]
      have iI : P.cellsOf t0 = te.size := by simp [Program.cellsOf, cX, cI]
      have mI : 1 <= c.size / P.cellsOf t0 := by rw [iI, Nat.le_div_iff_mul_le (by omega)]; omega
      rw [Nat.add_zero] at he
      have := Lib.run_from_unsafe (P := P) (w := w) (j := i0) ⟨(ρ bb).blk, (ρ bb).base, none⟩ jC hdd cX n7 (by show liesAt P P.depth t0 _ (ρ bb).base t0 1 = true; rw [g6]; exact liesAt_self (by rw [iI]; exact aZ) _ mI)
      exact .pure (x := .pointer (some ⟨(ρ bb).blk, (ρ bb).base, none⟩)) (by simp [execOp, ho, he, this]) (he ▸ hv)
theorem checkKey_plain {t : TypeId} {d : TypeDesc} (hd : P.underlying t = some d) {pk : PK} (hk : pk.fits d = true) (e : Bool) (m : Nat) (x : Value) (w : World) :
    (Instr.checkKey e (m + 1) t x).run P w = .ok () w := by
  unfold Instr.checkKey
  rw [Sem.run_bind, run_und hd, Result.andThen_ok]
  cases pk <;> cases d <;> simp [PK.fits] at hk <;> rfl
theorem sameNow_rel {ρ : Pos -> Loc} {n : Nat} {C : Cells} {pk : PK} {d : TypeDesc} (hk : pk.fits d = true) {u v : AV} {x y : Value} {r : Bool}
    (h1 : VRel ρ n C u x) (h2 : VRel ρ n C v y) (h : eqPK pk u v = some r) : Instr.sameNow d x y = some r := by
  unfold eqPK at h
  split at h <;> first | (cases h; done) | skip
  . simp only [Option.some.injEq] at h; subst h
    cases d <;> simp [PK.fits] at hk
    rw [h1.bool_inv, h2.bool_inv]; rfl
  . split at h <;> first | (cases h; done) | skip
    rename_i ki
    have := eqKind_eq ki; subst this
    simp only [Option.some.injEq] at h; subst h
    cases d <;> simp [PK.fits] at hk
    rw [h1.int_inv, h2.int_inv]; simp [Instr.sameNow, intEq_eq]
  . simp only [Option.some.injEq] at h; subst h
    cases d <;> simp [PK.fits] at hk
    obtain ⟨bx, rfl, e1⟩ := h1.str_inv
    obtain ⟨bz, rfl, e2⟩ := h2.str_inv
    simp only [Instr.sameNow]
    rw [beq_toListBytes, str_beq e1 e2]
def EsRel (ρ : Pos -> Loc) (n : Nat) (C : Cells) (es : List (AV × AV × Nat)) (es' : List MapEntry) : Prop :=
  es.length = es'.length /\ ∀ (i : Nat) (e : AV × AV × Nat) (e' : MapEntry), es[i]? = some e -> es'[i]? = some e' -> VRel ρ n C e.1 e'.key /\ VRel ρ n C e.2.1 e'.val /\ e.2.2 = e'.born
theorem findA_rel {ρ : Pos -> Loc} {n : Nat} {C : Cells} {pk : PK} {d : TypeDesc} (hk : pk.fits d = true) {u : AV} {x : Value} (hu : VRel ρ n C u x) :
    ∀ {es : List (AV × AV × Nat)} {es' : List MapEntry} {i : Nat} {r : Option (Nat × AV)}, EsRel ρ n C es es' -> findA pk u es i = some r ->
    ∃ r', Instr.findNow d x es' i = some r' /\ ((r = none /\ r' = none) \/ ∃ j v y, r = some (j, v) /\ r' = some (j, y) /\ VRel ρ n C v y /\ i <= j /\ j < i + es.length)
  | [], es', i, r, he, h => by
    simp [findA] at h; subst h
    cases es' with
    | nil => exact ⟨none, rfl, .inl ⟨rfl, rfl⟩⟩
    | cons e es' => have := he.1; simp at this
  | (k', v, born) :: es, es', i, r, he, h => by
    cases es' with
    | nil => have := he.1; simp at this
    | cons e' es' =>
      have h0 := he.2 0 (k', v, born) e' rfl rfl
      have dZ : EsRel ρ n C es es' := ⟨by have := he.1; simpa using this, fun j e e' h1 h2 => he.2 (j + 1) e e' (by simpa using h1) (by simpa using h2)⟩
      unfold findA at h
      split at h <;> first | (cases h; done) | skip
      . rename_i hq
        simp only [Option.some.injEq] at h; subst h
        refine ⟨some (i, e'.val), by simp [Instr.findNow, sameNow_rel hk hu h0.1 hq], .inr ⟨i, v, e'.val, rfl, rfl, h0.2.1, Nat.le_refl _, by simp⟩⟩
      . rename_i hq
        obtain ⟨r', h1, h2⟩ := findA_rel hk hu dZ h
        refine ⟨r', by simp [Instr.findNow, sameNow_rel hk hu h0.1 hq, h1], ?_⟩
        rcases h2 with h2 | ⟨j, v', y, e1, e2, e3, e4, e5⟩
        . exact .inl h2
        . exact .inr ⟨j, v', y, e1, e2, e3, by omega, by simp; omega⟩
theorem run_findKey {t : TypeId} {d : TypeDesc} (hd : P.underlying t = some d) {x : Value} {es : List MapEntry} {r : Option (Nat × Value)} (h : Instr.findNow d x es 0 = some r) (w : World) :
    (Instr.findKey t x es).run P w = .ok r w := by
  simp [Instr.findKey, run_und hd, h]
theorem run_getObj_map {r : Nat} {es : Array MapEntry} {c : Nat} {w : World} (h : w.heap[r]? = some (.map es c)) : (getObj r).run P w = .ok (.map es c) w := by
  simp [getObj, Sem.run, h]
theorem pk_of (k : TK) {d : TypeDesc} (h : tkMatch k d = true) {pk : PK} (hp : (k = .bool /\ pk = .b) \/ ((∃ i, k = .int i) /\ pk = .i) \/ (k = .string /\ pk = .s)) : pk.fits d = true := by
  rcases hp with ⟨rfl, rfl⟩ | ⟨⟨i, rfl⟩, rfl⟩ | ⟨rfl, rfl⟩
  . rw [tk_bool h]; rfl
  . rw [tk_int h]; rfl
  . rw [tk_string h]; rfl
theorem zero_rel (hT : TTOk P tt) {t : Nat} {ti : TI} (ht : tt.get (key t) = some ti) {z : List AV} (hz : ti.zero = some z) {ρ : Pos -> Loc} {n : Nat} {C : Cells} (w : World) :
    ∃ v, (zeroValue t).run P w = .ok v w /\ VRel ρ n C (cOp.zeroAV ti z) v /\ VsRel ρ n C z v.cells.toList := by
  obtain ⟨i, hi, cI, _, iz⟩ := (hT.at ht).info
  obtain ⟨v, hv, hs, hlen, h1, h2⟩ := iz z hz
  refine ⟨v, run_zero hi hv w, ?_, scalarsOf_rel hs⟩
  unfold cOp.zeroAV
  split
  . rename_i ha
    obtain ⟨cs, rfl⟩ := h1 ha
    exact .agg_of (scalarsOf_rel hs)
  . rename_i ha
    have hc := h2 ha
    rw [hc] at hs
    simp only [scalarsOf] at hs
    split at hs <;> first | (cases hs; done) | skip
    rename_i a as e1 e2
    simp only [Option.some.injEq] at hs e2
    subst hs; subst e2
    simp only
    exact scalarOf_rel e1
theorem snd_lookup (hT : TTOk P tt) (t : TypeId) (x ix : Operand) (ok : Bool) : OpSound P tt (.lookup t x ix ok) := by
  intro ρ C st w k xs cls fr a o vs res ho hc hW hF hx hr
  simp only [cOp] at hc
  split at hc <;> first | (cases hc; done) | skip
  rename_i ti l aO hl
  split at hc <;> first | (cases hc; done) | skip
  rename_i kt et hk
  split at hc <;> first | (cases hc; done) | skip
  rename_i tk te rH bu
  obtain ⟨d, hd, aE⟩ := (hT.at aO).und
  rw [hk] at aE; rw [tk_map aE] at hd
  obtain ⟨dk, qm, ki⟩ := (hT.at rH).und
  have key : ∃ pk z, te.zero = some z /\ k = .lookup pk (cOp.zeroAV te z) ok /\ xs = l /\ cls = .read /\ pk.fits dk = true := by
    split at hc <;> first | (cases hc; done) | skip
    all_goals
      rename_i z h1 h2
      cases hc
      refine ⟨_, z, h2, rfl, rfl, rfl, pk_of tk.k ki ?_⟩
    . exact .inr (.inl ⟨⟨_, h1⟩, rfl⟩)
    . exact .inr (.inr ⟨h1, rfl⟩)
    . exact .inl ⟨h1, rfl⟩
  obtain ⟨pk, z, hz, rfl, rfl, rfl, dR⟩ := key
  obtain ⟨m, kk, rfl, h1, h2⟩ := evs2 hl hF hx
  obtain ⟨zv, iA, oT, _⟩ := zero_rel hT bu hz (ρ := ρ) (n := st.next.toNat) (C := C) w
  have vP : ∀ e, (Instr.checkKey e 10000 kt (a.eval ix)).run P w = .ok () w := fun e => checkKey_plain qm dR e 9999 _ w
  simp only [OpK.run, runLookup] at hr
  split at hr <;> first | (cases hr; done) | skip
  ·
    rename_i j v hm
    simp only [Option.some.injEq] at hr; subst hr
    split at hm <;> first | (cases hm; done) | skip
    . split at hm <;> first | (cases hm; done) | (simp at hm; done)
    . rename_i b
      split at hm <;> first | (cases hm; done) | skip
      rename_i es c hb
      obtain ⟨_, he⟩ := h1.map_inv
      obtain ⟨_, _, es', cg, hlen, dS⟩ := hW.live _ _ hb
      have hE : EsRel ρ st.next.toNat C es es'.toList := ⟨by simpa using hlen, fun i e e' h1 h2 => dS i e e' h1 (by simpa using h2)⟩
      obtain ⟨r', hf, cQ⟩ := findA_rel dR h2 hE hm
      rcases cQ with ⟨e1, _⟩ | ⟨j', v', y, e1, e2, e3, _⟩
      . cases e1
      . cases e1; subst e2
        have aB : (execOp a.eval o).run P w = .ok (.value (if ok then .tuple #[y, .bool true] else y)) w := by
          simp only [execOp, ho, Instr.lookup, Sem.run_bind, run_und hd, Result.andThen_ok, he, run_getObj_map cg, vP, run_findKey qm hf, Sem.run_pure]
        refine .pure aB ?_
        cases ok
        . exact e3
        . exact .tuple_of (VsRel.cons e3 (VsRel.cons (.bool true) VsRel.nil))
  ·
    rename_i hm
    simp only [Option.some.injEq] at hr; subst hr
    have aB : (execOp a.eval o).run P w = .ok (.value (if ok then .tuple #[zv, .bool false] else zv)) w := by
      split at hm <;> first | (cases hm; done) | skip
      . split at hm <;> first | (cases hm; done) | skip
        have he := h1.nilm_inv
        have hf : (Instr.findKey kt (a.eval ix) []).run P w = .ok none w := run_findKey qm rfl w
        simp only [execOp, ho, Instr.lookup, Sem.run_bind, run_und hd, Result.andThen_ok, he, vP, hf, iA, Sem.run_pure]
      . rename_i b
        split at hm <;> first | (cases hm; done) | skip
        rename_i es c hb
        obtain ⟨_, he⟩ := h1.map_inv
        obtain ⟨_, _, es', cg, hlen, dS⟩ := hW.live _ _ hb
        have hE : EsRel ρ st.next.toNat C es es'.toList := ⟨by simpa using hlen, fun i e e' h1 h2 => dS i e e' h1 (by simpa using h2)⟩
        obtain ⟨r', hf, cQ⟩ := findA_rel dR h2 hE hm
        rcases cQ with ⟨_, e2⟩ | ⟨j', v', y, e1, _⟩
        . subst e2
          simp only [execOp, ho, Instr.lookup, Sem.run_bind, run_und hd, Result.andThen_ok, he, run_getObj_map cg, vP, run_findKey qm hf, iA, Sem.run_pure]
        . cases e1
    refine .pure aB ?_
    cases ok
    . exact oT
    . exact .tuple_of (VsRel.cons oT (VsRel.cons (.bool false) VsRel.nil))
end
end Go.Ai
end
section
namespace Go.Ai
open Go Go.RowKit
section
variable {P : Program} {tt : TT}
theorem foldl_set_splice : ∀ (l : List Value) (off k : Nat) (cs : Array Value), off + k + l.length <= cs.size ->
    ((l.zipIdx k).foldl (fun cs (c, j) => cs.setIfInBounds (off + j) c) cs).toList = splice cs.toList (off + k) l
  | [], off, k, cs, _ => by simp [splice, List.take_append_drop]
  | v :: l, off, k, cs, h => by
    simp only [List.length_cons] at h
    simp only [List.zipIdx_cons, List.foldl_cons]
    rw [foldl_set_splice l off (k + 1) _ (by simp; omega)]
    simp only [splice, List.length_cons, Array.toList_setIfInBounds]
    rw [List.drop_set_of_lt (by omega)]
    have : off + (k + 1) = (off + k) + 1 := by omega
    rw [this, List.take_set, List.take_add_one]
    have aA : off + k < cs.toList.length := by simp; omega
    rw [List.getElem?_eq_getElem aA]
    simp only [Option.toList_some, List.set_append, List.length_take]
    have hm : min (off + k) cs.toList.length = off + k := Nat.min_eq_left (Nat.le_of_lt aA)
    rw [hm, if_neg (Nat.lt_irrefl _), Nat.sub_self]
    simp
    rw [show off + k + 1 + l.length = off + k + (l.length + 1) from by omega]
theorem fill_rel {ρ : Pos -> Loc} {n : Nat} {C : Cells} (pl : Nat -> Option (Nat × Nat)) : ∀ {pp : List (Nat × Nat)} {vs cells r : List AV} {ps : List (Nat × Value)} {cs : Array Value},
    fillA cells pp vs = some r -> VsRel ρ n C cells cs.toList -> VsRel ρ n C vs (ps.map (·.2)) -> ps.map (fun x => pl x.1) = pp.map some ->
    ∃ eJ, Instr.fill pl cs ps = some eJ /\ VsRel ρ n C r eJ.toList
  | [], vs, cells, r, ps, cs, h, hc, hv, hp => by
    unfold fillA at h
    split at h <;> first | (cases h; done) | skip
    . simp only [Option.some.injEq] at h; subst h
      have : ps = [] := by simpa using hv.nil_inv
      subst this
      exact ⟨cs, rfl, hc⟩
    . rename_i hh; cases hh
  | (off, size) :: pp, vs, cells, r, ps, cs, h, hc, hv, hp => by
    unfold fillA at h
    split at h <;> first | (cases h; done) | skip
    . rename_i hh; cases hh
    . rename_i off' size' pp' v Bp hh
      simp only [List.cons.injEq, Prod.mk.injEq] at hh
      obtain ⟨⟨rfl, rfl⟩, rfl⟩ := hh
      split at h <;> first | (cases h; done) | skip
      rename_i h1 h2
      have h1 := Nat.eq_of_beq_eq_true h1
      have h2 := Nat.le_of_ble_eq_true h2
      cases ps with
      | nil => have := hv.1; simp at this
      | cons p ps =>
        obtain ⟨i, x⟩ := p
        simp only [List.map_cons, List.cons.injEq] at hp hv
        obtain ⟨hp1, Gc⟩ := hp
        obtain ⟨y, ys, fY, hx, ec⟩ := hv.cons_inv
        simp only [List.cons.injEq] at fY; obtain ⟨rfl, rfl⟩ := fY
        have hxc := hx.cells
        have hlen : x.cells.size = size := by rw [<- h1, hxc.1]; simp
        have aZ : off + size <= cs.size := by have := hc.1; simp at this; omega
        have Ku : (x.cells.zipIdx.foldl (fun cs (c, j) => cs.setIfInBounds (off + j) c) cs).toList = splice cs.toList off x.cells.toList := by
          rw [<- Array.foldl_toList, Array.toList_zipIdx]
          have := foldl_set_splice x.cells.toList off 0 cs (by simp; omega)
          simpa using this
        obtain ⟨eJ, e1, e2⟩ := fill_rel pl h (cs := x.cells.zipIdx.foldl (fun cs (c, j) => cs.setIfInBounds (off + j) c) cs) (by rw [Ku]; exact hc.splice hxc off) ec Gc
        refine ⟨eJ, ?_, e2⟩
        simp only [Instr.fill, hp1]
        rw [if_neg (by simp [hlen]; omega)]
        exact e1
theorem places_struct (hT : TTOk P tt) {gs : Array Field} (w : World) : ∀ {fs : List (Nat × Nat × Bool)} (_hm : tkMatch.fieldsMatch fs gs.toList = true) {is : List Nat} {pp : List (Nat × Nat)}
    (_h : cOp.places tt fs is = some pp) {mJ : List (Nat × Nat)} (_hpl : ∀ (i : Nat) (f : Field) (inf : TypeInfo), gs.toList[i]? = some f -> P.info? f.type = some inf -> mJ[i]? = some (f.offset, inf.size)),
    is.map (fun i => mJ[i]?) = pp.map some
  | fs, hm, [], pp, h, mJ, xY => by simp [cOp.places] at h; subst h; rfl
  | fs, hm, i :: is, pp, h, mJ, xY => by
    unfold cOp.places at h
    split at h <;> first | (cases h; done) | skip
    rename_i off t nm l h1 h2
    split at h <;> first | (cases h; done) | skip
    rename_i ti xZ
    simp only [Option.some.injEq] at h; subst h
    obtain ⟨f, hf, e1, e2, _⟩ := field_at hm h1
    obtain ⟨inf, rI, aZ, _⟩ := (hT.at xZ).info
    simp only at e1 e2
    have := xY i f inf hf (by rw [e2]; exact rI)
    simp only [List.map_cons, this, e1, aZ]
    rw [places_struct hT w hm h2 xY]
theorem places_all (hT : TTOk P tt) : ∀ {fs : List (Nat × Nat × Bool)} {gs : List Field} (_hm : tkMatch.fieldsMatch fs gs = true) (_ha : cOp.allIn tt fs = true),
    ∃ mJ : List (Nat × Nat), gs.mapM (fun f => (P.info? f.type).map fun i => (f.offset, i.size)) = some mJ /\
      ∀ (i : Nat) (f : Field) (inf : TypeInfo), gs[i]? = some f -> P.info? f.type = some inf -> mJ[i]? = some (f.offset, inf.size)
  | [], gs, hm, ha => by
    cases gs with
    | cons g gs => simp [tkMatch.fieldsMatch] at hm
    | nil => exact ⟨[], rfl, fun i f inf h => by simp at h⟩
  | (off, t, nm) :: fs, gs, hm, ha => by
    cases gs with
    | nil => simp [tkMatch.fieldsMatch] at hm
    | cons g gs =>
      simp [tkMatch.fieldsMatch] at hm
      unfold cOp.allIn at ha
      split at ha <;> first | (cases ha; done) | skip
      rename_i ti xZ
      obtain ⟨inf, rI, _⟩ := (hT.at xZ).info
      obtain ⟨mJ, h1, h2⟩ := places_all hT hm.2 ha
      rw [hm.1.1.2] at rI
      refine ⟨(g.offset, inf.size) :: mJ, by simp [rI, h1], fun i f Lr hi hf => ?_⟩
      cases i with
      | zero => simp at hi; subst hi; rw [rI] at hf; cases hf; rfl
      | succ i => simp at hi ⊢; exact h2 i f Lr hi hf
theorem snd_build (hT : TTOk P tt) (t : TypeId) (ps : Array (Nat × Operand)) : OpSound P tt (.build t ps) := by
  intro ρ C st w k xs cls fr a o vs res ho hc hW hF hx hr
  simp only [cOp] at hc
  split at hc <;> first | (cases hc; done) | skip
  rename_i ti l aO hl
  obtain ⟨d, hd, aE⟩ := (hT.at aO).und
  obtain ⟨it, hit, _, _, iz⟩ := (hT.at aO).info
  have eW : ∀ (pp : List (Nat × Nat)) (z : List AV) (pl : Nat -> Option (Nat × Nat)), ti.zero = some z -> k = .build z pp -> xs = l -> ps.toList.map (fun x => pl x.1) = pp.map some ->
      (∀ (v : Value) (parts : List (Nat × Value)) (cells : Array Value), it.zero = some v -> Instr.fill pl v.cells parts = some cells -> P.built t parts = some cells) ->
      ResOk P ρ C st w ((execOp a.eval o).run P w) res := by
    rintro pp z pl hz rfl rfl rJ Gd
    have hv := cOpds_rel hl hF hx
    obtain ⟨v, jd, hs, _⟩ := iz z hz
    simp only [OpK.run, runBuild] at hr
    split at hr <;> first | (cases hr; done) | skip
    rename_i cs nI
    simp only [Option.some.injEq] at hr; subst hr
    have oT : VsRel ρ st.next.toNat C z v.cells.toList := scalarsOf_rel hs
    have vQ : (ps.map fun (i, x) => (i, a.eval x)).toList = ps.toList.map fun x => (x.1, a.eval x.2) := by simp
    obtain ⟨eJ, e1, e2⟩ := fill_rel pl nI oT (ps := ps.toList.map fun x => (x.1, a.eval x.2)) (by simpa [List.map_map, Function.comp_def] using hv) (by simpa [List.map_map, Function.comp_def] using rJ)
    refine .pure (x := .agg eJ) ?_ (.agg_of e2)
    have aB := run_build w t (ps.map fun (i, x) => (i, a.eval x)) eJ (Gd v _ _ jd (by rw [vQ]; exact e1))
    simp only [execOp, ho, Sem.run_bind]
    rw [aB]; rfl
  split at hc <;> first | (cases hc; done) | skip
  . rename_i fs z hk hz
    rw [hk] at aE
    obtain ⟨gs, rfl, hm⟩ := tk_struct aE
    split at hc <;> first | (cases hc; done) | skip
    rename_i pp xY dS
    cases hc
    obtain ⟨mJ, h1, h2⟩ := places_all hT hm dS
    have rJ := places_struct hT w hm xY h2
    refine eW pp z (fun i => mJ.toArray[i]?) hz rfl rfl (by simpa [List.map_map, Function.comp_def] using rJ) fun v parts cells hv hf => ?_
    unfold Program.built
    rw [hit, hd]
    simp only [hv, h1]
    exact hf
  . rename_i e z hk hz
    rw [hk] at aE
    rw [tk_array aE] at hd
    split at hc <;> first | (cases hc; done) | skip
    rename_i te bu
    cases hc
    obtain ⟨ie, ya, aZ, _⟩ := (hT.at bu).info
    refine eW _ z (fun i => some (i * te.size, te.size)) hz rfl rfl (by simp [List.map_map, Function.comp_def]) fun v parts cells hv hf => ?_
    unfold Program.built
    rw [hit, hd]
    simp only [hv, ya, aZ]
    exact hf
end
end Go.Ai
end
