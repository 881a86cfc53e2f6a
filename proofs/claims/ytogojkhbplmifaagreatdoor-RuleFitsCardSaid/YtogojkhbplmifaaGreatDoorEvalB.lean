/- The evaluator's operations answer as the model's do, first part. -/
import Derived.Test.YtogojkhbplmifaaGreatDoorEvalA
import Derived.Laws.Strings
import Derived.Laws.StructEq
import Derived.Laws.Small
import Derived.Laws.BytesString
import Derived.Laws.Tables
set_option linter.all false
set_option linter.unusedSectionVars false
set_option linter.deprecated false
section
namespace Go.Ai
def bJ : TK -> TypeDesc -> Bool
  | .bool, .bool => true
  | .int k, .int k' => w7 k k'
  | .string, .string => true
  | .ptr e, .pointer e' => Nat.beq e e'
  | .slice e, .slice e' => Nat.beq e e'
  | .array n e, .array n' e' => Nat.beq n n' && Nat.beq e e'
  | .map k e, .map k' e' => Nat.beq k k' && Nat.beq e e'
  | .struct fs, .struct fs' => dB fs fs'.toList
  | .func, .func _ _ _ => true
  | .iface, .interface _ => true
  | .other, .interface _ => false
  | .other, .int _ => false
  | .other, .array _ _ => false
  | .other, .struct _ => false
  | .other, _ => true
  | _, _ => false
where
  dB : List (Nat × Nat × Bool) -> List Field -> Bool
    | [], [] => true
    | (off, t, named) :: l, f :: l' => Nat.beq off f.offset && Nat.beq t f.type && (named == (f.name != "_")) && dB l l'
    | _, _ => false
structure O2 (P : Program) (t : TypeId) (ti : TI) : Prop where
  und : ∃ d, P.underlying t = some d /\ bJ ti.k d = true
  info : ∃ i, P.info? t = some i /\ i.size = ti.size /\ i.bytes = ti.bytes /\
    ∀ z, ti.zero = some z -> ∃ v, i.zero = some v /\ nU v.cells.toList = some z /\ z.length = ti.size /\ (ti.k.isAgg = true -> ∃ cs, v = .agg cs) /\ (ti.k.isAgg = false -> v.cells = #[v])
  eqs : ti.vN = true -> P.stoodInHeld t = false /\ P.eqGuardType P.depth t = false
def cG (P : Program) (tt : TT) : Prop := ∀ p ti, tt.get p = some ti -> O2 P (p.toNat - 1) ti
theorem cG.at {P : Program} {tt : TT} (h : cG P tt) {t : Nat} {ti : TI} (ht : tt.get (key t) = some ti) : O2 P t ti := by
  have := h _ _ ht
  rwa [iG, Nat.add_sub_cancel] at this
section
variable {P : Program} {tt : TT} {ρ : Pos -> Loc} {n : Nat} {C : Cells}
theorem aO {t : TypeId} {d : TypeDesc} (h : P.underlying t = some d) (w : World) : (underlying t).run P w = .ok d w := run_underlying h w
theorem KP {t : TypeId} {i : TypeInfo} (h : P.info? t = some i) (w : World) : (typeInfo t).run P w = .ok i w := by simp [typeInfo, h]
theorem iX {t : TypeId} {i : TypeInfo} (h : P.info? t = some i) (w : World) : (sizeOf t).run P w = .ok i.size w := by simp [sizeOf, typeInfo, h]
theorem SC {t : TypeId} {i : TypeInfo} {v : Value} (h : P.info? t = some i) (hz : i.zero = some v) (w : World) : (zeroValue t).run P w = .ok v w := by simp [zeroValue, typeInfo, h, hz]
theorem Fi {k : TK} {d : TypeDesc} (h : bJ k d = true) (w : World) {t : TypeId} (ht : P.underlying t = some d) : (isAgg t).run P w = .ok k.isAgg w := by
  cases k <;> cases d <;> first | (simp [bJ] at h; done) | simp [isAgg, aO ht, TK.isAgg]
theorem lD {e : Nat} {d : TypeDesc} (h : bJ (.slice e) d = true) : d = .slice e := by
  cases d <;> simp [bJ] at h; rw [h]
theorem Z3 {e : Nat} {d : TypeDesc} (h : bJ (.ptr e) d = true) : d = .pointer e := by
  cases d <;> simp [bJ] at h; rw [h]
theorem KQ {m e : Nat} {d : TypeDesc} (h : bJ (.array m e) d = true) : d = .array m e := by
  cases d <;> simp [bJ] at h; rw [h.1, h.2]
theorem CX {k e : Nat} {d : TypeDesc} (h : bJ (.map k e) d = true) : d = .map k e := by
  cases d <;> simp [bJ] at h; rw [h.1, h.2]
theorem Il {d : TypeDesc} (h : bJ .bool d = true) : d = .bool := by
  cases d <;> simp [bJ] at h; rfl
theorem sA {a b : IntKind} (h : w7 a b = true) : a = b := by
  unfold w7 at h; split at h
  . assumption
  . cases h
theorem zW {k : IntKind} {d : TypeDesc} (h : bJ (.int k) d = true) : d = .int k := by
  cases d <;> simp [bJ] at h; rw [sA h]
theorem lg {d : TypeDesc} (h : bJ .string d = true) : d = .string := by
  cases d <;> simp [bJ] at h; rfl
theorem yH {fs : List (Nat × Nat × Bool)} {d : TypeDesc} (h : bJ (.struct fs) d = true) : ∃ gs, d = .struct gs /\ bJ.dB fs gs.toList = true := by
  cases d <;> simp [bJ] at h; exact ⟨_, rfl, h⟩
theorem V2 {d : TypeDesc} (h : bJ .func d = true) : ∃ a b c, d = .func a b c := by
  cases d <;> simp [bJ] at h; exact ⟨_, _, _, rfl⟩
theorem SD {d : TypeDesc} (h : bJ .iface d = true) : ∃ a, d = .interface a := by
  cases d <;> simp [bJ] at h; exact ⟨_, rfl⟩
theorem lF {α : Type} : ∀ (l : List α) (i : Nat), nth l i = l[i]?
  | [], _ => by simp [nth]
  | _ :: _, 0 => rfl
  | _ :: l, i + 1 => by simp [nth, lF l i]
theorem AY : ∀ {fs : List (Nat × Nat × Bool)} {gs : List Field} {i : Nat} {x : Nat × Nat × Bool}, bJ.dB fs gs = true -> nth fs i = some x ->
    ∃ f, gs[i]? = some f /\ f.offset = x.1 /\ f.type = x.2.1 /\ (f.name != "_") = x.2.2
  | [], _, i, _, _, h => by simp [nth] at h
  | (off, t, named) :: l, [], i, _, h, _ => by simp [bJ.dB] at h
  | (off, t, named) :: l, f :: l', 0, x, h, hx => by
    simp [bJ.dB] at h
    simp [nth] at hx
    subst hx
    exact ⟨f, rfl, h.1.1.1.symm, h.1.1.2.symm, h.1.2.symm⟩
  | (off, t, named) :: l, f :: l', i + 1, x, h, hx => by
    simp [bJ.dB] at h
    simp [nth] at hx
    obtain ⟨f', h1, h2⟩ := AY h.2 hx
    exact ⟨f', by simpa using h1, h2⟩
theorem xj {v : Value} {a : AV} (h : AR v = some a) : ax ρ n C a v := by
  unfold AR at h
  split at h <;> first
    | (cases h; done)
    | (simp only [Option.some.injEq] at h; subst h)
  . exact .bool _
  . exact .int _ _
  . exact .str _ _ rfl
  . exact .cU
  . exact .av
  . exact .iy
  . exact .func _ _ _ _ _ rfl rfl (fun _ _ _ h => by simp at h) (fun _ _ _ h => by simp at h)
  . exact .aq
  . exact .qU
theorem oL : ∀ {l : List Value} {as : List AV}, nU l = some as -> ay ρ n C as l
  | [], as, h => by simp [nU] at h; subst h; exact ay.nil
  | v :: l, as, h => by
    unfold nU at h
    split at h
    . rename_i a as' h1 h2
      simp only [Option.some.injEq] at h; subst h
      exact ay.cons (xj h1) (oL h2)
    . cases h
theorem Nr {v : Value} {a : AV} (h : Ij v = some a) : ax ρ n C a v := by
  unfold Ij at h
  split at h
  . split at h
    . rename_i l hl; simp only [Option.some.injEq] at h; subst h; exact .zV (oL hl)
    . cases h
  . exact xj h
theorem xk {x : Operand} {o : jW} {fr : Fr} {a : Act} {v : AV} (h : nw x = some o) (hF : lC ρ n C fr a.tmps) (hv : vn fr o = some v) : ax ρ n C v (a.eval x) := by
  unfold nw at h
  split at h
  . rename_i t
    simp only [Option.some.injEq] at h; subst h
    obtain ⟨y, hy, hr⟩ := hF _ _ hv
    rw [iG, Nat.add_sub_cancel] at hy
    simp only [Act.eval, Array.getD_eq_getD_getElem?, hy, Option.getD_some]; exact hr
  . split at h
    . rename_i c hc
      simp only [Option.some.injEq] at h; subst h
      simp only [vn, Option.some.injEq] at hv; subst hv
      exact Nr hc
    . cases h
  . rename_i f
    simp only [Option.some.injEq] at h; subst h
    simp only [vn, Option.some.injEq] at hv; subst hv
    exact .func _ _ _ _ _ rfl rfl (fun _ _ _ h => by simp at h) (fun _ _ _ h => by simp at h)
  . cases h
theorem fT : ∀ {xs : List Operand} {os : List jW} {fr : Fr} {a : Act} {vs : List AV}, iW xs = some os -> lC ρ n C fr a.tmps -> eC fr os = some vs -> ay ρ n C vs (xs.map a.eval)
  | [], os, fr, a, vs, h, _, hv => by
    simp [iW] at h; subst h
    simp [eC] at hv; subst hv
    exact ay.nil
  | x :: xs, os, fr, a, vs, h, hF, hv => by
    unfold iW at h
    split at h
    . rename_i o os' h1 h2
      simp only [Option.some.injEq] at h; subst h
      unfold eC at hv
      split at hv
      . rename_i v N4
        split at hv
        . rename_i Z4 CY
          simp only [Option.some.injEq] at hv; subst hv
          exact ay.cons (xk h1 hF N4) (fT h2 hF CY)
        . cases hv
      . cases hv
    . cases h
theorem fU {x : Operand} {o : jW} {fr : Fr} {a : Act} {vs : List AV} (h : nw x = some o) (hF : lC ρ n C fr a.tmps) (hv : eC fr [o] = some vs) :
    ∃ v, vs = [v] /\ ax ρ n C v (a.eval x) := by
  unfold eC at hv
  split at hv
  . rename_i v N4
    simp only [eC, Option.some.injEq] at hv; subst hv
    exact ⟨v, rfl, xk h hF N4⟩
  . cases hv
end
def Yields (N : Next) (x : Value) : Prop := N = .value x \/ (N = .skip /\ x = undef)
def uX (P : Program) (ρ : Pos -> Loc) (C : Cells) (st : St) (w : World) (r : Result Next) : dz -> Prop
  | .val v => ∃ N x, r = .ok N w /\ Yields N x /\ ax ρ st.next.toNat C v x
  | .aN v del set new => ∃ N x w' ρ', r = .ok N w' /\ Yields N x /\ (∀ b : Pos, b.toNat < st.next.toNat -> ρ' b = ρ b) /\ cw ρ' C (st.aN del set new) w' /\
      ax ρ' (st.aN del set new).next.toNat C v x /\ ny ρ st w ρ' (st.aN del set new) w'
  | .call f args => ∃ cq : List Value, r = (callFunc f cq.toArray).run P w /\ ay ρ st.next.toNat C args cq
end Go.Ai
end
section
namespace Go.Ai
open Go Go.RowKit
theorem nA (b o i : Nat) : (⟨b, o, none⟩ : Addr).add i = ⟨b, o + i, none⟩ := by
  unfold Addr.add; split
  . rename_i h; subst h; rfl
  . rfl
section
variable {P : Program} {ρ ρ' : Pos -> Loc} {C : Cells} {st : St} {w w' : World}
theorem cw.O3 (hW : cw ρ C st w) {O4 : T AB} {next' b0 : Pos} {x0 : AB}
    (hn : st.next.toNat <= next'.toNat) (sU : b0.toNat < next'.toNat) (abQ : O4.get b0 = some x0)
    (rW : ∀ b x, b ≠ b0 -> O4.get b = some x -> st.heap.get b = some x /\ (ρ b).aF ≠ (ρ' b0).aF)
    (aY : ∀ b : Pos, b.toNat < st.next.toNat -> ρ' b = ρ b)
    (hB : mh ρ' next'.toNat C (ρ' b0) w' x0)
    (I6 : ∀ a v, C a = some v -> a.block ≠ (ρ' b0).aF)
    (bD : (ρ' b0).aF < w'.heap.size) (O5 : w.heap.size <= w'.heap.size)
    (KR : ∀ k, k < w.heap.size -> k ≠ (ρ' b0).aF -> w'.heap[k]? = w.heap[k]?) :
    cw ρ' C ⟨O4, next'⟩ w' where
  live b x hb := by
    by_cases h : b = b0
    . subst h
      rw [abQ] at hb; cases hb
      exact ⟨sU, bD, hB⟩
    . obtain ⟨h1, h2⟩ := rW b x h hb
      obtain ⟨h3, h4, h5⟩ := hW.live b x h1
      rw [aY b h3]
      exact ⟨Nat.lt_of_lt_of_le h3 hn, Nat.lt_of_lt_of_le h4 O5, (h5.mono aY hn).of_heap (KR _ h4 h2)⟩
  inj b b' x x' hb gw he := by
    by_cases h : b = b0
    . subst h
      by_cases h' : b' = b
      . exact h'.symm
      . obtain ⟨h1, h2⟩ := rW b' x' h' gw
        rw [aY b' (hW.live b' x' h1).1] at he
        exact absurd he.symm h2
    . obtain ⟨h1, h2⟩ := rW b x h hb
      rw [aY b (hW.live b x h1).1] at he
      by_cases h' : b' = b0
      . subst h'; exact absurd he h2
      . obtain ⟨N5, Z5⟩ := rW b' x' h' gw
        rw [aY b' (hW.live b' x' N5).1] at he
        exact hW.inj b b' x x' h1 N5 he
  fD a v ha := by
    obtain ⟨h1, h2⟩ := hW.fD a v ha
    have AZ : a.block < w.heap.size := World.block_lt_of_cell? _ _ h1
    refine ⟨?_, fun b x hb => ?_⟩
    . rw [World.cell?_of_block (w := w) (KR _ AZ (I6 a v ha))]; exact h1
    . by_cases h : b = b0
      . subst h; exact fun e => I6 a v ha e.symm
      . obtain ⟨h3, _⟩ := rW b x h hb
        rw [aY b (hW.live b x h3).1]; exact h2 b x h3
theorem cw.cell (hW : cw ρ C st w) {b : Pos} {cs : List AV} {fz : Nat} (hb : st.heap.get b = some (.cells cs fz)) {i : Nat} {v : AV} (hv : cs[i]? = some v) :
    ∃ x, w.cell? ⟨(ρ b).aF, (ρ b).base + i, none⟩ = some x /\ ax ρ st.next.toNat C v x := by
  obtain ⟨_, _, c, e, fr, h1, h2, h3, h4, _⟩ := hW.live b _ hb
  obtain ⟨x, hx, hr⟩ := h4.get hv
  have hi : i < cs.length := (List.getElem?_eq_some_iff.1 hv).1
  rw [List.getElem?_take, if_pos hi, List.getElem?_drop] at hx
  exact ⟨x, by simp [World.cell?, h1, <- hx], hr⟩
theorem Gr {α : Type} {l l' : List α} {i n : Nat} (h : cut l i n = some l') : l' = (l.drop i).take n /\ i + n <= l.length := by
  unfold cut at h; split at h
  . rename_i hb; cases h; exact ⟨rfl, Nat.le_of_ble_eq_true hb⟩
  . cases h
theorem A0 {α : Type} {l l' : List α} {i n : Nat} (h : cut l i n = some l') : l'.length = n := by
  obtain ⟨rfl, h2⟩ := Gr h; simp; omega
theorem cw.loadCells (hW : cw ρ C st w) {b : Pos} {cs vs : List AV} {fz off n : Nat} (hb : st.heap.get b = some (.cells cs fz)) (hc : cut cs off n = some vs) :
    ∃ ys : List Value, (Go.loadCells ⟨(ρ b).aF, (ρ b).base + off, none⟩ n).run P w = .ok ys.toArray w /\ ay ρ st.next.toNat C vs ys := by
  obtain ⟨_, _, c, e, fr, h1, h2, h3, h4, _⟩ := hW.live b _ hb
  obtain ⟨sB, hle⟩ := Gr hc
  have hr := (h4.drop off).take n
  rw [<- sB] at hr
  refine ⟨_, ?_, hr⟩
  have hlen : (List.take n (List.drop off (List.take cs.length (List.drop (ρ b).base c.toList)))).length = n := by
    rw [<- hr.1]; exact A0 hc
  conv => lhs; rw [<- hlen]
  refine run_loadCells_list w _ _ fun j v hj => ?_
  have yI : j < n := by rw [<- hlen]; exact (List.getElem?_eq_some_iff.1 hj).1
  rw [List.getElem?_take, if_pos yI, List.getElem?_drop, List.getElem?_take, if_pos (by omega), List.getElem?_drop] at hj
  rw [nA]
  simp [World.cell?, h1, <- hj, Nat.add_assoc]
theorem pg (g e : Nat) (fr : Nat × Nat) : ∀ (vs : List Value) (i o : Nat) (cur : Array Value) (w : World), w.heap[g]? = some (.cells cur e fr) -> o + i + vs.length <= cur.size ->
    (∀ v ∈ vs, v.oneCell' = true) -> (∀ k, o + i <= k -> k < cur.size -> ¬ (fr.1 <= k /\ k < fr.2)) ->
    ∃ w', (storeCells ⟨g, o, none⟩ vs i).run P w = .ok () w' /\ w'.heap[g]? = some (.cells (bg cur.toList (o + i) vs).toArray e fr) /\
      w'.heap.size = w.heap.size /\ (∀ k, k ≠ g -> w'.heap[k]? = w.heap[k]?) /\ w'.os = w.os /\ w'.tape = w.tape /\ w'.output = w.output
  | [], i, o, cur, w, hg, _, _, _ => ⟨w, by simp [storeCells], by rw [hg]; simp [bg, List.take_append_drop], rfl, fun _ _ => rfl, rfl, rfl, rfl⟩
  | v :: vs, i, o, cur, w, hg, hle, h1, hf => by
    simp only [List.length_cons] at hle
    have hv : v.oneCell' = true := h1 v (by simp)
    have O6 : w.cell? ⟨g, o + i, none⟩ = some (cur[o + i]'(by omega)) := by simp [World.cell?, hg]
    have Qg : w.frozen? ⟨g, o + i, none⟩ = false := by
      have := hf (o + i) (Nat.le_refl _) (by omega)
      simp only [World.frozen?, hg]
      simpa using this
    have CZ : (w.setCell ⟨g, o + i, none⟩ v).heap[g]? = some (.cells (cur.setIfInBounds (o + i) v) e fr) := by
      simp [World.setCell, Array.getElem?_modify, hg]
    obtain ⟨w', h2, h3, h4, h5, h6, h7, h8⟩ := pg g e fr vs (i + 1) o _ _ CZ (by simp; omega) (fun v hv => h1 v (by simp [hv])) (by
      intro k hk ug; simp at ug; exact hf k (by omega) ug)
    refine ⟨w', ?_, ?_, by simp [h4], fun k hk => ?_, h6, h7, h8⟩
    . simp only [storeCells, Sem.run_bind, nA, run_store P w _ _ _ hv, O6, Qg]
      simpa using h2
    . rw [h3]
      congr 2
      simp only [bg, List.length_cons, Array.toList_setIfInBounds]
      rw [List.drop_set_of_lt (by omega)]
      have : o + (i + 1) = (o + i) + 1 := by omega
      rw [this, List.take_set, List.take_add_one]
      have bD : o + i < cur.toList.length := by simp; omega
      rw [List.getElem?_eq_getElem bD]
      simp only [Option.toList_some, List.set_append, List.length_take]
      have hm : min (o + i) cur.toList.length = o + i := Nat.min_eq_left (Nat.le_of_lt bD)
      rw [hm, if_neg (Nat.lt_irrefl _), Nat.sub_self]
      simp
      rw [show o + i + 1 + vs.length = o + i + (vs.length + 1) from by omega]
    . rw [h5 k hk, Below.heap_setCell _ _ _ _ (by simpa using hk)]
end
end Go.Ai
end
section
namespace Go.Ai
open Go Go.RowKit
section
variable {P : Program} {tt : TT} {ρ : Pos -> Loc} {C : Cells} {st : St} {w : World} {n : Nat}
theorem Yields.value (x : Value) : Yields (.value x) x := .inl rfl
theorem uX.pure {v : AV} {x : Value} {r : Result Next} (h : r = .ok (.value x) w) (hv : ax ρ st.next.toNat C v x) : uX P ρ C st w r (.val v) :=
  ⟨_, x, h, Yields.value x, hv⟩
theorem ax.js {k : IntKind} {i : Int} {x : Value} (h : ax ρ n C (.int k i) x) : x = .int k i := by cases h; rfl
theorem ax.iz {b : Bool} {x : Value} (h : ax ρ n C (.bool b) x) : x = .bool b := by cases h; rfl
theorem ax.dZ {s : List Nat} {x : Value} (h : ax ρ n C (.str s) x) : ∃ bs : ByteArray, x = .string bs /\ bs.data.toList.map UInt8.toNat = s := by
  cases h with | str _ bs h => exact ⟨bs, rfl, h⟩
theorem ax.uA {x : Value} (h : ax ρ n C .cU x) : x = .pointer none := by cases h; rfl
theorem ax.gx {x : Value} (h : ax ρ n C .av x) : x = .slice none 0 0 := by cases h; rfl
theorem ax.uB {x : Value} (h : ax ρ n C .iy x) : x = .map none := by cases h; rfl
theorem ax.A3 {x : Value} (h : ax ρ n C .aq x) : x = .nilFunc := by cases h; rfl
theorem ax.KS {x : Value} (h : ax ρ n C .qU x) : x = .nilIface := by cases h; rfl
theorem ax.mo {b : Pos} {off : Nat} {x : Value} (h : ax ρ n C (.ptr b off) x) : b.toNat < n /\ x = .pointer (some ⟨(ρ b).aF, (ρ b).base + off, none⟩) := by
  cases h with | ptr _ _ h => exact ⟨h, rfl⟩
theorem ax.uC {b : Pos} {x : Value} (h : ax ρ n C (.map b) x) : b.toNat < n /\ x = .map (some (ρ b).aF) := by
  cases h with | map _ h => exact ⟨h, rfl⟩
theorem ax.I7 {t : TypeId} {v : AV} {x : Value} (h : ax ρ n C (.iface t v) x) : ∃ y, x = .iface t y /\ ax ρ n C v y := by
  cases h with | iface _ _ y h => exact ⟨y, rfl, h⟩
theorem ax.eJ {b : Pos} {off len es : Nat} {cap : Option Nat} {x : Value} (h : ax ρ n C (.slice b off len cap es) x) :
    ∃ (a : Addr) (aU : Nat), x = .slice (some a) len aU /\ len <= aU /\ (∀ c, cap = some c -> c = aU) /\
      (aU ≠ 0 -> b.toNat < n /\ a = ⟨(ρ b).aF, (ρ b).base + off, none⟩ /\ (ρ b).base + off + aU * es <= (ρ b).size) := by
  cases h with | slice _ _ _ _ _ aU a hl hc ha _ => exact ⟨a, aU, rfl, hl, hc, ha⟩
theorem ax.I8 {b : Pos} {off len es : Nat} {cap : Option Nat} {x : Value} (h : ax ρ n C (.slice b off len cap es) x) : cap = none -> b.toNat < n := by
  cases h with | slice _ _ _ _ _ _ _ _ _ _ hk => exact hk
theorem ax.p8 {xs : List (List AV)} {es : Nat} {x : Value} (h : ax ρ n C (.fl xs es) x) :
    ∃ (a : Addr) (aU : Nat) (cell : Nat -> Nat -> Value), x = .slice (some a) xs.length aU /\ xs.length <= aU /\ (xs ≠ [] -> a.spot = none) /\
      (∀ (i : Nat) (cs : List AV), xs[i]? = some cs -> cs.length = es) /\
      (∀ (i j : Nat) (cs : List AV) (v : AV), xs[i]? = some cs -> cs[j]? = some v -> C ⟨a.block, a.off + i * es + j, none⟩ = some (cell i j)) /\
      (∀ (i j : Nat) (cs : List AV) (v : AV), xs[i]? = some cs -> cs[j]? = some v -> ax ρ n C v (cell i j)) := by
  cases h with | fl _ _ aU a cell hl hs gG hc hv => exact ⟨a, aU, cell, rfl, hl, hs, gG, hc, hv⟩
theorem ax.zX {xs : List (List AV)} {i j : Nat} {x : Value} (h : ax ρ n C (.fp xs i j) x) :
    ∃ (es aF base : Nat) (cell : Nat -> Nat -> Value), x = .pointer (some ⟨aF, base + i * es + j, none⟩) /\
      (∀ (i : Nat) (cs : List AV), xs[i]? = some cs -> cs.length = es) /\
      (∀ (i j : Nat) (cs : List AV) (v : AV), xs[i]? = some cs -> cs[j]? = some v -> C ⟨aF, base + i * es + j, none⟩ = some (cell i j)) /\
      (∀ (i j : Nat) (cs : List AV) (v : AV), xs[i]? = some cs -> cs[j]? = some v -> ax ρ n C v (cell i j)) := by
  cases h with | fp _ _ _ es aF base cell hl hc hv => exact ⟨es, aF, base, cell, rfl, hl, hc, hv⟩
theorem p9 (k : IntKind) (i : Int) : aM k i = k.wrap i := by
  unfold aM
  split
  . rename_i h1 _
    split
    . rename_i h2 _
      cases k <;> simp only [uf, N0] at h1 h2 <;> simp only [IntKind.wrap, IntKind.bits, IntKind.signed] <;> simp <;> omega
    . rfl
  . rfl
theorem lH (a b : Int) : uV a b = (a == b) := by
  unfold uV; split
  . rename_i h _; subst h; simp
  . rename_i h _; simp [h]
theorem eD (a b : Int) : yB a b = decide (a < b) := by
  unfold yB; split <;> (rename_i h _; simp [h])
theorem gS (a b : Int) : Ku a b = decide (a <= b) := by
  unfold Ku; split <;> (rename_i h _; simp [h])
theorem kM : ∀ {a b : List Nat}, ia a b = true ↔ a = b
  | [], [] => by simp [ia]
  | [], _ :: _ => by simp [ia]
  | _ :: _, [] => by simp [ia]
  | a :: x, b :: y => by
    unfold ia
    split
    . rename_i h; have := Nat.eq_of_beq_eq_true h; subst this; simp [kM (a := x) (b := y)]
    . rename_i h; have := Nat.ne_of_beq_eq_false h; simp [this]
theorem zY : ∀ {a b : List UInt8}, a.map UInt8.toNat = b.map UInt8.toNat -> a = b
  | [], [], _ => rfl
  | [], _ :: _, h => by simp at h
  | _ :: _, [], h => by simp at h
  | a :: x, b :: y, h => by
    simp at h
    rw [UInt8.toNat_inj.1 h.1, zY h.2]
theorem toList_data (b : ByteArray) : b.toList = b.data.toList := ByteArray.toList_eq b
theorem o5 : ∀ (x y : List UInt8), aA (x.map UInt8.toNat) (y.map UInt8.toNat) = Op.bytesLess x y
  | [], [] => by simp [aA, Op.bytesLess]
  | _ :: _, [] => by simp [aA, Op.bytesLess]
  | [], _ :: _ => by simp [aA, Op.bytesLess]
  | a :: x, b :: y => by
    simp only [List.map_cons, aA, Op.bytesLess]
    split
    . rename_i h
      have : a < b := by rw [UInt8.lt_iff_toNat_lt]; simpa using h
      simp [this]
    . rename_i h
      have h1 : ¬ a < b := by
        rw [UInt8.lt_iff_toNat_lt]; intro h'
        have h2 : Nat.blt a.toNat b.toNat = true := by simpa using h'
        rw [h2] at h; cases h
      split
      . rename_i h2
        have : a = b := UInt8.toNat_inj.1 (Nat.eq_of_beq_eq_true h2)
        subst this; simp only [h1, decide_false, Bool.false_or, beq_self_eq_true, Bool.true_and]; exact o5 x y
      . rename_i h2
        have : a ≠ b := fun e => Nat.ne_of_beq_eq_false h2 (by rw [e])
        simp [h1, this]
theorem zZ {a b : List Nat} {x y : ByteArray} (hx : x.data.toList.map UInt8.toNat = a) (hy : y.data.toList.map UInt8.toNat = b) : (x.toList == y.toList) = ia a b := by
  rw [toList_data, toList_data, Bool.eq_iff_iff, kM, beq_iff_eq, <- hx, <- hy]
  exact ⟨fun h => by rw [h], fun h => zY h⟩
theorem Fj {a b : List Nat} {x y : ByteArray} (hx : x.data.toList.map UInt8.toNat = a) (hy : y.data.toList.map UInt8.toNat = b) : Op.bytesLess x.toList y.toList = aA a b := by
  rw [toList_data, toList_data, <- hx, <- hy, o5]
theorem rX {a : List Nat} {x : ByteArray} (hx : x.data.toList.map UInt8.toNat = a) : x.size = a.length := by
  rw [<- hx, List.length_map, Array.length_toList]; rfl
def PK.fits : PK -> TypeDesc -> Bool
  | .b, .bool => true
  | .i, .int _ => true
  | .s, .string => true
  | _, _ => false
theorem KT {t : TypeId} {d : TypeDesc} (hd : P.underlying t = some d) {pk : PK} (hk : pk.fits d = true) {a b : AV} {x y : Value} {r : Bool} {m : Nat}
    (ha : ax ρ n C a x) (hb : ax ρ n C b y) (h : uu pk a b = some r) (w : World) : (Op.equalIn (m + 1) t x y).run P w = .ok r w := by
  unfold uu at h
  split at h
  . simp only [Option.some.injEq] at h; subst h
    rw [ha.iz, hb.iz]
    cases d <;> simp [PK.fits] at hk
    rw [run_equalIn_bool' w m t _ _ hd]
  . split at h
    . rename_i ug; have := sA ug; subst this
      simp only [Option.some.injEq] at h; subst h
      rw [ha.js, hb.js]
      cases d <;> simp [PK.fits] at hk
      rw [run_equalIn_int w m t _ _ _ _ hd, lH]
    . cases h
  . simp only [Option.some.injEq] at h; subst h
    obtain ⟨bx, rfl, h1⟩ := ha.dZ
    obtain ⟨bz, rfl, h2⟩ := hb.dZ
    cases d <;> simp [PK.fits] at hk
    rw [run_equalIn_string w m t _ _ hd, zZ h1 h2]
  . cases h
theorem C0 : ∀ {fs : List (Nat × Nat × Bool)} {l : List (Nat × PK)} {gs : List Field} {xs ys : List AV} {cx cy : Array Value} {r : Bool} {m : Nat} (_hT : cG P tt)
    (_hm : bJ.dB fs gs = true) (_hf : sP.fields tt fs = some l) (_hx : ay ρ n C xs cx.toList) (_hy : ay ρ n C ys cy.toList) (_h : eqFields xs ys l = some r) (w : World),
    (Op.eqFields (m + 1) cx cy gs).run P w = .ok r w
  | [], l, gs, xs, ys, cx, cy, r, m, hT, hm, hf, hx, hy, h, w => by
    cases gs with
    | cons f gs => simp [bJ.dB] at hm
    | nil =>
      simp [sP.fields] at hf; subst hf
      simp [eqFields] at h; subst h
      simp [Op.eqFields]
  | (off, t, named) :: fs, l, gs, xs, ys, cx, cy, r, m, hT, hm, hf, hx, hy, h, w => by
    cases gs with
    | nil => simp [bJ.dB] at hm
    | cons f gs =>
      simp [bJ.dB] at hm
      obtain ⟨⟨⟨ho, ht⟩, hn⟩, Qh⟩ := hm
      unfold sP.fields at hf
      split at hf <;> first | (cases hf; done) | skip
      rename_i ti l' ez Vb
      obtain ⟨d, hd, cA⟩ := (hT.at ez).und
      have key : ∃ pk, l = (off, pk) :: l' /\ pk.fits d = true /\ (isAgg t).run P w = .ok false w := by
        have pL := Fi cA w hd
        split at hf <;> first | (cases hf; done) | skip
        all_goals
          rename_i hk
          simp only [Option.some.injEq] at hf
          rw [hk] at cA pL
          refine ⟨_, hf.symm, ?_, pL⟩
        . rw [Il cA]; rfl
        . rw [zW cA]; rfl
        . rw [lg cA]; rfl
      obtain ⟨pk, rfl, zq, pL⟩ := key
      have cM : f.name ≠ "_" := by intro e; rw [e] at hn; simp at hn
      unfold eqFields at h
      split at h <;> first | (cases h; done) | skip
      rename_i a b ha hb
      rw [lF] at ha hb
      obtain ⟨x, hx1, N6⟩ := hx.get ha
      obtain ⟨y, EG, EH⟩ := hy.get hb
      have px : (part f.type cx f.offset).run P w = .ok x w := by
        rw [<- ht, <- ho]; simp at hx1; simp [part, pL, hx1]
      have py : (part f.type cy f.offset).run P w = .ok y w := by
        rw [<- ht, <- ho]; simp at EG; simp [part, pL, EG]
      simp only [Op.eqFields, Sem.run_bind, Sem.run_ite, cM, px, py, Result.andThen_ok, ne_eq, not_false_eq_true, if_true]
      split at h
      . rename_i he
        rw [<- ht, KT hd zq N6 EH he w]
        simpa using C0 (m := m) hT Qh Vb hx hy h w
      . rename_i he
        simp only [Option.some.injEq] at h; subst h
        rw [<- ht, KT hd zq N6 EH he w]
        simp
      . cases h
def Vc (tt : TT) (op : BinOp) (q : fI) (t : TypeId) : Prop := sP tt t = some q \/ (q = .num /\ op ≠ .eql /\ op ≠ .neq)
def abR (P : Program) (tt : TT) (t : TypeId) : fI -> Prop
  | .num => True
  | .bool => P.underlying t = some .bool
  | .ptr => ∃ e, P.underlying t = some (.pointer e)
  | .slice => ∃ e, P.underlying t = some (.slice e)
  | .map => ∃ k e, P.underlying t = some (.map k e)
  | .func => ∃ a b c, P.underlying t = some (.func a b c)
  | .iface => ∃ a, P.underlying t = some (.interface a)
  | .struct l => ∃ fs gs, P.underlying t = some (.struct gs) /\ bJ.dB fs gs.toList = true /\ sP.fields tt fs = some l /\ P.stoodInHeld t = false /\ P.eqGuardType P.depth t = false
theorem N7 (hT : cG P tt) {t : TypeId} {q : fI} (hq : sP tt t = some q) : abR P tt t q := by
  unfold sP at hq
  split at hq <;> first | (cases hq; done) | skip
  rename_i ti ez
  obtain ⟨d, hd, cA⟩ := (hT.at ez).und
  split at hq <;> first | (cases hq; done) | skip
  all_goals rename_i hk
  all_goals rw [hk] at cA
  . simp only [Option.some.injEq] at hq; subst hq; rw [Il cA] at hd; exact hd
  . simp only [Option.some.injEq] at hq; subst hq; trivial
  . simp only [Option.some.injEq] at hq; subst hq; trivial
  . simp only [Option.some.injEq] at hq; subst hq; rw [Z3 cA] at hd; exact ⟨_, hd⟩
  . simp only [Option.some.injEq] at hq; subst hq; rw [lD cA] at hd; exact ⟨_, hd⟩
  . simp only [Option.some.injEq] at hq; subst hq; rw [CX cA] at hd; exact ⟨_, _, hd⟩
  . simp only [Option.some.injEq] at hq; subst hq; obtain ⟨_, _, _, rfl⟩ := V2 cA; exact ⟨_, _, _, hd⟩
  . simp only [Option.some.injEq] at hq; subst hq; obtain ⟨_, rfl⟩ := SD cA; exact ⟨_, hd⟩
  . split at hq <;> first | (cases hq; done) | skip
    rename_i fs _ _ l hp hl
    simp only [Option.some.injEq] at hq; subst hq
    obtain ⟨gs, rfl, hm⟩ := yH cA
    exact ⟨fs, gs, hd, hm, hl, (hT.at ez).eqs hp⟩
theorem O7 (m : Nat) (hT : cG P tt) {t : TypeId} {q : fI} (hq : sP tt t = some q) {a b : AV} {x y : Value} {r : Bool} (ha : ax ρ n C a x) (hb : ax ρ n C b y) (h : Fc q a b = some r) (w : World) :
    (Op.equalIn (m + 1 + 1) t x y).run P w = .ok r w := by
  have hi := N7 hT hq
  clear hq
  unfold Fc at h
  split at h <;> first | (cases h; done) | skip
  . simp only [Option.some.injEq] at h; subst h
    rw [ha.iz, hb.iz, run_equalIn_bool' w _ t _ _ hi]
  all_goals first
    | (simp only [Option.some.injEq] at h; subst h)
    | skip
  . obtain ⟨e, hd⟩ := hi; rw [ha.uA, hb.uA]; (unfold Op.equalIn; rw [Sem.run_bind, aO hd]; rfl)
  . obtain ⟨e, hd⟩ := hi; obtain ⟨_, hb⟩ := hb.mo; rw [ha.uA, hb]; (unfold Op.equalIn; rw [Sem.run_bind, aO hd]; rfl)
  . obtain ⟨e, hd⟩ := hi; obtain ⟨_, ha⟩ := ha.mo; rw [hb.uA, ha]; (unfold Op.equalIn; rw [Sem.run_bind, aO hd]; rfl)
  . obtain ⟨e, hd⟩ := hi; obtain ⟨_, _, _, _, hb, _⟩ := hb.zX; rw [ha.uA, hb]; (unfold Op.equalIn; rw [Sem.run_bind, aO hd]; rfl)
  . obtain ⟨e, hd⟩ := hi; obtain ⟨_, _, _, _, ha, _⟩ := ha.zX; rw [hb.uA, ha]; (unfold Op.equalIn; rw [Sem.run_bind, aO hd]; rfl)
  . obtain ⟨e, hd⟩ := hi; rw [ha.gx, hb.gx]; (unfold Op.equalIn; rw [Sem.run_bind, aO hd]; rfl)
  . obtain ⟨e, hd⟩ := hi; obtain ⟨_, _, hb, _⟩ := hb.eJ; rw [ha.gx, hb]; (unfold Op.equalIn; rw [Sem.run_bind, aO hd]; rfl)
  . obtain ⟨e, hd⟩ := hi; obtain ⟨_, _, ha, _⟩ := ha.eJ; rw [hb.gx, ha]; (unfold Op.equalIn; rw [Sem.run_bind, aO hd]; rfl)
  . obtain ⟨e, hd⟩ := hi; obtain ⟨_, _, _, hb, _⟩ := hb.p8; rw [ha.gx, hb]; (unfold Op.equalIn; rw [Sem.run_bind, aO hd]; rfl)
  . obtain ⟨e, hd⟩ := hi; obtain ⟨_, _, _, ha, _⟩ := ha.p8; rw [hb.gx, ha]; (unfold Op.equalIn; rw [Sem.run_bind, aO hd]; rfl)
  . obtain ⟨k, e, hd⟩ := hi; rw [ha.uB, hb.uB]; (unfold Op.equalIn; rw [Sem.run_bind, aO hd]; rfl)
  . obtain ⟨k, e, hd⟩ := hi; obtain ⟨_, hb⟩ := hb.uC; rw [ha.uB, hb]; (unfold Op.equalIn; rw [Sem.run_bind, aO hd]; rfl)
  . obtain ⟨k, e, hd⟩ := hi; obtain ⟨_, ha⟩ := ha.uC; rw [hb.uB, ha]; (unfold Op.equalIn; rw [Sem.run_bind, aO hd]; rfl)
  . obtain ⟨_, _, _, hd⟩ := hi; rw [ha.A3, hb.A3]; (unfold Op.equalIn; rw [Sem.run_bind, aO hd]; rfl)
  . obtain ⟨_, _, _, hd⟩ := hi; obtain ⟨_, _, hb, _⟩ := hb.AS; rw [ha.A3, hb]; (unfold Op.equalIn; rw [Sem.run_bind, aO hd]; rfl)
  . obtain ⟨_, _, _, hd⟩ := hi; obtain ⟨_, _, ha, _⟩ := ha.AS; rw [hb.A3, ha]; (unfold Op.equalIn; rw [Sem.run_bind, aO hd]; rfl)
  . obtain ⟨_, hd⟩ := hi; obtain ⟨_, hb, _⟩ := hb.I7; rw [ha.KS, hb]; (unfold Op.equalIn; rw [Sem.run_bind, aO hd]; rfl)
  . obtain ⟨_, hd⟩ := hi; obtain ⟨_, ha, _⟩ := ha.I7; rw [hb.KS, ha]; (unfold Op.equalIn; rw [Sem.run_bind, aO hd]; rfl)
  . obtain ⟨fs, gs, hd, hm, hl, hp, _⟩ := hi
    obtain ⟨cx, rfl, hx⟩ := ha.ux
    obtain ⟨cy, rfl, hy⟩ := hb.ux
    have hfo : P.fieldsOf t = gs := by simp [Program.fieldsOf, hd]
    rw [run_equalIn_agg w (m + 1) t cx cy (by rw [hfo, hd]) hp, hfo]
    exact C0 (m := m) hT hm hl hx hy h w
theorem KU (hT : cG P tt) {t : TypeId} {q : fI} (hq : sP tt t = some q) {a b : AV} {x y : Value} {r : Bool} (ha : ax ρ n C a x) (hb : ax ρ n C b y) (h : Fc q a b = some r) (w : World) :
    (Op.equal t x y).run P w = .ok r w := O7 9998 hT hq ha hb h w
theorem Gs (hT : cG P tt) {t : TypeId} {q : fI} (hq : sP tt t = some q) {a b : AV} {x y : Value} {r : Bool} (ha : ax ρ n C a x) (hb : ax ρ n C b y) (h : Fc q a b = some r) (op : BinOp) (ox oy : Operand) (w : World) :
    (eqGuard op t ox oy x y).run P w = .ok () w := by
  have hi := N7 hT hq
  clear hq
  unfold Fc at h
  split at h <;> first | (cases h; done) | skip
  all_goals first
    | (obtain ⟨fs, gs, hd, hm, hl, hp, hg⟩ := hi
       obtain ⟨cx, rfl, hx⟩ := ha.ux
       obtain ⟨cy, rfl, hy⟩ := hb.ux
       exact run_eqGuard_agg w op t ox oy cx cy hg)
    | (cases ha <;> cases hb <;> cases op <;> rfl)
end
end Go.Ai
end
section
namespace Go.Ai
open Go Go.RowKit
section
variable {P : Program} {tt : TT} {ρ : Pos -> Loc} {C : Cells} {st : St} {w : World} {n : Nat}
theorem JX (op : BinOp) (t : TypeId) (k : IntKind) (i j : Int) (hs : op ≠ .shl) (hr : op ≠ .shr) : (binOp op t (.int k i) (.int k j)).run P w =
    (match op with
      | .add | .sub | .mul => Op.intArith op k i j
      | .quo | .rem => Op.intDiv op k i j
      | .and | .or | .xor | .andNot => Op.intBits op k i j
      | _ => Op.intCmp op i j).run P w := by
  cases op <;> first | (exact absurd rfl hs) | (exact absurd rfl hr) | simp [binOp]
theorem SE (hT : cG P tt) {op : BinOp} {t : TypeId} {q : fI} (hq : Vc tt op q t) {a b v : AV} {x y : Value} (ha : ax ρ n C a x) (hb : ax ρ n C b y) (h : o9 op q a b = some v) (ox oy : Operand) :
    ∃ z, (do eqGuard op t ox oy x y; binOp op t x y : Sem Value).run P w = .ok z w /\ ax ρ n C v z := by
  unfold o9 at h
  split at h
  ·
    rename_i k i k' j
    rw [ha.js, hb.js]
    have hg : ∀ op, (eqGuard op t ox oy (.int k i) (.int k' j)).run P w = .ok () w := by intro op; cases op <;> rfl
    rw [Sem.run_bind, hg, Result.andThen_ok]
    split at h
    . split at h
      . cases h
      . rename_i bD
        rw [eD] at bD; have bD := of_decide_eq_false bD
        simp only [Option.some.injEq] at h; subst h
        exact ⟨_, by simp [binOp, Op.shift, bD, p9], .int _ _⟩
    . split at h
      . cases h
      . rename_i bD
        rw [eD] at bD; have bD := of_decide_eq_false bD
        simp only [Option.some.injEq] at h; subst h
        exact ⟨_, by simp [binOp, Op.shift, bD], .int _ _⟩
    . rename_i hs hr
      split at h
      . cases h
      . rename_i hk
        have := sA hk; subst this
        rw [JX op t k i j (fun e => hs e) (fun e => hr e)]
        split at h
        . simp only [Option.some.injEq] at h; subst h; exact ⟨_, by simp [Op.intArith, p9], .int _ _⟩
        . simp only [Option.some.injEq] at h; subst h; exact ⟨_, by simp [Op.intArith, p9], .int _ _⟩
        . simp only [Option.some.injEq] at h; subst h; exact ⟨_, by simp [Op.intArith, p9], .int _ _⟩
        . split at h
          . cases h
          . rename_i h0; rw [lH] at h0; have Z6 : ¬ j = 0 := by simpa using h0
            simp only [Option.some.injEq] at h; subst h; exact ⟨_, by simp [Op.intDiv, Z6, p9], .int _ _⟩
        . split at h
          . cases h
          . rename_i h0; rw [lH] at h0; have Z6 : ¬ j = 0 := by simpa using h0
            simp only [Option.some.injEq] at h; subst h; exact ⟨_, by simp [Op.intDiv, Z6], .int _ _⟩
        . simp only [Option.some.injEq] at h; subst h; exact ⟨_, by simp [Op.intBits], .int _ _⟩
        . simp only [Option.some.injEq] at h; subst h; exact ⟨_, by simp [Op.intBits], .int _ _⟩
        . simp only [Option.some.injEq] at h; subst h; exact ⟨_, by simp [Op.intBits], .int _ _⟩
        . simp only [Option.some.injEq] at h; subst h; exact ⟨_, by simp [Op.intBits], .int _ _⟩
        . simp only [Option.some.injEq] at h; subst h; exact ⟨_, by simp [Op.intCmp, lH], .bool _⟩
        . simp only [Option.some.injEq] at h; subst h; refine ⟨_, rfl, ?_⟩; rw [lH]; exact .bool _
        . simp only [Option.some.injEq] at h; subst h; refine ⟨_, rfl, ?_⟩; rw [eD]; exact .bool _
        . simp only [Option.some.injEq] at h; subst h; refine ⟨_, rfl, ?_⟩; rw [gS]; exact .bool _
        . simp only [Option.some.injEq] at h; subst h; refine ⟨_, rfl, ?_⟩; rw [eD]; exact .bool _
        . simp only [Option.some.injEq] at h; subst h; refine ⟨_, rfl, ?_⟩; rw [gS]; exact .bool _
        . cases h
  ·
    rename_i s u
    obtain ⟨bx, rfl, h1⟩ := ha.dZ
    obtain ⟨bz, rfl, h2⟩ := hb.dZ
    have hg : ∀ op, (eqGuard op t ox oy (.string bx) (.string bz)).run P w = .ok () w := by intro op; cases op <;> rfl
    rw [Sem.run_bind, hg, Result.andThen_ok]
    have hs : (binOp op t (.string bx) (.string bz)).run P w = (Op.stringOp op bx bz).run P w := by cases op <;> rfl
    rw [hs]
    have e1 := zZ h1 h2
    have e2 := Fj h1 h2
    split at h
    . split at h
      . rename_i hb
        have hb := Nat.le_of_ble_eq_true hb
        simp only [Option.some.injEq] at h; subst h
        have lp : ¬ (((bx.size + bz.size : Nat) : Int) > IntKind.i64.max) := by
          rw [rX h1, rX h2]; simp [IntKind.max, IntKind.signed, IntKind.bits]; omega
        refine ⟨.string (bx ++ bz), ?_, .str _ _ ?_⟩
        . simp only [Op.stringOp]; rw [if_neg lp]; rfl
        . rw [ByteArray.data_append, Array.toList_append, List.map_append, h1, h2]
      . cases h
    all_goals first | (cases h; done) | skip
    all_goals
      simp only [Option.some.injEq] at h; subst h
      refine ⟨_, rfl, ?_⟩
      first | rw [e1, e2] | rw [e1] | rw [e2]
      exact .bool _
  ·
    rename_i Z7 Z8
    have KA : ∀ op, (op = .eql \/ op = .neq) -> (binOp op t x y).run P w = ((Op.equal t x y).run P w).andThen fun r w' => .ok (.bool (if op = .eql then r else !r)) w' := by
      rintro op (rfl | rfl)
      all_goals
        cases ha <;> cases hb <;> first
          | (exact (Z7 _ _ _ _ rfl rfl).elim)
          | (exact (Z8 _ _ rfl rfl).elim)
          | simp [binOp]
    split at h
    . split at h
      . rename_i r hr
        simp only [Option.some.injEq] at h; subst h
        rcases hq with hq | ⟨_, hq, _⟩
        . refine ⟨.bool r, ?_, .bool r⟩
          rw [Sem.run_bind, Gs hT hq ha hb hr, Result.andThen_ok, KA _ (.inl rfl), KU hT hq ha hb hr]; rfl
        . exact absurd rfl hq
      . cases h
    . split at h
      . rename_i r hr
        simp only [Option.some.injEq] at h; subst h
        rcases hq with hq | ⟨_, _, hq⟩
        . refine ⟨.bool (!r), ?_, .bool _⟩
          rw [Sem.run_bind, Gs hT hq ha hb hr, Result.andThen_ok, KA _ (.inr rfl), KU hT hq ha hb hr]; rfl
        . exact absurd rfl hq
      . cases h
    . cases h
end
end Go.Ai
end
section
namespace Go.Ai
open Go Go.RowKit
def cV (P : Program) (tt : TT) (op : Op) : Prop :=
  ∀ (ρ : Pos -> Loc) (C : Cells) (st : St) (w : World) (k : aE) (xs : List jW) (cls : N3) (fr : Fr) (a : Act) (o : Oper) (vs : List AV) (res : dz),
    o.op = op -> fS tt op = some (k, xs, cls) -> cw ρ C st w -> lC ρ st.next.toNat C fr a.tmps -> eC fr xs = some vs ->
    k.run (fun b => st.heap.get b) st.next vs = some res -> uX P ρ C st w ((execOp a.eval o).run P w) res
section
variable {P : Program} {tt : TT}
theorem Im {ρ : Pos -> Loc} {n : Nat} {C : Cells} {x y : Operand} {os : List jW} {fr : Fr} {a : Act} {vs : List AV} (h : iW [x, y] = some os) (hF : lC ρ n C fr a.tmps) (hv : eC fr os = some vs) :
    ∃ u v, vs = [u, v] /\ ax ρ n C u (a.eval x) /\ ax ρ n C v (a.eval y) := by
  have h1 := fT h hF hv
  cases vs with
  | nil => have := h1.1; simp at this
  | cons u vs =>
    cases vs with
    | nil => have := h1.1; simp at this
    | cons v vs =>
      cases vs with
      | nil => exact ⟨u, v, rfl, h1.2 0 u _ rfl rfl, h1.2 1 v _ rfl rfl⟩
      | cons z vs => have := h1.1; simp at this
theorem Z9 {ρ : Pos -> Loc} {n : Nat} {C : Cells} {x y z : Operand} {os : List jW} {fr : Fr} {a : Act} {vs : List AV} (h : iW [x, y, z] = some os) (hF : lC ρ n C fr a.tmps) (hv : eC fr os = some vs) :
    ∃ u v q, vs = [u, v, q] /\ ax ρ n C u (a.eval x) /\ ax ρ n C v (a.eval y) /\ ax ρ n C q (a.eval z) := by
  have h1 := fT h hF hv
  match vs, h1 with
  | [u, v, q], h1 => exact ⟨u, v, q, rfl, h1.2 0 u _ rfl rfl, h1.2 1 v _ rfl rfl, h1.2 2 q _ rfl rfl⟩
  | [], h1 => have := h1.1; simp at this
  | [_], h1 => have := h1.1; simp at this
  | [_, _], h1 => have := h1.1; simp at this
  | _ :: _ :: _ :: _ :: _, h1 => have := h1.1; simp at this
theorem SG (x : Operand) : cV P tt (.move x) := by
  intro ρ C st w k xs cls fr a o vs res ho hc hW hF hx hr
  simp only [fS] at hc
  split at hc <;> first | (cases hc; done) | skip
  rename_i b hb
  cases hc
  obtain ⟨v, rfl, hv⟩ := fU hb hF hx
  simp only [aE.run, Eb, Option.some.injEq] at hr; subst hr
  exact .pure (by simp [execOp, ho]) hv
theorem O8 (x : Operand) : cV P tt (.assign x) := by
  intro ρ C st w k xs cls fr a o vs res ho hc hW hF hx hr
  simp only [fS] at hc
  split at hc <;> first | (cases hc; done) | skip
  rename_i b hb
  cases hc
  obtain ⟨v, rfl, hv⟩ := fU hb hF hx
  simp only [aE.run, Eb, Option.some.injEq] at hr; subst hr
  exact .pure (by simp [execOp, ho]) hv
theorem SH (c x y : Operand) : cV P tt (.pick c x y) := by
  intro ρ C st w k xs cls fr a o vs res ho hc hW hF hx hr
  simp only [fS] at hc
  split at hc <;> first | (cases hc; done) | skip
  rename_i l hl
  cases hc
  obtain ⟨u, v, q, rfl, h1, h2, h3⟩ := Z9 hl hF hx
  simp only [aE.run, Ii] at hr
  split at hr <;> first | (cases hr; done) | skip
  all_goals
    simp only [Option.some.injEq] at hr; subst hr
    have h1 := h1.iz
  . exact .pure (by simp [execOp, ho, h1, asBool]) h2
  . exact .pure (by simp [execOp, ho, h1, asBool]) h3
theorem Qi (hT : cG P tt) (op : BinOp) (t : TypeId) (x y : Operand) (yt : TypeId) : cV P tt (.binOp op t x y yt) := by
  intro ρ C st w k xs cls fr a o vs res ho hc hW hF hx hr
  have key : ∃ q, Vc tt op q t /\ k = .bin op q /\ iW [x, y] = some xs := by
    simp only [fS] at hc
    split at hc
    . rename_i q l hq hl
      cases hc
      exact ⟨q, .inl hq, rfl, hl⟩
    . rename_i l hq hl
      split at hc <;> first | (cases hc; done) | skip
      rename_i h1 h2
      cases hc
      exact ⟨.num, .inr ⟨rfl, fun e => h1 e, fun e => h2 e⟩, rfl, hl⟩
    . cases hc
  obtain ⟨q, hq, rfl, hl⟩ := key
  obtain ⟨u, v, rfl, h1, h2⟩ := Im hl hF hx
  simp only [aE.run, jA] at hr
  split at hr <;> first | (cases hr; done) | skip
  rename_i r hb
  simp only [Option.some.injEq] at hr; subst hr
  obtain ⟨z, hz, hv⟩ := SE hT hq h1 h2 hb x y (w := w)
  refine .pure ?_ hv
  simp only [execOp, ho]
  rw [Sem.run_bind, hz]; rfl
theorem SI (op : UnOp) (t : TypeId) (x : Operand) : cV P tt (.unOp op t x) := by
  intro ρ C st w k xs cls fr a o vs res ho hc hW hF hx hr
  simp only [fS] at hc
  split at hc <;> first | (cases hc; done) | skip
  rename_i b hb
  cases hc
  obtain ⟨v, rfl, hv⟩ := fU hb hF hx
  simp only [aE.run, OZ] at hr
  split at hr <;> first | (cases hr; done) | skip
  rename_i r hu
  simp only [Option.some.injEq] at hr; subst hr
  unfold unA at hu
  split at hu
  . split at hu <;> first | (cases hu; done) | skip
    simp only [Option.some.injEq] at hu; subst hu
    exact .pure (by simp [execOp, ho, hv.iz, Op.unary]) (.bool _)
  . split at hu <;> first | (cases hu; done) | skip
    simp only [Option.some.injEq] at hu; subst hu
    exact .pure (by simp [execOp, ho, hv.js, Op.unary, Op.intArith]; rfl) (by rw [p9]; simpa using ax.int _ _)
  . cases hu
theorem KV (x : Operand) : cV P tt (.nilCheck x) := by
  intro ρ C st w k xs cls fr a o vs res ho hc hW hF hx hr
  simp only [fS] at hc
  split at hc <;> first | (cases hc; done) | skip
  rename_i b hb
  cases hc
  obtain ⟨v, rfl, hv⟩ := fU hb hF hx
  simp only [aE.run, zn] at hr
  split at hr <;> first | (cases hr; done) | skip
  all_goals simp only [Option.some.injEq] at hr; subst hr
  . obtain ⟨_, he⟩ := hv.mo
    exact .pure (by simp [execOp, ho, he]) hv
  . obtain ⟨_, _, _, _, he, _⟩ := hv.zX
    exact .pure (by simp [execOp, ho, he]) hv
  . obtain ⟨_, _, he, _⟩ := hv.AS
    exact .pure (by simp [execOp, ho, he]) hv
theorem Ns (x : Operand) (i : Nat) : cV P tt (.extract x i) := by
  intro ρ C st w k xs cls fr a o vs res ho hc hW hF hx hr
  simp only [fS] at hc
  split at hc <;> first | (cases hc; done) | skip
  rename_i b hb
  cases hc
  obtain ⟨v, rfl, hv⟩ := fU hb hF hx
  simp only [aE.run, wu] at hr
  split at hr <;> first | (cases hr; done) | skip
  split at hr <;> first | (cases hr; done) | skip
  rename_i u hu
  simp only [Option.some.injEq] at hr; subst hr
  obtain ⟨cs, he, hs⟩ := hv.I0
  rw [lF] at hu
  obtain ⟨y, hy, C3⟩ := hs.get hu
  exact .pure (by simp at hy; simp [execOp, ho, he, Instr.extract, hy]) C3
theorem Nt (hT : cG P tt) (t : TypeId) (x : Operand) : cV P tt (.makeInterface t x) := by
  intro ρ C st w k xs cls fr a o vs res ho hc hW hF hx hr
  simp only [fS] at hc
  split at hc <;> first | (cases hc; done) | skip
  rename_i ti b ez hb
  split at hc <;> first | (cases hc; done) | skip
  rename_i h1 h2
  cases hc
  obtain ⟨v, rfl, hv⟩ := fU hb hF hx
  simp only [aE.run, AO, Option.some.injEq] at hr; subst hr
  obtain ⟨d, hd, hk⟩ := (hT.at ez).und
  refine .pure (x := .iface t (a.eval x)) ?_ (.iface _ _ _ hv)
  have Z7 : ∀ ms, d ≠ .interface ms := by
    rintro ms rfl
    cases yJ : ti.k <;> rw [yJ] at hk <;> first | (simp [bJ] at hk; done) | (exact h1 yJ) | (exact h2 yJ)
  simp only [execOp, ho, Instr.makeInterface, Sem.run_bind, aO hd, Result.andThen_ok]
  cases d <;> first | rfl | (exact absurd rfl (Z7 _))
theorem O9 (fn : Fn) (first captured : Array Operand) : cV P tt (.makeFunc fn first captured) := by
  intro ρ C st w k xs cls fr a o vs res ho hc hW hF hx hr
  simp only [fS] at hc
  split at hc <;> first | (cases hc; done) | skip
  rename_i f l hl
  cases hc
  have h := fT hl hF hx
  simp only [aE.run, yC, Option.some.injEq] at hr; subst hr
  have e1 : vs.take first.size = vs.take first.size := rfl
  have h1 := h.take first.size
  have h2 := h.drop first.size
  simp only [List.map_append] at h1 h2
  rw [List.take_left' (by simp)] at h1
  rw [List.drop_left' (by simp)] at h2
  refine .pure (x := .func (.func f) (first.map a.eval) (captured.map a.eval)) (by simp [execOp, ho, Instr.makeFunc]) ?_
  exact .func _ _ _ _ _ (by simpa using h1.1) (by simpa using h2.1) (fun i v v' hv z6 => h1.2 i v v' hv (by simpa using z6)) (fun i v v' hv z6 => h2.2 i v v' hv (by simpa using z6))
theorem JY (hT : cG P tt) (t : TypeId) (x : Operand) (f : Nat) : cV P tt (.fieldAddr t x f) := by
  intro ρ C st w k xs cls fr a o vs res ho hc hW hF hx hr
  simp only [fS] at hc
  split at hc <;> first | (cases hc; done) | skip
  rename_i ti b ez hb
  split at hc <;> first | (cases hc; done) | skip
  rename_i fs hk
  split at hc <;> first | (cases hc; done) | skip
  rename_i off ft nm hf
  split at hc <;> first | (cases hc; done) | skip
  rename_i fi Vd
  split at hc <;> first | (cases hc; done) | skip
  rename_i gO
  cases hc
  obtain ⟨v, rfl, hv⟩ := fU hb hF hx
  obtain ⟨d, hd, cA⟩ := (hT.at ez).und
  rw [hk] at cA
  obtain ⟨gs, rfl, hm⟩ := yH cA
  obtain ⟨g, hg, nX, z7, _⟩ := AY hm hf
  simp only at nX z7
  obtain ⟨i, hi, nY, _⟩ := (hT.at Vd).info
  have hs0 : ¬ i.size = 0 := by rw [nY]; exact Nat.ne_of_beq_eq_false gO
  simp only [aE.run, CU] at hr
  split at hr <;> first | (cases hr; done) | skip
  . simp only [Option.some.injEq] at hr; subst hr
    obtain ⟨bD, he⟩ := hv.mo
    refine .pure (x := .pointer (some ⟨(ρ _).aF, (ρ _).base + (_ + off), none⟩)) ?_ (.ptr _ _ bD)
    simp at hg
    simp [execOp, ho, he, Instr.fieldAt, aO hd, hg, Instr.sureAddr, fieldPlace, z7, iX hi, hs0, nA, nX, Nat.add_assoc]
  . simp only [Option.some.injEq] at hr; subst hr
    obtain ⟨es, aF, base, cell, he, h1, h2, h3⟩ := hv.zX
    rename_i sy i' j'
    refine .pure (x := .pointer (some ⟨aF, base + i' * es + (j' + off), none⟩)) ?_ (.fp _ _ _ es aF base cell h1 h2 h3)
    simp at hg
    simp [execOp, ho, he, Instr.fieldAt, aO hd, hg, Instr.sureAddr, fieldPlace, z7, iX hi, hs0, nA, nX, Nat.add_assoc]
theorem iY {ρ : Pos -> Loc} {n : Nat} {C : Cells} {v : AV} {x : Value} {i : Nat} (h : ax ρ n C v x) (hi : qV v = some i) : ∃ k, x = .int k (i : Int) := by
  unfold qV at hi
  split at hi <;> first | (cases hi; done) | skip
  split at hi <;> first | (cases hi; done) | skip
  simp only [Option.some.injEq] at hi; subst hi
  exact ⟨_, h.js⟩
theorem JZ (hT : cG P tt) (t : TypeId) (x ix : Operand) : cV P tt (.indexAddr t x ix) := by
  intro ρ C st w k xs cls fr a o vs res ho hc hW hF hx hr
  simp only [fS] at hc
  split at hc <;> first | (cases hc; done) | skip
  rename_i ti l ez hl
  obtain ⟨d, hd, cA⟩ := (hT.at ez).und
  obtain ⟨u, v, rfl, h1, h2⟩ := Im hl hF (by
    split at hc <;> first | (cases hc; done) | skip
    all_goals
      split at hc <;> first | (cases hc; done) | skip
      cases hc
      exact hx)
  split at hc <;> first | (cases hc; done) | skip
  . rename_i e hk
    rw [hk] at cA
    rw [lD cA] at hd
    split at hc <;> first | (cases hc; done) | skip
    rename_i te jN
    cases hc
    obtain ⟨i0, qa, nY, _⟩ := (hT.at jN).info
    simp only [aE.run, qG] at hr
    split at hr <;> first | (cases hr; done) | skip
    rename_i i hi
    obtain ⟨kk, N8⟩ := iY h2 hi
    split at hr <;> first | (cases hr; done) | skip
    . rename_i b off len cap bR _
      split at hr <;> first | (cases hr; done) | skip
      rename_i bD
      have bD : i < len := by simpa using bD
      simp only [Option.some.injEq] at hr; subst hr
      obtain ⟨aa, aU, he, hle, _, ha⟩ := h1.eJ
      obtain ⟨hb, rfl, _⟩ := ha (by omega)
      refine .pure (x := .pointer (some ⟨(ρ b).aF, (ρ b).base + (off + i * te.size), none⟩)) ?_ (.ptr _ _ hb)
      simp [execOp, ho, he, N8, Instr.indexAt, aO hd, asIntOf, bD, iX qa, nA, nY, Nat.add_assoc]
    . rename_i sy bR _
      split at hr <;> first | (cases hr; done) | skip
      rename_i bD gG
      have bD : i < sy.length := by simpa using bD
      have gG : te.size = bR := Nat.eq_of_beq_eq_true gG
      simp only [Option.some.injEq] at hr; subst hr
      obtain ⟨aa, aU, cell, he, hle, qM, g1, g2, g3⟩ := h1.p8
      have qM := qM (by intro e; rw [e] at bD; simp at bD)
      obtain ⟨ab, ao, asp⟩ := aa
      simp only at qM; subst qM
      refine .pure (x := .pointer (some ⟨ab, ao + i * bR + 0, none⟩)) ?_ (.fp _ _ _ bR ab ao cell g1 g2 g3)
      simp [execOp, ho, he, N8, Instr.indexAt, aO hd, asIntOf, bD, iX qa, nA, nY, gG]
    . rename_i hh; cases hh
  . rename_i m e hk
    rw [hk] at cA
    rw [KQ cA] at hd
    split at hc <;> first | (cases hc; done) | skip
    rename_i te jN
    cases hc
    obtain ⟨i0, qa, nY, _⟩ := (hT.at jN).info
    simp only [aE.run, qG] at hr
    split at hr <;> first | (cases hr; done) | skip
    rename_i i hi
    obtain ⟨kk, N8⟩ := iY h2 hi
    split at hr <;> first | (cases hr; done) | skip
    . rename_i hh; cases hh
    . rename_i hh; cases hh
    . rename_i m' b off hh
      cases hh
      split at hr <;> first | (cases hr; done) | skip
      rename_i bD
      have bD : i < m := by simpa using bD
      simp only [Option.some.injEq] at hr; subst hr
      obtain ⟨hb, he⟩ := h1.mo
      refine .pure (x := .pointer (some ⟨(ρ b).aF, (ρ b).base + (off + i * te.size), none⟩)) ?_ (.ptr _ _ hb)
      simp [execOp, ho, he, N8, Instr.indexAt, aO hd, asIntOf, bD, iX qa, nA, nY, Nat.add_assoc, Instr.sureAddr]
end
end Go.Ai
end
section
namespace Go.Ai
open Go Go.RowKit
section
variable {P : Program} {tt : TT}
theorem Qj (hT : cG P tt) (t : TypeId) (x : Operand) (f : Nat) : cV P tt (.field t x f) := by
  intro ρ C st w k xs cls fr a o vs res ho hc hW hF hx hr
  simp only [fS] at hc
  split at hc <;> first | (cases hc; done) | skip
  rename_i ti b ez hb
  split at hc <;> first | (cases hc; done) | skip
  rename_i fs hk
  split at hc <;> first | (cases hc; done) | skip
  rename_i off ft nm hf
  split at hc <;> first | (cases hc; done) | skip
  rename_i fi Vd
  cases hc
  obtain ⟨v, rfl, hv⟩ := fU hb hF hx
  obtain ⟨d, hd, cA⟩ := (hT.at ez).und
  rw [hk] at cA
  obtain ⟨gs, rfl, hm⟩ := yH cA
  obtain ⟨g, hg, nX, z7, _⟩ := AY hm hf
  simp only at nX z7
  obtain ⟨i, hi, nY, _⟩ := (hT.at Vd).info
  obtain ⟨fd, hfd, hfk⟩ := (hT.at Vd).und
  have pL := Fi hfk w hfd
  simp only [aE.run, Fe] at hr
  split at hr <;> first | (cases hr; done) | skip
  rename_i cs
  obtain ⟨cx, he, hs⟩ := hv.ux
  simp at hg
  split at hr
  . rename_i hn
    split at hr <;> first | (cases hr; done) | skip
    rename_i u hu
    simp only [Option.some.injEq] at hr; subst hr
    rw [lF] at hu
    obtain ⟨y, hy, C3⟩ := hs.get hu
    have Pa : fi.k.isAgg = false := by
      unfold sQ at hn; split at hn
      . cases hn
      . assumption
    rw [Pa] at pL
    refine .pure (x := y) ?_ C3
    simp at hy
    simp [execOp, ho, he, Instr.field, aO hd, hg, part, z7, pL, asAgg, nX, hy]
  . rename_i m hn
    simp only [Option.some.injEq] at hr; subst hr
    have Pa : fi.k.isAgg = true /\ m = fi.size := by
      unfold sQ at hn; split at hn
      . cases hn; exact ⟨by assumption, rfl⟩
      . cases hn
    rw [Pa.1] at pL
    refine .pure (x := .agg (cx.extract off (off + m))) ?_ (.zV ?_)
    . simp [execOp, ho, he, Instr.field, aO hd, hg, part, z7, pL, asAgg, nX, iX hi, nY, Pa.2]
    . have := (hs.drop off).take m
      simpa [Array.toList_extract, List.extract] using this
theorem Qk (hT : cG P tt) (t : TypeId) (x ix : Operand) : cV P tt (.index t x ix) := by
  intro ρ C st w k xs cls fr a o vs res ho hc hW hF hx hr
  simp only [fS] at hc
  split at hc <;> first | (cases hc; done) | skip
  rename_i ti l ez hl
  split at hc <;> first | (cases hc; done) | skip
  rename_i hk
  cases hc
  obtain ⟨u, v, rfl, h1, h2⟩ := Im hl hF hx
  obtain ⟨d, hd, cA⟩ := (hT.at ez).und
  rw [hk] at cA
  rw [lg cA] at hd
  simp only [aE.run, Ec] at hr
  split at hr <;> first | (cases hr; done) | skip
  rename_i s i hi
  split at hr <;> first | (cases hr; done) | skip
  rename_i c hcx
  simp only [Option.some.injEq] at hr; subst hr
  obtain ⟨bs, he, hs⟩ := h1.dZ
  obtain ⟨kk, N8⟩ := iY h2 hi
  rw [lF, <- hs, List.getElem?_map] at hcx
  obtain ⟨b, hb, hbc⟩ := Option.map_eq_some_iff.1 hcx
  have gw : bs[i]? = some b := by
    obtain ⟨bD, l9⟩ := List.getElem?_eq_some_iff.1 hb
    have AZ : i < bs.size := by rw [Array.length_toList] at bD; exact bD
    rw [getElem?_pos bs i AZ]
    congr 1
  refine .pure (x := .int .u8 (.ofNat c)) ?_ (.int _ _)
  simp [execOp, ho, he, N8, Instr.index, aO hd, asIntOf, gw, <- hbc]
theorem SJ (hT : cG P tt) (t : TypeId) (x : Operand) : cV P tt (.load t x) := by
  intro ρ C st w k xs cls fr a o vs res ho hc hW hF hx hr
  simp only [fS] at hc
  split at hc <;> first | (cases hc; done) | skip
  rename_i ti b ez hb
  cases hc
  obtain ⟨v, rfl, hv⟩ := fU hb hF hx
  obtain ⟨d, hd, cA⟩ := (hT.at ez).und
  obtain ⟨i, hi, nY, _⟩ := (hT.at ez).info
  have pL := Fi cA w hd
  have hn : (sQ ti = none /\ ti.k.isAgg = false) \/ (sQ ti = some ti.size /\ ti.k.isAgg = true) := by
    unfold sQ; split <;> simp_all
  simp only [aE.run, qF] at hr
  split at hr <;> first | (cases hr; done) | skip
  . rename_i bb off
    split at hr <;> first | (cases hr; done) | skip
    rename_i cs fz l9
    obtain ⟨_, he⟩ := hv.mo
    rcases hn with ⟨hn, hf⟩ | ⟨hn, hf⟩
    . rw [hn] at hr; rw [hf] at pL
      simp only at hr
      split at hr <;> first | (cases hr; done) | skip
      rename_i u hu
      simp only [Option.some.injEq] at hr; subst hr
      rw [lF] at hu
      obtain ⟨y, hy, C3⟩ := hW.cell l9 hu
      refine .pure (x := y) ?_ C3
      simp [execOp, ho, he, Instr.loadAt, Instr.sureAddr, loadVar, pL, hy]
    . rw [hn] at hr; rw [hf] at pL
      simp only at hr
      split at hr <;> first | (cases hr; done) | skip
      rename_i us hu
      simp only [Option.some.injEq] at hr; subst hr
      obtain ⟨ys, hy, C3⟩ := hW.loadCells (P := P) l9 hu
      refine .pure (x := .agg ys.toArray) ?_ (.zV (by simpa using C3))
      simp [execOp, ho, he, Instr.loadAt, Instr.sureAddr, loadVar, pL, iX hi, nY, hy]
  . rename_i sy i' j'
    split at hr <;> first | (cases hr; done) | skip
    rename_i cs fF
    rw [lF] at fF
    obtain ⟨es, aF, base, cell, he, g1, g2, g3⟩ := hv.zX
    rcases hn with ⟨hn, hf⟩ | ⟨hn, hf⟩
    . rw [hn] at hr; rw [hf] at pL
      simp only at hr
      split at hr <;> first | (cases hr; done) | skip
      rename_i u hu
      simp only [Option.some.injEq] at hr; subst hr
      rw [lF] at hu
      have O6 := (hW.fD _ _ (g2 _ _ _ _ fF hu)).1
      refine .pure (x := cell i' j') ?_ (g3 _ _ _ _ fF hu)
      simp [execOp, ho, he, Instr.loadAt, Instr.sureAddr, loadVar, pL, O6]
    . rw [hn] at hr; rw [hf] at pL
      simp only at hr
      split at hr <;> first | (cases hr; done) | skip
      rename_i us hu
      simp only [Option.some.injEq] at hr; subst hr
      obtain ⟨Ql, hle⟩ := Gr hu
      have hlen := A0 hu
      have cH : (loadCells ⟨aF, base + i' * es + j', none⟩ ti.size).run P w = .ok ((List.range ti.size).map fun q => cell i' (j' + q)).toArray w := by
        refine run_loadCells w _ _ _ fun q hq => ?_
        rw [nA]
        have : cs[j' + q]? = some (cs[j' + q]'(by omega)) := List.getElem?_eq_getElem (by omega)
        rw [Nat.add_assoc]
        exact (hW.fD _ _ (g2 _ _ _ _ fF this)).1
      refine .pure (x := .agg ((List.range ti.size).map fun q => cell i' (j' + q)).toArray) ?_ (.zV ⟨by simp [hlen], fun q u y hu' hy => ?_⟩)
      . simp [execOp, ho, he, Instr.loadAt, Instr.sureAddr, loadVar, pL, iX hi, nY, cH]
      . have hq : q < ti.size := by rw [<- hlen]; exact (List.getElem?_eq_some_iff.1 hu').1
        rw [Ql, List.getElem?_take, if_pos hq, List.getElem?_drop] at hu'
        simp [hq] at hy
        subst hy
        exact g3 _ _ _ _ fF hu'
theorem SK {x y : Value} {ρ : Pos -> Loc} {n : Nat} {C : Cells} {u v r : AV} {w : World} {st : St} (h1 : ax ρ n C u x) (h2 : ax ρ n C v y) (hr : wP (fun b => st.heap.get b) st.next [u, v] = some (.val r)) :
    ∃ z, (Builtin.min2 x y).run P w = .ok z w /\ ax ρ n C r z := by
  simp only [wP] at hr
  split at hr <;> first | (cases hr; done) | skip
  . simp only [Option.some.injEq, dz.val.injEq] at hr; subst hr
    rw [h1.js, h2.js]
    refine ⟨_, rfl, ?_⟩
    rw [eD]
    split
    . rename_i h; rw [if_pos (of_decide_eq_true h)]; exact .int _ _
    . rename_i h; rw [if_neg (of_decide_eq_false h)]; exact .int _ _
  . simp only [Option.some.injEq, dz.val.injEq] at hr; subst hr
    rename_i sa sb
    obtain ⟨bx, rfl, e1⟩ := h1.dZ
    obtain ⟨bz, rfl, e2⟩ := h2.dZ
    have hh : (Op.stringOp .leq bx bz).run P w = .ok (.bool (aA sa sb || ia sa sb)) w := by
      simp only [Op.stringOp, Sem.run_pure]; rw [Fj e1 e2, zZ e1 e2]
    refine ⟨_, by simp only [Builtin.min2, Sem.run_bind, hh, Result.andThen_ok, asBool, Sem.run_pure]; rfl, ?_⟩
    split
    . rename_i h; rw [if_pos h]; exact .str _ _ e1
    . rename_i h; rw [if_neg (by rw [h]; simp)]; exact .str _ _ e2
theorem SL {x y : Value} {ρ : Pos -> Loc} {n : Nat} {C : Cells} {u v r : AV} {w : World} {st : St} (h1 : ax ρ n C u x) (h2 : ax ρ n C v y) (hr : wQ (fun b => st.heap.get b) st.next [u, v] = some (.val r)) :
    ∃ z, (Builtin.max2 x y).run P w = .ok z w /\ ax ρ n C r z := by
  simp only [wQ] at hr
  split at hr <;> first | (cases hr; done) | skip
  . simp only [Option.some.injEq, dz.val.injEq] at hr; subst hr
    rw [h1.js, h2.js]
    refine ⟨_, rfl, ?_⟩
    rw [eD]
    split
    . rename_i h; rw [if_pos (of_decide_eq_true h)]; exact .int _ _
    . rename_i h; rw [if_neg (of_decide_eq_false h)]; exact .int _ _
  . simp only [Option.some.injEq, dz.val.injEq] at hr; subst hr
    rename_i sa sb
    obtain ⟨bx, rfl, e1⟩ := h1.dZ
    obtain ⟨bz, rfl, e2⟩ := h2.dZ
    have hh : (Op.stringOp .geq bx bz).run P w = .ok (.bool (!aA sa sb)) w := by
      simp only [Op.stringOp, Sem.run_pure]; rw [Fj e1 e2]
    refine ⟨_, by simp only [Builtin.max2, Sem.run_bind, hh, Result.andThen_ok, asBool, Sem.run_pure]; rfl, ?_⟩
    split
    . rename_i h; rw [if_neg (by rw [h]; simp)]; exact .str _ _ e2
    . rename_i h; rw [if_pos (by rw [h]; rfl)]; exact .str _ _ e1
theorem j9 (xs : Array Operand) (a : Act) : xs.toList.map a.eval = (xs.map a.eval).toList := by simp
end
end Go.Ai
end
section
namespace Go.Ai
open Go Go.RowKit
section
variable {P : Program} {tt : TT}
theorem Ve {ρ : Pos -> Loc} {n : Nat} {C : Cells} {bs : List AV} {x : Value} (h : ay ρ n C bs [x]) : ∃ b, bs = [b] /\ ax ρ n C b x := by
  match bs, h with
  | [b], h => exact ⟨b, rfl, h.2 0 b x rfl rfl⟩
  | [], h => have := h.1; simp at this
  | _ :: _ :: _, h => have := h.1; simp at this
theorem vs2 {ρ : Pos -> Loc} {n : Nat} {C : Cells} {bs : List AV} {x y : Value} (h : ay ρ n C bs [x, y]) : ∃ b c, bs = [b, c] /\ ax ρ n C b x /\ ax ρ n C c y := by
  match bs, h with
  | [b, c], h => exact ⟨b, c, rfl, h.2 0 b x rfl rfl, h.2 1 c y rfl rfl⟩
  | [], h => have := h.1; simp at this
  | [_], h => have := h.1; simp at this
  | _ :: _ :: _ :: _, h => have := h.1; simp at this
theorem vs3 {ρ : Pos -> Loc} {n : Nat} {C : Cells} {bs : List AV} {x y z : Value} (h : ay ρ n C bs [x, y, z]) : ∃ b c d, bs = [b, c, d] /\ ax ρ n C b x /\ ax ρ n C c y /\ ax ρ n C d z := by
  match bs, h with
  | [b, c, d], h => exact ⟨b, c, d, rfl, h.2 0 b x rfl rfl, h.2 1 c y rfl rfl, h.2 2 d z rfl rfl⟩
  | [], h => have := h.1; simp at this
  | [_], h => have := h.1; simp at this
  | [_, _], h => have := h.1; simp at this
  | _ :: _ :: _ :: _ :: _, h => have := h.1; simp at this
def xo (x : Option Value) (i : Option Nat) : Prop := (x = none /\ i = none) \/ ∃ j k, i = some j /\ x = some (.int k (j : Int))
theorem Gt {ρ : Pos -> Loc} {n : Nat} {C : Cells} {lo hi mx : Option Operand} {bs : List AV} {a : Act} {l h m : Option Nat}
    (hb : ay ρ n C bs ((sR lo ++ sR hi ++ sR mx).map a.eval)) (hr : bounds lo.isSome hi.isSome mx.isSome bs = some (l, h, m)) :
    xo (lo.map a.eval) l /\ xo (hi.map a.eval) h /\ xo (mx.map a.eval) m /\ (m.isSome = true -> h.isSome = true) := by
  unfold bounds at hr
  cases lo <;> cases hi <;> cases mx <;> simp only [Option.isSome_some, Option.isSome_none, sR, List.nil_append, List.append_nil, List.cons_append, List.map_cons, List.map_nil] at hb hr <;>
    first | (cases hr; done) | skip
  . cases bs with
    | cons b bs => have := hb.1; simp at this
    | nil => simp at hr; obtain ⟨rfl, rfl, rfl⟩ := hr; exact ⟨.inl ⟨rfl, rfl⟩, .inl ⟨rfl, rfl⟩, .inl ⟨rfl, rfl⟩, fun h => by cases h⟩
  . obtain ⟨b, rfl, h1⟩ := Ve hb
    simp only at hr
    split at hr <;> first | (cases hr; done) | skip
    rename_i j hj
    obtain ⟨k, hk⟩ := iY h1 hj
    simp at hr; obtain ⟨rfl, rfl, rfl⟩ := hr
    exact ⟨.inl ⟨rfl, rfl⟩, .inr ⟨j, k, rfl, by simp [hk]⟩, .inl ⟨rfl, rfl⟩, fun h => by cases h⟩
  . obtain ⟨b, c, rfl, h1, h2⟩ := vs2 hb
    simp only at hr
    split at hr <;> first | (cases hr; done) | skip
    rename_i j j' hj yI
    obtain ⟨k, hk⟩ := iY h1 hj
    obtain ⟨k', ug⟩ := iY h2 yI
    simp at hr; obtain ⟨rfl, rfl, rfl⟩ := hr
    exact ⟨.inl ⟨rfl, rfl⟩, .inr ⟨j, k, rfl, by simp [hk]⟩, .inr ⟨j', k', rfl, by simp [ug]⟩, fun _ => rfl⟩
  . obtain ⟨b, rfl, h1⟩ := Ve hb
    simp only at hr
    split at hr <;> first | (cases hr; done) | skip
    rename_i j hj
    obtain ⟨k, hk⟩ := iY h1 hj
    simp at hr; obtain ⟨rfl, rfl, rfl⟩ := hr
    exact ⟨.inr ⟨j, k, rfl, by simp [hk]⟩, .inl ⟨rfl, rfl⟩, .inl ⟨rfl, rfl⟩, fun h => by cases h⟩
  . obtain ⟨b, c, rfl, h1, h2⟩ := vs2 hb
    simp only at hr
    split at hr <;> first | (cases hr; done) | skip
    rename_i j j' hj yI
    obtain ⟨k, hk⟩ := iY h1 hj
    obtain ⟨k', ug⟩ := iY h2 yI
    simp at hr; obtain ⟨rfl, rfl, rfl⟩ := hr
    exact ⟨.inr ⟨j, k, rfl, by simp [hk]⟩, .inr ⟨j', k', rfl, by simp [ug]⟩, .inl ⟨rfl, rfl⟩, fun h => by cases h⟩
  . obtain ⟨b, c, d, rfl, h1, h2, h3⟩ := vs3 hb
    simp only at hr
    split at hr <;> first | (cases hr; done) | skip
    rename_i j j' j'' hj yI hj''
    obtain ⟨k, hk⟩ := iY h1 hj
    obtain ⟨k', ug⟩ := iY h2 yI
    obtain ⟨k'', hk''⟩ := iY h3 hj''
    simp at hr; obtain ⟨rfl, rfl, rfl⟩ := hr
    exact ⟨.inr ⟨j, k, rfl, by simp [hk]⟩, .inr ⟨j', k', rfl, by simp [ug]⟩, .inr ⟨j'', k'', rfl, by simp [hk'']⟩, fun _ => rfl⟩
theorem uh (isS : Bool) {len cap : Nat} {xl xh xm : Option Value} {l h m : Option Nat} (h1 : xo xl l) (h2 : xo xh h) (h3 : xo xm m) (hmh : m.isSome = true -> h.isSome = true)
    (z8 : l.getD 0 <= h.getD len) (hhm : h.getD len <= m.getD cap) (hmc : m.getD cap <= cap) (w : World) :
    (Instr.sliceBounds isS len cap xl xh xm).run P w = .ok (l.getD 0, h.getD len, m.getD cap) w := by
  rcases h1 with ⟨rfl, rfl⟩ | ⟨jl, kl, rfl, rfl⟩ <;> rcases h2 with ⟨rfl, rfl⟩ | ⟨jh, kh, rfl, rfl⟩ <;> rcases h3 with ⟨rfl, rfl⟩ | ⟨jm, km, rfl, rfl⟩ <;>
    simp only [Option.getD_none, Option.getD_some, Option.isSome_some, Option.isSome_none] at z8 hhm hmc hmh ⊢ <;>
    first
      | (simp at hmh; done)
      | simp [Instr.sliceBounds, Instr.sliceBound, asIntOf, z8, hhm, hmc, Int.ofNat_le]
theorem yK {ρ : Pos -> Loc} {n : Nat} {C : Cells} {b : Pos} {off es aU l h M : Nat} {aa : Addr} {SM : Option Nat}
    (ha : aU ≠ 0 -> b.toNat < n /\ aa = ⟨(ρ b).aF, (ρ b).base + off, none⟩ /\ (ρ b).base + off + aU * es <= (ρ b).size)
    (h1 : l <= h) (h2 : h <= M) (h3 : M <= aU) (hc : ∀ c, SM = some c -> c = M - l) (hk : SM = none -> b.toNat < n) :
    ax ρ n C (.slice b (off + l * es) (h - l) SM es) (.slice (if M = l then some aa else (some aa).map (·.add (l * es))) (h - l) (M - l)) := by
  by_cases hm : M = l
  . rw [if_pos hm]
    exact .slice _ _ _ _ _ _ _ (by omega) hc (fun h0 => absurd (by omega) h0) hk
  . rw [if_neg hm]
    obtain ⟨hb, rfl, hle⟩ := ha (by omega)
    refine .slice _ _ _ _ _ _ _ (by omega) hc (fun _ => ⟨hb, by show Addr.add _ _ = _; rw [nA, Nat.add_assoc], ?_⟩) hk
    have e1 : l * es + (M - l) * es = M * es := by rw [<- Nat.add_mul]; congr 1; omega
    have e2 : M * es <= aU * es := Nat.mul_le_mul_right _ h3
    omega
theorem Qm (hT : cG P tt) (t : TypeId) (x : Operand) (lo hi mx : Option Operand) : cV P tt (.slice t x lo hi mx) := by
  intro ρ C st w k xs cls fr a o vs res ho hc hW hF hx hr
  simp only [fS] at hc
  split at hc <;> first | (cases hc; done) | skip
  rename_i ti l0 ez hl
  obtain ⟨d, hd, cA⟩ := (hT.at ez).und
  split at hc <;> first | (cases hc; done) | skip
  . rename_i hk
    rw [hk] at cA; rw [lg cA] at hd
    split at hc <;> first | (cases hc; done) | skip
    cases hc
    have hv := fT hl hF hx
    simp only [sR, List.append_nil, List.cons_append, List.nil_append, List.map_cons] at hv
    simp only [aE.run, CT] at hr
    split at hr <;> first | (cases hr; done) | skip
    rename_i u bs
    split at hr <;> first | (cases hr; done) | skip
    rename_i s l h m' hb
    split at hr <;> first | (cases hr; done) | skip
    rename_i h1 h2
    have h1 := Nat.le_of_ble_eq_true h1
    have h2 := Nat.le_of_ble_eq_true h2
    simp only [Option.some.injEq] at hr; subst hr
    obtain ⟨y, ys, sx, hu, nc⟩ := hv.cons_inv
    simp only [List.cons.injEq] at sx; obtain ⟨rfl, rfl⟩ := sx
    have l9 := Gt (lo := lo) (hi := hi) (mx := none) (a := a) (by simpa [sR] using nc) hb
    obtain ⟨Vf, he, hs⟩ := hu.dZ
    have gO := rX hs
    have cH := uh (P := P) false (len := Vf.size) (cap := Vf.size) l9.1 l9.2.1 (.inl ⟨rfl, rfl⟩ : xo none none) (fun h => by cases h)
      (by rw [gO]; exact h1) (by rw [gO]; simpa using h2) (by simp) w
    refine .pure (x := .string (Vf.extract (l.getD 0) (h.getD Vf.size))) ?_ (.str _ _ ?_)
    . simp only [execOp, ho, Instr.sliceAt, Sem.run_bind, aO hd, Result.andThen_ok, he, Instr.slice]
      simp [cH]
    . rw [gO, ByteArray.data_extract, Array.toList_extract, <- hs, List.extract, List.map_take, List.map_drop]
      rw [List.drop_take]
  . rename_i e hk
    rw [hk] at cA; rw [lD cA] at hd
    split at hc <;> first | (cases hc; done) | skip
    rename_i te jN
    cases hc
    obtain ⟨i0, qa, nY, _⟩ := (hT.at jN).info
    have hv := fT hl hF hx
    simp only [List.cons_append, List.nil_append, List.append_assoc, List.map_cons] at hv
    simp only [aE.run, nT] at hr
    split at hr <;> first | (cases hr; done) | skip
    rename_i u bs
    obtain ⟨y, ys, sx, hu, nc⟩ := hv.cons_inv
    simp only [List.cons.injEq] at sx; obtain ⟨rfl, rfl⟩ := sx
    have nX : ∀ (sa : Option Addr) (len cap : Nat) (l h m : Option Nat), a.eval x = .slice sa len cap -> bounds lo.isSome hi.isSome mx.isSome bs = some (l, h, m) ->
        l.getD 0 <= h.getD len -> h.getD len <= m.getD cap -> m.getD cap <= cap ->
        (execOp a.eval o).run P w = .ok (.value (.slice (if m.getD cap = l.getD 0 then sa else sa.map (·.add (l.getD 0 * te.size))) (h.getD len - l.getD 0) (m.getD cap - l.getD 0))) w := by
      intro sa len cap l h m he hb h1 h2 h3
      have l9 := Gt (lo := lo) (hi := hi) (mx := mx) (a := a) (by simpa [List.append_assoc] using nc) hb
      have cH := uh (P := P) true (len := len) (cap := cap) l9.1 l9.2.1 l9.2.2.1 l9.2.2.2 h1 h2 h3 w
      simp only [execOp, ho, Instr.sliceAt, Sem.run_bind, aO hd, Result.andThen_ok, he, Instr.slice, cH, iX qa, nY, Sem.run_pure]
    split at hr <;> first | (cases hr; done) | skip
    ·
      rename_i b off len cap bR l h m hb
      split at hr <;> first | (cases hr; done) | skip
      rename_i gG z8
      have gG : te.size = bR := Nat.eq_of_beq_eq_true gG
      subst gG
      have z8 := Nat.le_of_ble_eq_true z8
      obtain ⟨aa, aU, he, hle, C4, ha⟩ := hu.eJ
      split at hr
      . rename_i c m'
        split at hr <;> first | (cases hr; done) | skip
        rename_i e1 e2
        have e1 := Nat.le_of_ble_eq_true e1
        have e2 := Nat.le_of_ble_eq_true e2
        have := C4 c rfl; subst this
        simp only [Option.some.injEq] at hr; subst hr
        exact .pure (nX _ _ _ _ _ _ he hb z8 (by simpa using e1) (by simpa using e2)) (yK ha z8 e1 e2 (fun c hc => by cases hc; rfl) (fun h => by cases h))
      . rename_i c
        split at hr <;> first | (cases hr; done) | skip
        rename_i e1
        have e1 := Nat.le_of_ble_eq_true e1
        have := C4 c rfl; subst this
        simp only [Option.some.injEq] at hr; subst hr
        exact .pure (nX _ _ _ _ _ _ he hb z8 (by simpa using e1) (by simp)) (yK ha z8 e1 (Nat.le_refl _) (fun c hc => by cases hc; rfl) (fun h => by cases h))
      . rename_i m'
        split at hr <;> first | (cases hr; done) | skip
        rename_i e1 e2
        have e1 := Nat.le_of_ble_eq_true e1
        have e2 := Nat.le_of_ble_eq_true e2
        simp only [Option.some.injEq] at hr; subst hr
        exact .pure (nX _ _ _ _ _ _ he hb z8 (by simpa using e1) (by simp; omega)) (yK ha z8 e1 (by simp; omega) (fun c hc => by cases hc; rfl) (fun h => by cases h))
      . split at hr <;> first | (cases hr; done) | skip
        rename_i e1
        have e1 := Nat.le_of_ble_eq_true e1
        simp only [Option.some.injEq] at hr; subst hr
        exact .pure (nX _ _ _ _ _ _ he hb z8 (by simp; omega) (by simp)) (yK ha z8 (by simp; omega) (Nat.le_refl _) (fun c hc => by cases hc) (fun _ => hu.I8 rfl))
    ·
      rename_i sy bR l h m hb
      split at hr <;> first | (cases hr; done) | skip
      rename_i gG
      have gG : te.size = bR := Nat.eq_of_beq_eq_true gG
      subst gG
      obtain ⟨aa, aU, cell, he, hle, qM, g1, g2, g3⟩ := hu.p8
      split at hr
      . rename_i m'
        split at hr <;> first | (cases hr; done) | skip
        rename_i e0 e1 e2
        have e0 := Nat.eq_of_beq_eq_true e0
        have e1 := Nat.eq_of_beq_eq_true e1
        have e2 := Nat.eq_of_beq_eq_true e2
        subst e2
        simp only [Option.some.injEq] at hr; subst hr
        refine .pure (nX _ _ _ _ _ _ he hb (by omega) (by rw [e1]; simp) (by simp)) ?_
        simp only [e0, e1, Option.getD_some, Nat.sub_self, if_true]
        exact .slice _ _ _ _ _ _ _ (Nat.le_refl _) (fun c hc => by cases hc; rfl) (fun h0 => absurd rfl h0) (fun h => by cases h)
      . split at hr <;> first | (cases hr; done) | skip
        rename_i e0 e1
        have e0 := Nat.le_of_ble_eq_true e0
        have e1 := Nat.le_of_ble_eq_true e1
        simp only [Option.some.injEq] at hr; subst hr
        refine .pure (nX _ _ _ _ _ _ he hb e0 (by simp; omega) (by simp)) ?_
        simp only [Option.getD_none]
        have hlen : (List.drop (l.getD 0) (List.take (h.getD sy.length) sy)).length = h.getD sy.length - l.getD 0 := by simp; omega
        rw [<- hlen]
        have rW : ∀ i cs, (List.drop (l.getD 0) (List.take (h.getD sy.length) sy))[i]? = some cs -> sy[l.getD 0 + i]? = some cs := by
          intro i cs hi
          rw [List.getElem?_drop, List.getElem?_take] at hi
          split at hi
          . exact hi
          . cases hi
        by_cases hcl : aU = l.getD 0
        . rw [if_pos hcl]
          have hemp : List.drop (l.getD 0) (List.take (h.getD sy.length) sy) = [] := by
            apply List.eq_nil_of_length_eq_zero; rw [hlen]; omega
          rw [hemp]
          exact .fl _ _ _ _ (fun _ _ => undef) (by simp) (fun h => absurd rfl h) (fun i cs hi => by simp at hi) (fun i j cs v hi => by simp at hi) (fun i j cs v hi => by simp at hi)
        . rw [if_neg hcl]
          by_cases cM : sy = []
          . subst cM
            simp only [List.take_nil, List.drop_nil]
            exact .fl _ _ _ _ (fun _ _ => undef) (by simp) (fun h => absurd rfl h) (fun i cs hi => by simp at hi) (fun i j cs v hi => by simp at hi) (fun i j cs v hi => by simp at hi)
          . have qM := qM cM
            obtain ⟨ab, ao, asp⟩ := aa
            simp only at qM; subst qM
            simp only [Option.map_some, nA]
            refine .fl _ _ _ _ (fun i j => cell (l.getD 0 + i) j) (by rw [hlen]; omega) (fun _ => rfl) (fun i cs hi => g1 _ _ (rW i cs hi)) (fun i j cs v hi hj => ?_) (fun i j cs v hi hj => g3 _ _ _ _ (rW i cs hi) hj)
            have := g2 _ _ _ _ (rW i cs hi) hj
            simp only at this ⊢
            rw [<- this]
            congr 2
            rw [Nat.add_mul]; omega
    ·
      rename_i l h m hb
      split at hr <;> first | (cases hr; done) | skip
      rename_i e0 e1 e2
      have e0 := Nat.eq_of_beq_eq_true e0
      have e1 := Nat.eq_of_beq_eq_true e1
      have e2 := Nat.eq_of_beq_eq_true e2
      simp only [Option.some.injEq] at hr; subst hr
      have he := hu.gx
      refine .pure (nX _ _ _ _ _ _ he hb (by omega) (by omega) (by omega)) ?_
      simp only [e0, e1, e2, Nat.sub_self, if_true]
      exact .av
end
end Go.Ai
end
section
namespace Go.Ai
open Go Go.RowKit
section
variable {P : Program} {tt : TT}
theorem EI {ρ : Pos -> Loc} {n : Nat} {C : Cells} : ∀ {l : List AV} {s : List Nat} {ys : List Value}, bytesOf l = some s -> ay ρ n C l ys ->
    ys = (s.map Int.ofNat).map (Value.int .u8) /\ ∀ c, c ∈ s -> c < 256
  | [], s, ys, h, hv => by
    simp [bytesOf] at h; subst h
    exact ⟨by simpa using hv.o4, fun c hc => by simp at hc⟩
  | v :: l, s, ys, h, hv => by
    unfold bytesOf at h
    split at h <;> first | (cases h; done) | skip
    . rename_i h0; simp at h0
    . rename_i c l' he
      simp only [List.cons.injEq] at he; obtain ⟨rfl, rfl⟩ := he
      split at h <;> first | (cases h; done) | skip
      rename_i s' bD lJ
      simp only [Option.some.injEq] at h; subst h
      obtain ⟨y, ys', rfl, h1, h2⟩ := hv.cons_inv
      obtain ⟨e, mj⟩ := EI lJ h2
      have bD : c < 256 := by simpa using bD
      refine ⟨by rw [h1.js, e]; rfl, fun c' hc => ?_⟩
      simp at hc; rcases hc with rfl | hc
      . exact bD
      . exact mj _ hc
theorem yL : ∀ (s : List Nat) (acc : ByteArray), ((s.map Int.ofNat).foldl (fun r n => r.push (UInt8.ofNat n.toNat)) acc).data.toList = acc.data.toList ++ s.map UInt8.ofNat
  | [], acc => by simp
  | c :: s, acc => by
    simp only [List.map_cons, List.foldl_cons]
    rw [yL s]
    simp [ByteArray.push]
theorem Nu (hT : cG P tt) (src dst : TypeId) (x : Operand) (hnb : ∀ k xs cls, fS tt (.convert src dst x) = some (k, xs, cls) -> k ≠ .conv .bytes) : cV P tt (.convert src dst x) := by
  intro ρ C st w k xs cls fr a o vs res ho hc hW hF hx hr
  have hnb := hnb _ _ _ hc
  simp only [fS] at hc
  split at hc <;> first | (cases hc; done) | skip
  rename_i s d b hs hd hb
  obtain ⟨ds, Gu, Gv⟩ := (hT.at hs).und
  obtain ⟨dd, hdd, cA⟩ := (hT.at hd).und
  split at hc <;> first | (cases hc; done) | skip
  . rename_i k1 k2 h1 h2
    cases hc
    obtain ⟨v, rfl, hv⟩ := fU hb hF hx
    rw [h1] at Gv; rw [h2] at cA
    rw [zW Gv] at Gu; rw [zW cA] at hdd
    simp only [aE.run, uv] at hr
    split at hr <;> first | (cases hr; done) | (rename_i heq; cases heq; done) | (rename_i heq; cases heq)
    simp only [Option.some.injEq] at hr; subst hr
    refine .pure ?_ (by rw [p9]; exact .int _ _)
    simp [execOp, ho, hv.js, convert, aO Gu, aO hdd, Conv.intToInt]
  . rename_i h1 h2
    cases hc
    obtain ⟨v, rfl, hv⟩ := fU hb hF hx
    rw [h1] at Gv; rw [h2] at cA
    rw [lg Gv] at Gu; rw [lg cA] at hdd
    simp only [aE.run, uv] at hr
    split at hr <;> first | (cases hr; done) | (rename_i heq; cases heq; done) | (rename_i heq; cases heq)
    simp only [Option.some.injEq] at hr; subst hr
    obtain ⟨bs, he, hs⟩ := hv.dZ
    exact .pure (x := .string bs) (by simp [execOp, ho, he, convert, aO Gu, aO hdd]) (.str _ _ hs)
  . split at hc <;> first | (cases hc; done) | skip
    split at hc <;> first | (cases hc; done) | skip
    cases hc
    exact absurd rfl hnb
  . rename_i e h1 h2
    split at hc <;> first | (cases hc; done) | skip
    rename_i te jN
    split at hc <;> first | (cases hc; done) | skip
    rename_i hk8
    cases hc
    obtain ⟨v, rfl, hv⟩ := fU hb hF hx
    rw [h1] at Gv; rw [h2] at cA
    rw [lD Gv] at Gu; rw [lg cA] at hdd
    obtain ⟨de, Qn, Qo⟩ := (hT.at jN).und
    rw [hk8] at Qo; rw [zW Qo] at Qn
    have nX : ∀ y : Option Addr × Nat × Nat, a.eval x = .slice y.1 y.2.1 y.2.2 -> (execOp a.eval o).run P w = ((Conv.bytesToString (a.eval x)).run P w).andThen fun v w => .ok (.value v) w := by
      intro y he
      simp [execOp, ho, he, convert, aO Gu, aO hdd, aO Qn]
    simp only [aE.run, uv] at hr
    split at hr <;> first | (cases hr; done) | (rename_i heq; cases heq; done) | (rename_i heq; cases heq)
    . simp only [Option.some.injEq] at hr; subst hr
      have he := hv.gx
      refine .pure (x := .string .empty) ?_ (.str _ _ rfl)
      rw [nX (none, 0, 0) he, he]; simp [Conv.bytesToString]
    . rename_i bb off m cap es
      obtain ⟨aa, aU, he, hle, _, ha⟩ := hv.eJ
      split at hr
      . rename_i h0
        have := Nat.eq_of_beq_eq_true h0; subst this
        simp only [Option.some.injEq] at hr; subst hr
        refine .pure (x := .string .empty) ?_ (.str _ _ rfl)
        rw [nX (some aa, 0, aU) he, he]; simp [Conv.bytesToString, loadCells, loadCellsFrom]
      . rename_i h0
        have h0 := Nat.ne_of_beq_eq_false h0
        split at hr <;> first | (cases hr; done) | skip
        rename_i cs fz l9
        split at hr <;> first | (cases hr; done) | skip
        rename_i l hcut
        split at hr <;> first | (cases hr; done) | skip
        rename_i s' aaa
        simp only [Option.some.injEq] at hr; subst hr
        obtain ⟨bD, rfl, _⟩ := ha (by omega)
        obtain ⟨ys, sx, sB⟩ := hW.loadCells (P := P) l9 hcut
        obtain ⟨e1, e2⟩ := EI aaa sB
        rw [e1] at sx
        have cH := run_bytesToString (P := P) w ⟨(ρ bb).aF, (ρ bb).base + off, none⟩ m aU (s'.map Int.ofNat) sx
        refine .pure (x := .string _) (by rw [nX (some _, m, aU) he, he, cH]; rfl) (.str _ _ ?_)
        rw [yL, List.map_append]
        have e0 : ByteArray.empty.data.toList = [] := rfl
        rw [e0, List.map_nil, List.nil_append, List.map_map]
        have e3 : s'.map (UInt8.toNat ∘ UInt8.ofNat) = s'.map id := List.map_congr_left fun c hc => by
          have := e2 c hc
          simp only [Function.comp, id, UInt8.toNat_ofNat']
          omega
        rw [e3, List.map_id]
theorem Aa {t : TypeId} {d : TypeDesc} (hd : P.underlying t = some d) {pk : PK} (hk : pk.fits d = true) (e : Bool) (m : Nat) (x : Value) (w : World) :
    (Instr.checkKey e (m + 1) t x).run P w = .ok () w := by
  unfold Instr.checkKey
  rw [Sem.run_bind, aO hd, Result.andThen_ok]
  cases pk <;> cases d <;> simp [PK.fits] at hk <;> rfl
theorem EJ {ρ : Pos -> Loc} {n : Nat} {C : Cells} {pk : PK} {d : TypeDesc} (hk : pk.fits d = true) {u v : AV} {x y : Value} {r : Bool}
    (h1 : ax ρ n C u x) (h2 : ax ρ n C v y) (h : uu pk u v = some r) : Instr.sameNow d x y = some r := by
  unfold uu at h
  split at h <;> first | (cases h; done) | skip
  . simp only [Option.some.injEq] at h; subst h
    cases d <;> simp [PK.fits] at hk
    rw [h1.iz, h2.iz]; rfl
  . split at h <;> first | (cases h; done) | skip
    rename_i yJ
    have := sA yJ; subst this
    simp only [Option.some.injEq] at h; subst h
    cases d <;> simp [PK.fits] at hk
    rw [h1.js, h2.js]; simp [Instr.sameNow, lH]
  . simp only [Option.some.injEq] at h; subst h
    cases d <;> simp [PK.fits] at hk
    obtain ⟨bx, rfl, e1⟩ := h1.dZ
    obtain ⟨bz, rfl, e2⟩ := h2.dZ
    simp only [Instr.sameNow]
    rw [beq_toListBytes, zZ e1 e2]
def yM (ρ : Pos -> Loc) (n : Nat) (C : Cells) (es : List (AV × AV × Nat)) (bR : List MapEntry) : Prop :=
  es.length = bR.length /\ ∀ (i : Nat) (e : AV × AV × Nat) (e' : MapEntry), es[i]? = some e -> bR[i]? = some e' -> ax ρ n C e.1 e'.key /\ ax ρ n C e.2.1 e'.val /\ e.2.2 = e'.born
theorem vq {ρ : Pos -> Loc} {n : Nat} {C : Cells} {pk : PK} {d : TypeDesc} (hk : pk.fits d = true) {u : AV} {x : Value} (hu : ax ρ n C u x) :
    ∀ {es : List (AV × AV × Nat)} {bR : List MapEntry} {i : Nat} {r : Option (Nat × AV)}, yM ρ n C es bR -> iV pk u es i = some r ->
    ∃ r', Instr.findNow d x bR i = some r' /\ ((r = none /\ r' = none) \/ ∃ j v y, r = some (j, v) /\ r' = some (j, y) /\ ax ρ n C v y /\ i <= j /\ j < i + es.length)
  | [], bR, i, r, he, h => by
    simp [iV] at h; subst h
    cases bR with
    | nil => exact ⟨none, rfl, .inl ⟨rfl, rfl⟩⟩
    | cons e bR => have := he.1; simp at this
  | (k', v, born) :: es, bR, i, r, he, h => by
    cases bR with
    | nil => have := he.1; simp at this
    | cons e' bR =>
      have h0 := he.2 0 (k', v, born) e' rfl rfl
      have oJ : yM ρ n C es bR := ⟨by have := he.1; simpa using this, fun j e e' h1 h2 => he.2 (j + 1) e e' (by simpa using h1) (by simpa using h2)⟩
      unfold iV at h
      split at h <;> first | (cases h; done) | skip
      . rename_i hq
        simp only [Option.some.injEq] at h; subst h
        refine ⟨some (i, e'.val), by simp [Instr.findNow, EJ hk hu h0.1 hq], .inr ⟨i, v, e'.val, rfl, rfl, h0.2.1, Nat.le_refl _, by simp⟩⟩
      . rename_i hq
        obtain ⟨r', h1, h2⟩ := vq hk hu oJ h
        refine ⟨r', by simp [Instr.findNow, EJ hk hu h0.1 hq, h1], ?_⟩
        rcases h2 with h2 | ⟨j, v', y, e1, e2, e3, e4, e5⟩
        . exact .inl h2
        . exact .inr ⟨j, v', y, e1, e2, e3, by omega, by simp; omega⟩
theorem run_findKey {t : TypeId} {d : TypeDesc} (hd : P.underlying t = some d) {x : Value} {es : List MapEntry} {r : Option (Nat × Value)} (h : Instr.findNow d x es 0 = some r) (w : World) :
    (Instr.findKey t x es).run P w = .ok r w := by
  simp [Instr.findKey, aO hd, h]
theorem run_getObj_map {r : Nat} {es : Array MapEntry} {c : Nat} {w : World} (h : w.heap[r]? = some (.map es c)) : (getObj r).run P w = .ok (.map es c) w := by
  simp [getObj, Sem.run, h]
theorem Vg (k : TK) {d : TypeDesc} (h : bJ k d = true) {pk : PK} (hp : (k = .bool /\ pk = .b) \/ ((∃ i, k = .int i) /\ pk = .i) \/ (k = .string /\ pk = .s)) : pk.fits d = true := by
  rcases hp with ⟨rfl, rfl⟩ | ⟨⟨i, rfl⟩, rfl⟩ | ⟨rfl, rfl⟩
  . rw [Il h]; rfl
  . rw [zW h]; rfl
  . rw [lg h]; rfl
theorem uD (hT : cG P tt) {t : Nat} {ti : TI} (ht : tt.get (key t) = some ti) {z : List AV} (hz : ti.zero = some z) {ρ : Pos -> Loc} {n : Nat} {C : Cells} (w : World) :
    ∃ v, (zeroValue t).run P w = .ok v w /\ ax ρ n C (fS.zS ti z) v /\ ay ρ n C z v.cells.toList := by
  obtain ⟨i, hi, nY, _, yN⟩ := (hT.at ht).info
  obtain ⟨v, hv, hs, hlen, h1, h2⟩ := yN z hz
  refine ⟨v, SC hi hv w, ?_, oL hs⟩
  unfold fS.zS
  split
  . rename_i ha
    obtain ⟨cs, rfl⟩ := h1 ha
    exact .zV (oL hs)
  . rename_i ha
    have hc := h2 ha
    rw [hc] at hs
    simp only [nU] at hs
    split at hs <;> first | (cases hs; done) | skip
    rename_i a as e1 e2
    simp only [Option.some.injEq] at hs e2
    subst hs; subst e2
    simp only
    exact xj e1
theorem Pb (hT : cG P tt) (t : TypeId) (x ix : Operand) (ok : Bool) : cV P tt (.lookup t x ix ok) := by
  intro ρ C st w k xs cls fr a o vs res ho hc hW hF hx hr
  simp only [fS] at hc
  split at hc <;> first | (cases hc; done) | skip
  rename_i ti l ez hl
  split at hc <;> first | (cases hc; done) | skip
  rename_i kt et hk
  split at hc <;> first | (cases hc; done) | skip
  rename_i tk te Qp jN
  obtain ⟨d, hd, cA⟩ := (hT.at ez).und
  rw [hk] at cA; rw [CX cA] at hd
  obtain ⟨dk, I9, yJ⟩ := (hT.at Qp).und
  have key : ∃ pk z, te.zero = some z /\ k = .lookup pk (fS.zS te z) ok /\ xs = l /\ cls = .read /\ pk.fits dk = true := by
    split at hc <;> first | (cases hc; done) | skip
    all_goals
      rename_i z h1 h2
      cases hc
      refine ⟨_, z, h2, rfl, rfl, rfl, Vg tk.k yJ ?_⟩
    . exact .inr (.inl ⟨⟨_, h1⟩, rfl⟩)
    . exact .inr (.inr ⟨h1, rfl⟩)
    . exact .inl ⟨h1, rfl⟩
  obtain ⟨pk, z, hz, rfl, rfl, rfl, zq⟩ := key
  obtain ⟨m, kk, rfl, h1, h2⟩ := Im hl hF hx
  obtain ⟨zv, Co, N9, _⟩ := uD hT jN hz (ρ := ρ) (n := st.next.toNat) (C := C) w
  have Oa : ∀ e, (Instr.checkKey e 10000 kt (a.eval ix)).run P w = .ok () w := fun e => Aa I9 zq e 9999 _ w
  simp only [aE.run, sj] at hr
  split at hr <;> first | (cases hr; done) | skip
  ·
    rename_i j v hm
    simp only [Option.some.injEq] at hr; subst hr
    split at hm <;> first | (cases hm; done) | skip
    . split at hm <;> first | (cases hm; done) | (simp at hm; done)
    . rename_i b
      split at hm <;> first | (cases hm; done) | skip
      rename_i es c hb
      obtain ⟨_, he⟩ := h1.uC
      obtain ⟨_, _, bR, gG, hlen, mj⟩ := hW.live _ _ hb
      have hE : yM ρ st.next.toNat C es bR.toList := ⟨by simpa using hlen, fun i e e' h1 h2 => mj i e e' h1 (by simpa using h2)⟩
      obtain ⟨r', hf, jX⟩ := vq zq h2 hE hm
      rcases jX with ⟨e1, _⟩ | ⟨j', v', y, e1, e2, e3, _⟩
      . cases e1
      . cases e1; subst e2
        have cH : (execOp a.eval o).run P w = .ok (.value (if ok then .tuple #[y, .bool true] else y)) w := by
          simp only [execOp, ho, Instr.lookup, Sem.run_bind, aO hd, Result.andThen_ok, he, run_getObj_map gG, Oa, run_findKey I9 hf, Sem.run_pure]
        refine .pure cH ?_
        cases ok
        . exact e3
        . exact .p7 (ay.cons e3 (ay.cons (.bool true) ay.nil))
  ·
    rename_i hm
    simp only [Option.some.injEq] at hr; subst hr
    have cH : (execOp a.eval o).run P w = .ok (.value (if ok then .tuple #[zv, .bool false] else zv)) w := by
      split at hm <;> first | (cases hm; done) | skip
      . split at hm <;> first | (cases hm; done) | skip
        have he := h1.uB
        have hf : (Instr.findKey kt (a.eval ix) []).run P w = .ok none w := run_findKey I9 rfl w
        simp only [execOp, ho, Instr.lookup, Sem.run_bind, aO hd, Result.andThen_ok, he, Oa, hf, Co, Sem.run_pure]
      . rename_i b
        split at hm <;> first | (cases hm; done) | skip
        rename_i es c hb
        obtain ⟨_, he⟩ := h1.uC
        obtain ⟨_, _, bR, gG, hlen, mj⟩ := hW.live _ _ hb
        have hE : yM ρ st.next.toNat C es bR.toList := ⟨by simpa using hlen, fun i e e' h1 h2 => mj i e e' h1 (by simpa using h2)⟩
        obtain ⟨r', hf, jX⟩ := vq zq h2 hE hm
        rcases jX with ⟨_, e2⟩ | ⟨j', v', y, e1, _⟩
        . subst e2
          simp only [execOp, ho, Instr.lookup, Sem.run_bind, aO hd, Result.andThen_ok, he, run_getObj_map gG, Oa, run_findKey I9 hf, Co, Sem.run_pure]
        . cases e1
    refine .pure cH ?_
    cases ok
    . exact N9
    . exact .p7 (ay.cons N9 (ay.cons (.bool false) ay.nil))
end
end Go.Ai
end
section
namespace Go.Ai
open Go Go.RowKit
section
variable {P : Program} {tt : TT}
theorem xp : ∀ (l : List Value) (off k : Nat) (cs : Array Value), off + k + l.length <= cs.size ->
    ((l.zipIdx k).foldl (fun cs (c, j) => cs.setIfInBounds (off + j) c) cs).toList = bg cs.toList (off + k) l
  | [], off, k, cs, _ => by simp [bg, List.take_append_drop]
  | v :: l, off, k, cs, h => by
    simp only [List.length_cons] at h
    simp only [List.zipIdx_cons, List.foldl_cons]
    rw [xp l off (k + 1) _ (by simp; omega)]
    simp only [bg, List.length_cons, Array.toList_setIfInBounds]
    rw [List.drop_set_of_lt (by omega)]
    have : off + (k + 1) = (off + k) + 1 := by omega
    rw [this, List.take_set, List.take_add_one]
    have bD : off + k < cs.toList.length := by simp; omega
    rw [List.getElem?_eq_getElem bD]
    simp only [Option.toList_some, List.set_append, List.length_take]
    have hm : min (off + k) cs.toList.length = off + k := Nat.min_eq_left (Nat.le_of_lt bD)
    rw [hm, if_neg (Nat.lt_irrefl _), Nat.sub_self]
    simp
    rw [show off + k + 1 + l.length = off + k + (l.length + 1) from by omega]
theorem Fk {ρ : Pos -> Loc} {n : Nat} {C : Cells} (pl : Nat -> Option (Nat × Nat)) : ∀ {pp : List (Nat × Nat)} {vs cells r : List AV} {ps : List (Nat × Value)} {cs : Array Value},
    cL cells pp vs = some r -> ay ρ n C cells cs.toList -> ay ρ n C vs (ps.map (·.2)) -> ps.map (fun x => pl x.1) = pp.map some ->
    ∃ lK, Instr.fill pl cs ps = some lK /\ ay ρ n C r lK.toList
  | [], vs, cells, r, ps, cs, h, hc, hv, hp => by
    unfold cL at h
    split at h <;> first | (cases h; done) | skip
    . simp only [Option.some.injEq] at h; subst h
      have : ps = [] := by simpa using hv.o4
      subst this
      exact ⟨cs, rfl, hc⟩
    . rename_i hh; cases hh
  | (off, size) :: pp, vs, cells, r, ps, cs, h, hc, hv, hp => by
    unfold cL at h
    split at h <;> first | (cases h; done) | skip
    . rename_i hh; cases hh
    . rename_i off' size' pp' v Z4 hh
      simp only [List.cons.injEq, Prod.mk.injEq] at hh
      obtain ⟨⟨rfl, rfl⟩, rfl⟩ := hh
      split at h <;> first | (cases h; done) | skip
      rename_i h1 h2
      have h1 := Nat.eq_of_beq_eq_true h1
      have h2 := Nat.le_of_ble_eq_true h2
      cases ps with
      | nil => have := hv.1; simp at this
      | cons p ps =>
        obtain ⟨i, x⟩ := p
        simp only [List.map_cons, List.cons.injEq] at hp hv
        obtain ⟨fh, hp2⟩ := hp
        obtain ⟨y, ys, sx, hx, sB⟩ := hv.cons_inv
        simp only [List.cons.injEq] at sx; obtain ⟨rfl, rfl⟩ := sx
        have hxc := hx.cells
        have hlen : x.cells.size = size := by rw [<- h1, hxc.1]; simp
        have gO : off + size <= cs.size := by have := hc.1; simp at this; omega
        have abS : (x.cells.zipIdx.foldl (fun cs (c, j) => cs.setIfInBounds (off + j) c) cs).toList = bg cs.toList off x.cells.toList := by
          rw [<- Array.foldl_toList, Array.toList_zipIdx]
          have := xp x.cells.toList off 0 cs (by simp; omega)
          simpa using this
        obtain ⟨lK, e1, e2⟩ := Fk pl h (cs := x.cells.zipIdx.foldl (fun cs (c, j) => cs.setIfInBounds (off + j) c) cs) (by rw [abS]; exact hc.bg hxc off) sB hp2
        refine ⟨lK, ?_, e2⟩
        simp only [Instr.fill, fh]
        rw [if_neg (by simp [hlen]; omega)]
        exact e1
theorem Cp (hT : cG P tt) {gs : Array Field} (w : World) : ∀ {fs : List (Nat × Nat × Bool)} (_hm : bJ.dB fs gs.toList = true) {is : List Nat} {pp : List (Nat × Nat)}
    (_h : fS.places tt fs is = some pp) {C5 : List (Nat × Nat)} (_hpl : ∀ (i : Nat) (f : Field) (inf : TypeInfo), gs.toList[i]? = some f -> P.info? f.type = some inf -> C5[i]? = some (f.offset, inf.size)),
    is.map (fun i => C5[i]?) = pp.map some
  | fs, hm, [], pp, h, C5, qN => by simp [fS.places] at h; subst h; rfl
  | fs, hm, i :: is, pp, h, C5, qN => by
    unfold fS.places at h
    split at h <;> first | (cases h; done) | skip
    rename_i off t nm l h1 h2
    split at h <;> first | (cases h; done) | skip
    rename_i ti Ja
    simp only [Option.some.injEq] at h; subst h
    obtain ⟨f, hf, e1, e2, _⟩ := AY hm h1
    obtain ⟨inf, KW, gO, _⟩ := (hT.at Ja).info
    simp only at e1 e2
    have := qN i f inf hf (by rw [e2]; exact KW)
    simp only [List.map_cons, this, e1, gO]
    rw [Cp hT w hm h2 qN]
theorem Gw (hT : cG P tt) : ∀ {fs : List (Nat × Nat × Bool)} {gs : List Field} (_hm : bJ.dB fs gs = true) (_ha : fS.Kv tt fs = true),
    ∃ C5 : List (Nat × Nat), gs.mapM (fun f => (P.info? f.type).map fun i => (f.offset, i.size)) = some C5 /\
      ∀ (i : Nat) (f : Field) (inf : TypeInfo), gs[i]? = some f -> P.info? f.type = some inf -> C5[i]? = some (f.offset, inf.size)
  | [], gs, hm, ha => by
    cases gs with
    | cons g gs => simp [bJ.dB] at hm
    | nil => exact ⟨[], rfl, fun i f inf h => by simp at h⟩
  | (off, t, nm) :: fs, gs, hm, ha => by
    cases gs with
    | nil => simp [bJ.dB] at hm
    | cons g gs =>
      simp [bJ.dB] at hm
      unfold fS.Kv at ha
      split at ha <;> first | (cases ha; done) | skip
      rename_i ti Ja
      obtain ⟨inf, KW, _⟩ := (hT.at Ja).info
      obtain ⟨C5, h1, h2⟩ := Gw hT hm.2 ha
      rw [hm.1.1.2] at KW
      refine ⟨(g.offset, inf.size) :: C5, by simp [KW, h1], fun i f inf' hi hf => ?_⟩
      cases i with
      | zero => simp at hi; subst hi; rw [KW] at hf; cases hf; rfl
      | succ i => simp at hi ⊢; exact h2 i f inf' hi hf
theorem Qq (hT : cG P tt) (t : TypeId) (ps : Array (Nat × Operand)) : cV P tt (.build t ps) := by
  intro ρ C st w k xs cls fr a o vs res ho hc hW hF hx hr
  simp only [fS] at hc
  split at hc <;> first | (cases hc; done) | skip
  rename_i ti l ez hl
  obtain ⟨d, hd, cA⟩ := (hT.at ez).und
  obtain ⟨it, hit, _, _, yN⟩ := (hT.at ez).info
  have nX : ∀ (pp : List (Nat × Nat)) (z : List AV) (pl : Nat -> Option (Nat × Nat)), ti.zero = some z -> k = .build z pp -> xs = l -> ps.toList.map (fun x => pl x.1) = pp.map some ->
      (∀ (v : Value) (parts : List (Nat × Value)) (cells : Array Value), it.zero = some v -> Instr.fill pl v.cells parts = some cells -> P.built t parts = some cells) ->
      uX P ρ C st w ((execOp a.eval o).run P w) res := by
    rintro pp z pl hz rfl rfl Qr aab
    have hv := fT hl hF hx
    obtain ⟨v, EK, hs, _⟩ := yN z hz
    simp only [aE.run, AN] at hr
    split at hr <;> first | (cases hr; done) | skip
    rename_i cs wA
    simp only [Option.some.injEq] at hr; subst hr
    have N9 : ay ρ st.next.toNat C z v.cells.toList := oL hs
    have Ob : (ps.map fun (i, x) => (i, a.eval x)).toList = ps.toList.map fun x => (x.1, a.eval x.2) := by simp
    obtain ⟨lK, e1, e2⟩ := Fk pl wA N9 (ps := ps.toList.map fun x => (x.1, a.eval x.2)) (by simpa [List.map_map, Function.comp_def] using hv) (by simpa [List.map_map, Function.comp_def] using Qr)
    refine .pure (x := .agg lK) ?_ (.zV e2)
    have cH := run_build w t (ps.map fun (i, x) => (i, a.eval x)) lK (aab v _ _ EK (by rw [Ob]; exact e1))
    simp only [execOp, ho, Sem.run_bind]
    rw [cH]; rfl
  split at hc <;> first | (cases hc; done) | skip
  . rename_i fs z hk hz
    rw [hk] at cA
    obtain ⟨gs, rfl, hm⟩ := yH cA
    split at hc <;> first | (cases hc; done) | skip
    rename_i pp qN mj
    cases hc
    obtain ⟨C5, h1, h2⟩ := Gw hT hm mj
    have Qr := Cp hT w hm qN h2
    refine nX pp z (fun i => C5.toArray[i]?) hz rfl rfl (by simpa [List.map_map, Function.comp_def] using Qr) fun v parts cells hv hf => ?_
    unfold Program.built
    rw [hit, hd]
    simp only [hv, h1]
    exact hf
  . rename_i e z hk hz
    rw [hk] at cA
    rw [KQ cA] at hd
    split at hc <;> first | (cases hc; done) | skip
    rename_i te jN
    cases hc
    obtain ⟨ie, Qt, gO, _⟩ := (hT.at jN).info
    refine nX _ z (fun i => some (i * te.size, te.size)) hz rfl rfl (by simp [List.map_map, Function.comp_def]) fun v parts cells hv hf => ?_
    unfold Program.built
    rw [hit, hd]
    simp only [hv, Qt, gO]
    exact hf
end
end Go.Ai
end
