/- Functions of the program and of the reference as plain functions. -/
import Derived.Test.YtehbdakjkjkekaaGreatDoorTabs
import Derived.Test.YtehbdakjkjkekaaGreatDoorEvalD
import Derived.Test.YtehbdakjkjkekaaGreatDoorEvalE
import Derived.Test.YtehbdakjkjkekaaGreatDoorWalkC
import Derived.Test.YtehbdakjkjkekaaGreatDoorWalkA
import Derived.Lib.LaidTab
import Derived.Lib.AppendIntMem
set_option linter.all false
set_option linter.unusedSectionVars false
set_option linter.deprecated false
section
noncomputable section
namespace Go.Proofs
open Go Go.Ai Go.RowKit Go.af Go.Proofs.YtehbdakjkjkekaaGreatDoor
def af.cG (b : ByteArray) : List Nat := b.data.toList.map UInt8.toNat
def af.ic (r : af.RR) : List AV := [.int .u8 r.k, .int .i64 r.wt, .str (af.cG r.a), .str (af.cG r.b), .str (af.cG r.t), .int .i64 r.n]
def af.nN : Int ⊕ af.RR -> AV
  | .inl e => .tuple [.agg [.int .u8 0, .int .i64 0, .str [], .str [], .str [], .int .i64 0], .int .i64 e]
  | .inr r => .tuple [.agg (af.ic r), .int .i64 0]
theorem qh {P : Program} {C : Cells} {f : FuncId} {fn : Func} {c : Code} {s : List AV -> St -> Option (AV × St)} (hf : P.funcs[f]? = some fn) (ek : ¬ fn.name = "runtime.NumGoroutine") (hb : fn.body = some c)
    (hs : ∀ args st v st', s args st = some (v, st') -> st' = st)
    (h : ∀ (ρ : Pos -> Go.Ai.Loc) (st : St) (w : World) (args : List AV) (v : AV) (ay : List Value), s args st = some (v, st) -> WRel ρ C st w -> VsRel ρ st.next.toNat C args ay ->
      Calls P f ay.toArray w fun e w' => (∃ x, e = .returned x /\ VRel ρ st.next.toNat C v x) /\ Below w.heap.size w w') : FnOk P C f s where
  mono args st v st' hh := by rw [hs _ _ _ _ hh]; exact Nat.le_refl _
  runs ρ st w args v st' ay hh hW hv := by
    have := hs _ _ _ _ hh; subst this
    have aB : (callFunc f ay.toArray).run P w = .ok (.enter f ay.toArray) w := by simp [callFunc, hf, ek, hb]
    rw [aB]
    refine Calls.mono (h ρ _ w args v ay hh hW hv) fun e w' he => ?_
    obtain ⟨⟨x, rfl, hx⟩, wH⟩ := he
    exact ⟨ρ, hx, fun _ _ => rfl, Nat.le_refl _, hW.later wH, Evo.later hW wH⟩
def y8 : List AV -> St -> Option (AV × St)
  | [v], st => some (v, st)
  | _, _ => none
theorem Ct {P : Program} {C : Cells} {f : FuncId} {fn : Func} (hf : P.funcs[f]? = some fn) (ek : (fn.name == "runtime.NumGoroutine") = false) (hb : fn.body.isNone = true)
    (hx : Extern.findNext fn = none) (he : Extern.find fn = some Extern.AbiNoEscape.same) : FnOk P C f y8 where
  mono args st v st' h := by
    unfold y8 at h
    split at h <;> cases h
    exact Nat.le_refl _
  runs ρ st w args v st' ay h hW hv := by
    unfold y8 at h
    split at h <;> cases h
    obtain ⟨x, xs, rfl, h1, h2⟩ := hv.cons_inv
    have := h2.nil_inv; subst this
    have aB : (callFunc f [x].toArray).run P w = .ok (.value x) w := by
      rw [run_callFunc_extern hf ek hb hx he]
      show ((Extern.AbiNoEscape.same #[x]).run P w).andThen _ = _
      rw [Lib.run_noEscape]
      rfl
    rw [aB]
    exact ⟨ρ, h1, fun _ _ => rfl, Nat.le_refl _, hW, Evo.refl _ _ _⟩
def jJ : List AV -> Option (List (List Nat))
  | [] => some []
  | .str s :: l => match jJ l with
    | some r => some (s :: r)
    | none => none
  | _ => none
def bF (sep : List Nat) : List (List Nat) -> List Nat
  | [] => []
  | [x] => x
  | x :: y :: r => x ++ (sep ++ bF sep (y :: r))
def lN : List AV -> St -> Option (AV × St)
  | [.slice b o n _ 1, .str sep], st => match st.heap.get b with
    | some (.cells cs _) => match cut cs o n with
      | some vs => match jJ vs with
        | some l => match Nat.blt 0 n, Nat.ble n 1000000, Nat.ble (bF sep l).length 140737488355328 with
          | true, true, true => some (.str (bF sep l), st)
          | _, _, _ => none
        | none => none
      | none => none
    | _ => none
  | _, _ => none
theorem pS {ρ : Pos -> Go.Ai.Loc} {n : Nat} {C : Cells} : ∀ {vs : List AV} {l : List (List Nat)} {xs : List Value}, jJ vs = some l -> VsRel ρ n C vs xs -> ∃ bs : List ByteArray, xs = bs.map Value.string /\ l = bs.map af.cG
  | [], l, xs, h, hv => by
    simp only [jJ, Option.some.injEq] at h; subst h
    have := hv.nil_inv; subst this
    exact ⟨[], rfl, rfl⟩
  | v :: vs, l, xs, h, hv => by
    unfold jJ at h
    split at h <;> first | (cases h; done) | skip
    . rename_i heq; cases heq
    . rename_i s Bp heq
      simp only [List.cons.injEq] at heq
      obtain ⟨rfl, rfl⟩ := heq
      split at h <;> first | (cases h; done) | skip
      rename_i r hr
      simp only [Option.some.injEq] at h; subst h
      obtain ⟨x, gi, rfl, h1, h2⟩ := hv.cons_inv
      obtain ⟨b, rfl, hb⟩ := h1.str_inv
      obtain ⟨bs, rfl, rfl⟩ := pS hr h2
      exact ⟨b :: bs, rfl, by rw [<- hb]; rfl⟩
theorem uU (sep : ByteArray) : ∀ bs : List ByteArray, bF (af.cG sep) (bs.map af.cG) = (Lib.join (bs.map (·.data.toList)) sep.data.toList).map UInt8.toNat
  | [] => rfl
  | [x] => by simp [bF, Lib.join_one, af.cG]
  | x :: y :: r => by
    have ih := uU sep (y :: r)
    simp only [List.map_cons, bF] at ih ⊢
    rw [ih]
    simp only [Lib.join, List.intercalate, List.intersperse, af.cG, List.flatten_cons, List.map_append]
theorem y9 {C : Cells} : FnOk Tryz.prog C 34 lN :=
  qh Tryz.func34 (by decide) rfl (fun args st v st' h => by
    unfold lN at h
    repeat' split at h
    all_goals first | (cases h; done) | skip
    all_goals (injection h with h; injection h with h1 h2; exact h2.symm)) fun ρ st w args v ay h hW hv => by
    unfold lN at h
    split at h <;> first | (cases h; done) | skip
    rename_i b o n cp sep
    split at h <;> first | (cases h; done) | skip
    rename_i cs fz hb
    split at h <;> first | (cases h; done) | skip
    rename_i vs hcut
    split at h <;> first | (cases h; done) | skip
    rename_i l hl
    split at h <;> first | (cases h; done) | skip
    rename_i h0 hn hlen
    have h0 : 0 < n := by simpa using h0
    have hn := Nat.le_of_ble_eq_true hn
    have hlen := Nat.le_of_ble_eq_true hlen
    simp only [Option.some.injEq, Prod.mk.injEq, and_true] at h
    subst h
    obtain ⟨x, xs, rfl, h1, h2⟩ := hv.cons_inv
    obtain ⟨y, ys, rfl, h3, h4⟩ := h2.cons_inv
    have := h4.nil_inv; subst this
    obtain ⟨sp, rfl, gU⟩ := h3.str_inv
    obtain ⟨a, aj, rfl, hle, _, ha⟩ := h1.slice_inv
    obtain ⟨BG, rfl, hbound⟩ := ha (by omega)
    obtain ⟨_, gI, c, e, fr, g1, g2, g3, g4, g5⟩ := hW.live b _ hb
    obtain ⟨mq, hc2⟩ := cut_eq hcut
    have xV := cut_length hcut
    have ec : VsRel ρ st.next.toNat C vs ((c.toList.drop ((ρ b).base + o)).take n) := by
      have h := (g4.drop o).take n
      rw [<- mq] at h
      have e : List.take n (List.drop o (List.take cs.length (List.drop (ρ b).base c.toList))) = (c.toList.drop ((ρ b).base + o)).take n := by
        rw [List.drop_take, List.take_take, List.drop_drop, Nat.min_eq_left (by omega)]
      rw [e] at h
      exact h
    obtain ⟨bs, cY, rfl⟩ := pS hl ec
    have dJ : bs.length = n := by
      have := ec.1
      rw [cY, List.length_map] at this
      omega
    have hj := uU sp bs
    rw [show sep = af.cG sp from gU.symm] at hlen ⊢
    rw [hj] at hlen ⊢
    rw [List.length_map] at hlen
    subst dJ
    refine Calls.mono (Tryz.strings_Join (ρ b).blk ((ρ b).base + o) aj bs sp w (fun j x hx => ?_) gI (by omega) hle hlen) fun e w' he => ?_
    . have hj : j < bs.length := (List.getElem?_eq_some_iff.1 hx).1
      have : ((c.toList.drop ((ρ b).base + o)).take bs.length)[j]? = some (.string x) := by rw [cY]; simp [hx]
      rw [List.getElem?_take, if_pos hj, List.getElem?_drop] at this
      simpa [World.cell?, g1] using this
    . obtain ⟨rfl, wH⟩ := he
      exact ⟨⟨_, rfl, .str _ _ rfl⟩, wH⟩
def aT (n : Int) : List Nat := (Lib.itoa n).map UInt8.toNat
def lM : List AV -> St -> Option (AV × St)
  | [.int .i64 n], st => match Int.decLe (-9223372036854775808) n, Int.decLe n 9223372036854775807 with
    | .isTrue _, .isTrue _ => some (.str (aT n), st)
    | _, _ => none
  | _, _ => none
def xz (C : Cells) : Prop := ∀ w : World, (∀ ad v, C ad = some v -> w.cell? ad = some v) -> (∀ a v, C a = some v -> ∀ o, C ⟨a.block, o, none⟩ = none -> w.cell? ⟨a.block, o, none⟩ = none) -> Lib.TabIs Tryz.prog w "internal/strconv.uint64pow10" .u64 Lib.pow10Tab
theorem zc {C : Cells} (hC : xz C) : FnOk Tryz.prog C 33 lM :=
  qh Tryz.func33 (by decide) rfl (fun args st v st' h => by
    unfold lM at h
    repeat' split at h
    all_goals first | (cases h; done) | skip
    all_goals (injection h with h; injection h with h1 h2; exact h2.symm)) fun ρ st w args v ay h hW hv => by
    unfold lM at h
    split at h <;> first | (cases h; done) | skip
    rename_i n
    split at h <;> first | (cases h; done) | skip
    rename_i h1 h2 _ _
    simp only [Option.some.injEq, Prod.mk.injEq, and_true] at h
    subst h
    obtain ⟨x, xs, rfl, h3, h4⟩ := hv.cons_inv
    have := h4.nil_inv; subst this
    have := h3.int_inv; subst this
    refine Calls.mono (Tryz.strconv_Itoa n h1 h2 w (hC w (fun ad v ha => (hW.froz ad v ha).1) hW.whole)) fun e w' he => ?_
    obtain ⟨rfl, k, os, rfl⟩ := he
    exact ⟨⟨_, rfl, .str _ _ rfl⟩, Lib.below_grow _ w (Nat.le_refl _) k os⟩
def lQ : List AV -> St -> Option (AV × St)
  | [.str t], st => match Nat.ble t.length 2097152 with
    | true => some (af.nN (af.cM (af.ah t)), st)
    | false => none
  | _, _ => none
theorem ze {t : List Nat} {bs : ByteArray} (h : bs.data.toList.map UInt8.toNat = t) : bs.size = t.length := by
  rw [<- h]; simp
theorem zf {ρ : Pos -> Go.Ai.Loc} {n : Nat} {C : Cells} (x : Int ⊕ af.RR) : VRel ρ n C (af.nN x) (af.valOf x) := by
  cases x with
  | inl e =>
    exact .tuple_of (VsRel.cons (.agg_of (VsRel.cons (.int _ _) (VsRel.cons (.int _ _) (VsRel.cons (.str _ _ rfl) (VsRel.cons (.str _ _ rfl) (VsRel.cons (.str _ _ rfl) (VsRel.cons (.int _ _) VsRel.nil))))))) (VsRel.cons (.int _ _) VsRel.nil))
  | inr r =>
    exact .tuple_of (VsRel.cons (.agg_of (VsRel.cons (.int _ _) (VsRel.cons (.int _ _) (VsRel.cons (.str _ _ rfl) (VsRel.cons (.str _ _ rfl) (VsRel.cons (.str _ _ rfl) (VsRel.cons (.int _ _) VsRel.nil))))))) (VsRel.cons (.int _ _) VsRel.nil))
theorem zg {C : Cells} {m : Int} (hC : C ⟨1, 0, none⟩ = some (.int .i64 m)) : FnOk Tryz.prog C 35 lQ :=
  qh Tryz.func35 (by decide) rfl (fun args st v st' h => by
    unfold lQ at h
    repeat' split at h
    all_goals first | (cases h; done) | skip
    all_goals (injection h with h; injection h with h1 h2; exact h2.symm)) fun ρ st w args v ay h hW hv => by
    unfold lQ at h
    split at h <;> first | (cases h; done) | skip
    rename_i t
    split at h <;> first | (cases h; done) | skip
    rename_i hle
    have hle := Nat.le_of_ble_eq_true hle
    simp only [Option.some.injEq, Prod.mk.injEq, and_true] at h
    subst h
    obtain ⟨x, xs, rfl, h3, h4⟩ := hv.cons_inv
    have := h4.nil_inv; subst this
    obtain ⟨bs, rfl, hs⟩ := h3.str_inv
    have cY := af.oJ hs
    refine Calls.mono (af.line bs m w (by rw [ze hs]; exact hle) (hW.froz _ _ hC).1) fun e w' he => ?_
    obtain ⟨rfl, wH⟩ := he
    rw [<- cY]
    exact ⟨⟨_, rfl, zf _⟩, wH⟩
def jY : List AV -> St -> Option (AV × St)
  | [.str t], st => match Nat.ble t.length maxLen with
    | true => match (af.b7 (af.ah t)).2.2 with
      | [] => some (.tuple [.nils, .int .i64 (af.b7 (af.ah t)).2.1, .int .i64 (af.b7 (af.ah t)).1], st)
      | r :: rs => some (.tuple [.slice st.next 0 (rs.length + 1) none 6, .int .i64 (af.b7 (af.ah t)).2.1, .int .i64 (af.b7 (af.ah t)).1], st.eff none none (some (.cells ((r :: rs).flatMap af.ic) 0)))
    | false => none
  | _, _ => none
theorem wI {ρ : Pos -> Go.Ai.Loc} {n : Nat} {C : Cells} : ∀ rs : List af.RR, VsRel ρ n C (rs.flatMap af.ic) (af.cellsOf rs)
  | [] => VsRel.nil
  | r :: rs => by
    have := (show VsRel ρ n C (af.ic r) r.cells from VsRel.cons (.int _ _) (VsRel.cons (.int _ _) (VsRel.cons (.str _ _ rfl) (VsRel.cons (.str _ _ rfl) (VsRel.cons (.str _ _ rfl) (VsRel.cons (.int _ _) VsRel.nil)))))).append (wI rs)
    simpa [af.cellsOf] using this
set_option maxRecDepth 100000 in
theorem xA {C : Cells} {m : Int} (hC : C ⟨1, 0, none⟩ = some (.int .i64 m)) : FnOk Tryz.prog C 9 jY where
  mono args st v st' h := by
    unfold jY at h
    split at h <;> first | (cases h; done) | skip
    split at h <;> first | (cases h; done) | skip
    split at h
    . injection h with h; injection h with h1 h2; subst h2; exact Nat.le_refl _
    . injection h with h; injection h with h1 h2; subst h2; exact St.eff_next _ _ _ _
  runs ρ st w args v st' ay h hW hv := by
    unfold jY at h
    split at h <;> first | (cases h; done) | skip
    rename_i t
    split at h <;> first | (cases h; done) | skip
    rename_i hle
    obtain ⟨x, xs, rfl, h1, h2⟩ := hv.cons_inv
    have := h2.nil_inv; subst this
    obtain ⟨bs, rfl, hs⟩ := h1.str_inv
    have cY := af.oJ hs
    have hm := (hW.froz _ _ hC).1
    have hc : Calls Tryz.prog 9 #[.string bs] w (af.pT bs w) := by
      by_cases aZ : bs.size <= 65536
      . exact af.zh (fun s m w h => af.line s m w (Nat.le_trans h (by decide))) bs m w aZ hm
      . exact af.xB bs w (by omega) (by rw [ze hs]; exact Nat.le_of_ble_eq_true hle)
    have aB : (callFunc 9 ([Value.string bs] : List Value).toArray).run Tryz.prog w = .ok (.enter 9 #[.string bs]) w := enters_of Tryz.func9 (by kernel_rfl) rfl _ _
    rw [aB]
    refine Calls.mono hc fun e w' rJ => ?_
    obtain ⟨v', he, bn, hb, jZ⟩ := rJ
    rw [cY] at he bn jZ
    subst he
    split at h
    . rename_i fC
      injection h with h; injection h with e1 e2; subst e1; subst e2
      have jd := jZ (.inr fC)
      subst jd
      exact ⟨ρ, .tuple_of (VsRel.cons .nils (VsRel.cons (.int _ _) (VsRel.cons (.int _ _) VsRel.nil))), fun _ _ => rfl, Nat.le_refl _, hW.later hb, Evo.later hW hb⟩
    . rename_i r rs nK
      injection h with h; injection h with e1 e2; subst e1; subst e2
      rw [nK] at bn
      rcases bn.2 with ⟨_, h0⟩ | ⟨g, cap, cur, rfl, hg, zi, iE, hcm, uV, xC⟩
      . simp at h0
      . have Hq := (Array.getElem?_eq_some_iff.1 zi).1
        have hrel := fun ρ' n' => wI (ρ := ρ') (n := n') (C := C) (r :: rs)
        have hlen : ((r :: rs).flatMap af.ic).length = (r :: rs).length * 6 := by
          rw [(hrel ρ 0).1, af.lB]
        obtain ⟨ρ', ak, aJ, aS, hE⟩ := zj (x0 := .cells ((r :: rs).flatMap af.ic) 0) (base := 0) (size := cur.size) hW hb hg Hq (fun ρ' n' _ _ =>
          cells_new zi (by rw [hlen, uV]; exact Nat.mul_le_mul_right _ iE) (by rw [hlen, xC]; exact hrel _ _) (fun i _ => by simp))
        refine ⟨ρ', .tuple_of (VsRel.cons ?_ (VsRel.cons (.int _ _) (VsRel.cons (.int _ _) VsRel.nil))), ak, St.eff_next _ _ _ _, aS, hE⟩
        exact slice_new (by simp [St.eff, Pos.toNat_succ]) aJ (by simpa using iE) (fun c hc => by cases hc) (by rw [uV]; exact Nat.le_refl _)
end Go.Proofs
namespace Go.Proofs.YtehbdakjkjkekaaGreatDoor
open Go Go.Ai Go.Proofs
def ja : Oracle := orcOf [(277, cmpS), (6, trueS), (175, y8), (34, lN), (33, lM), (35, lQ), (9, jY)]
def Sem (c : CallA) : Prop := c = run ja gg
theorem Sem.of {c : CallA} (hc : Sem c) {f : FuncId} {A : AFunc} {F : Nat} {L : Env (AV × St)} {s : Sh} {args : List AV} {st : St} {r : AV × St} (ho : ja f = none) (hF : gg.get (key f) = some A)
    (hL : ∀ x ∈ loopsOf A.code s, GoodL c F L x.1 x.2) (h : denF c F L A s args st = some r) : c f args st = some (tidy st r) := by
  subst hc; exact denF_run ho hF hL h
theorem Sem.lC {c : CallA} (hc : Sem c) {f : FuncId} {A : AFunc} {F : Nat} {s : Sh} {args : List AV} {st : St} {r : AV × St} {k : Option (AV × St)} (ho : ja f = none) (hF : gg.get (key f) = some A)
    (hl : loopsOf A.code s = []) (hd : denF c F (envOf []) A s args st = k) (h : k = some r) : c f args st = some (tidy st r) :=
  hc.of (L := envOf []) ho hF (by rw [hl]; intro x hx; cases hx) (hd.trans h)
theorem uR {c : CallA} (hc : Sem c) (st : St) : c 6 [] st = some (.bool true, st) := by
  subst hc; exact run_oracle (O := ja) (s := trueS) rfl rfl
theorem vz {c : CallA} (hc : Sem c) (v : AV) (st : St) : c 175 [v] st = some (v, st) := by
  subst hc; exact run_oracle (O := ja) (s := y8) rfl rfl
theorem Cj {c : CallA} (hc : Sem c) {args : List AV} {st : St} {r : AV × St} (h : lN args st = some r) : c 34 args st = some r := by
  subst hc; exact run_oracle (O := ja) (s := lN) rfl h
theorem Ch {c : CallA} (hc : Sem c) {args : List AV} {st : St} {r : AV × St} (h : lM args st = some r) : c 33 args st = some r := by
  subst hc; exact run_oracle (O := ja) (s := lM) rfl h
theorem Cl {c : CallA} (hc : Sem c) {args : List AV} {st : St} {r : AV × St} (h : lQ args st = some r) : c 35 args st = some r := by
  subst hc; exact run_oracle (O := ja) (s := lQ) rfl h
theorem uS {c : CallA} (hc : Sem c) {args : List AV} {st : St} {r : AV × St} (h : jY args st = some r) : c 9 args st = some r := by
  subst hc; exact run_oracle (O := ja) (s := jY) rfl h
end Go.Proofs.YtehbdakjkjkekaaGreatDoor
end
section
set_option linter.all false
set_option maxRecDepth 100000
noncomputable section
namespace Go.Proofs.YtehbdakjkjkekaaGreatDoor
open Go Go.Ai Go.Proofs
def cC (c : CallA) (F : Nat) (x0 : AV) (s : St) : Option (AV × St) :=
  stp c .move [(.bool false)] s fun x2 s0 =>
  stp c .move [x0] s0 fun x7 s1 =>
  stp c (.lenB .l) [x7] s1 fun x8 s2 =>
  stp c (.bin .gtr .num) [x8, (.int .i64 200)] s2 fun x9 s3 =>
  cnd x9 (
    stp c (.callF 6) [] s3 fun cr s4 =>
    stp c .move [cr] s4 fun x2 s5 =>
    some (x2, s5)) (
    stp c .move [x0] s3 fun cJ s6 =>
  stp c (.callF 7) [cJ] s6 fun c9 s7 =>
  stp c .move [c9] s7 fun x3 s8 =>
  stp c .move [x3] s8 fun cT s9 =>
  stp c .move [x0] s9 fun dD dQ =>
  stp c (.callF 8) [dD] dQ fun eo cS =>
  stp c (.bin .neq .num) [cT, eo] cS fun eN eY =>
  cnd eN (
    stp c .move [(.bool false)] eY fun x2 eM =>
    some (x2, eM)) (
    stp c .move [x3] eY fun bh eZ =>
  stp c (.callF 9) [bh] eZ fun aY fE =>
  stp c .move [aY] fE fun dc eO =>
  stp c (.extract 0) [dc] eO fun bw eD =>
  stp c (.extract 1) [dc] eD fun ji e8 =>
  stp c (.extract 2) [dc] e8 fun gO gu =>
  stp c .move [bw] gu fun x4 kU =>
  stp c .move [ji] kU fun x5 kA =>
  stp c .move [gO] kA fun x6 jk =>
  stp c .move [x5] jk fun gP kV =>
  stp c (.bin .eql .num) [gP, (.int .i64 0)] kV fun gv jq =>
  stp c .move [gv] jq fun iQ jO =>
  gst c iQ true .move [x6] jO fun kW kY =>
  gst c iQ true (.bin .eql .num) [kW, (.int .i64 0)] kY fun kX iD =>
  stp c .pick [iQ, kX, (.bool false)] iD fun mP jP =>
  stp c .move [mP] jP fun fF jQ =>
  gst c fF true .move [x3] jQ fun mQ jr =>
  gst c fF true (.bin .eql .num) [mQ, (.str [])] jr fun mR jR =>
  gst c fF true .move [mR] jR fun kB kZ =>
  gst c kB false .move [x0] kZ fun iR k8 =>
  gst c kB false .move [x4] k8 fun mS k9 =>
  gst c kB false (.callF 10) [iR, mS] k9 fun mT kC =>
  gst c fF true .pick [kB, (.bool true), mT] kC fun mU ld =>
  stp c .pick [fF, mU, (.bool false)] ld fun mh mo =>
  stp c .move [mh] mo fun mj mz =>
  gst c mj true (.callF 6) [] mz fun mV lg =>
  stp c .pick [mj, mV, (.bool false)] lg fun mW mX =>
  stp c .move [mW] mX fun x2 mY =>
  some (x2, mY)))
theorem cU {c : CallA} (hc : Sem c) (F : Nat){x0 : AV} {s : St} {r : AV × St} (h : cC c F x0 s = some r) : c 3 [x0] s = some (tidy s r) := hc.lC (A := g3.getD default) (F := F) (s := (.seq none .leaf (.seq none (.seq none .leaf (.cond (.seq none .leaf .leaf) .leaf)) (.seq none .leaf (.seq none (.seq none .leaf (.cond (.seq none .leaf .leaf) .leaf)) (.seq none .leaf (.seq none .leaf .leaf))))))) (by kernel_rfl) (by kernel_rfl) (by kernel_rfl) (by kernel_rfl) h
def dr : AFunc := g7.getD default
def dU : Sh := (.seq none .leaf (.seq none (.seq none .leaf (.cond (.seq none .leaf .leaf) .leaf)) (.seq none .leaf (.seq none .leaf (.seq none (.seq none .leaf (.block (.loop 0 [(.o (.o .h)), (.i (.o .h)), (.i (.i (.o (.o .h)))), (.o (.o (.i (.o .h)))), (.i (.o (.i (.o .h))))] [(1, [(.i .h)]), (2, [(.o (.o .h))])] (.seq none .leaf (.seq none (.cond .leaf .leaf) (.seq (some [(.o (.o .h)), (.i (.o .h)), (.i (.i (.o (.o .h)))), (.o (.o (.i (.o .h)))), (.i (.o (.i (.o .h))))]) (.block (.seq none .leaf (.seq none .leaf (.seq none .leaf (.seq (some [(.o (.o .h)), (.i (.o .h)), (.i (.i .h)), (.o (.o (.o .h))), (.i (.o (.o .h))), (.i (.i (.o (.o .h)))), (.o (.o (.i (.o .h)))), (.i (.o (.i (.o .h))))]) (.seq none .leaf (.cond .leaf .leaf)) (.seq none .leaf (.seq none (.seq none .leaf (.block (.loop 1 [(.o (.o .h)), (.i (.o .h)), (.i (.i .h)), (.o (.o (.o .h))), (.i (.o (.o .h))), (.i (.i (.o (.o .h)))), (.o (.o (.i (.o .h)))), (.i (.o (.i (.o .h)))), (.i (.i (.o (.i (.i .h))))), (.o (.o (.i (.i (.i .h))))), (.i (.o (.i (.i (.i .h)))))] [(4, [(.o (.o .h)), (.i (.o .h)), (.i (.i .h)), (.o (.o (.o .h))), (.i (.o (.o .h))), (.i (.i (.o (.o .h)))), (.o (.o (.i (.o .h)))), (.i (.o (.i (.o .h))))])] (.seq none .leaf (.seq none (.cond .leaf .leaf) (.seq (some [(.o (.o .h)), (.i (.o .h)), (.i (.i .h)), (.o (.o (.o .h))), (.i (.o (.o .h))), (.i (.i (.o (.o .h)))), (.o (.o (.i (.o .h)))), (.i (.o (.i (.o .h)))), (.i (.i (.o (.i (.i .h))))), (.o (.o (.i (.i (.i .h))))), (.i (.o (.i (.i (.i .h)))))]) (.block (.seq none .leaf (.seq (some [(.o (.o .h)), (.i (.o .h)), (.i (.i .h)), (.o (.o (.o .h))), (.i (.o (.o .h))), (.i (.i (.o .h))), (.i (.i (.o (.o .h)))), (.o (.o (.i (.o .h)))), (.i (.o (.i (.o .h)))), (.i (.i (.o (.i (.i .h))))), (.o (.o (.i (.i (.i .h))))), (.i (.o (.i (.i (.i .h)))))]) (.seq none .leaf (.cond .leaf .leaf)) (.seq none .leaf (.cond .leaf .leaf))))) .leaf)))))) (.seq (some [(.o (.o .h)), (.i (.o .h)), (.i (.i .h)), (.i (.o (.o .h))), (.i (.i (.o (.o .h)))), (.o (.o (.i (.o .h)))), (.i (.o (.i (.o .h))))]) (.seq none .leaf (.cond .leaf .leaf)) (.seq none .leaf (.seq none (.seq none .leaf (.seq none .leaf (.cond (.seq none .leaf .leaf) .leaf))) .leaf)))))))))) .leaf)))))) (.seq none .leaf .leaf))))))
def bG (c : CallA) (F : Nat) (k4 : List AV -> St -> Option (AV × St)) : Nat -> List AV -> St -> Option (AV × St)
  | 0, _, _ => none
  | n + 1, vs, s => un1 vs fun x3 vs => un1 vs fun x4 vs => un1 vs fun x6 vs => un1 vs fun x7 vs => un1 vs fun x8 vs => un1 vs fun bh vs => un1 vs fun aY vs => un1 vs fun bw vs => un1 vs fun iU vs => un1 vs fun js vs => un1 vs fun ij vs => nl1 vs (
  stp c (.bin .lss .num) [ij, js] s fun sV pK =>
  cnd sV (
    jnn (fun j63 =>
    stp c (.idxA 2 none) [iU, ij] pK fun sX th =>
    stp c (.load (some 2)) [sX] th fun sY tj =>
    stp c (.alloc [(.bool false), (.str [])]) [] tj fun cr tq =>
    stp c (.store 2) [cr, sY] tq fun _ tu =>
    jnn (fun j69 =>
      stp c (.fieldA 0) [cr] tu fun td tB =>
      stp c (.load none) [td] tB fun mZ tD =>
      stp c .move [mZ] tD fun om tF =>
      gst c om true (.fieldA 1) [cr] tF fun tr tG =>
      gst c om true (.load none) [tr] tG fun tv qB =>
      gst c om true (.bin .eql .num) [tv, (.str [])] qB fun nc tJ =>
      stp c .pick [om, nc, (.bool false)] tJ fun tA qC =>
      cnd tA (
        stp c (.fieldA 1) [cr] qC fun tC tM =>
        stp c (.store 1) [tC, (.str [45])] tM fun _ tO =>
        j69 [x3, x4, x6, x7, x8, cr, bh, aY, bw, iU, js, ij] tO) (
        j69 [x3, x4, x6, x7, x8, cr, bh, aY, bw, iU, js, ij] qC))
    (fun vs yN => un1 vs fun x3 vs => un1 vs fun x4 vs => un1 vs fun x6 vs => un1 vs fun x7 vs => un1 vs fun x8 vs => un1 vs fun cr vs => un1 vs fun bh vs => un1 vs fun aY vs => un1 vs fun bw vs => un1 vs fun iU vs => un1 vs fun js vs => un1 vs fun ij vs => nl1 vs (
      stp c (.fieldA 0) [cr] yN fun tE tP =>
      stp c (.load none) [tE] tP fun jT qD =>
      cnd jT (
        stp c .move [x8] qD fun tH tS =>
        stp c (.fieldA 1) [cr] tS fun tI yO =>
        stp c (.load none) [tI] yO fun tK tU =>
        stp c (.buildSlice 1 1 [(.str [])] [0]) [tK] tU fun tL tW =>
        stp c (.append 1 16) [tH, tL] tW fun tN tY =>
        stp c .move [tN] tY fun x8 qE =>
        j63 [x3, x4, x6, x7, x8, bh, aY, bw, iU, js, ij] qE) (
        j63 [x3, x4, x6, x7, x8, bh, aY, bw, iU, js, ij] qD))))
  (fun vs sZ => un1 vs fun x3 vs => un1 vs fun x4 vs => un1 vs fun x6 vs => un1 vs fun x7 vs => un1 vs fun x8 vs => un1 vs fun bh vs => un1 vs fun aY vs => un1 vs fun bw vs => un1 vs fun iU vs => un1 vs fun js vs => un1 vs fun ij vs => nl1 vs (
    stp c (.bin .add .num) [ij, (.int .i64 1)] sZ fun iq ua =>
    stp c .move [iq] ua fun ij ue =>
    bG c F k4 n [x3, x4, x6, x7, x8, bh, aY, bw, iU, js, ij] ue))) (
    k4 [x3, x4, x6, x7, x8, bh, aY, bw] pK))
def bT (c : CallA) (F : Nat) (k1 k2 : List AV -> St -> Option (AV × St)) : Nat -> List AV -> St -> Option (AV × St)
  | 0, _, _ => none
  | n + 1, vs, s => un1 vs fun x3 vs => un1 vs fun x4 vs => un1 vs fun bh vs => un1 vs fun aY vs => un1 vs fun bw vs => nl1 vs (
  stp c (.bin .lss .num) [bw, aY] s fun ji cS =>
  cnd ji (
    jnn (fun j12 =>
    stp c (.idxA 6 none) [bh, bw] cS fun gO eZ =>
    stp c (.load (some 6)) [gO] eZ fun gP fE =>
    stp c (.alloc [(.int .u8 0), (.int .i64 0), (.str []), (.str []), (.str []), (.int .i64 0)]) [] fE fun x6 eO =>
    stp c (.store 6) [x6, gP] eO fun _ eD =>
    stp c .move [x4] eD fun gv e8 =>
    stp c (.fieldA 0) [x6] e8 fun iQ gu =>
    stp c (.load none) [iQ] gu fun kW kU =>
    stp c (.lookup .i (.agg [(.str []), (.int .u8 0), (.bool false), (.int .u8 0), (.bool false), (.int .i64 0), (.bool false), .nilf]) false) [gv, kW] kU fun kX kA =>
    stp c (.alloc [(.str []), (.int .u8 0), (.bool false), (.int .u8 0), (.bool false), (.int .i64 0), (.bool false), .nilf]) [] kA fun x7 jk =>
    stp c (.store 8) [x7, kX] jk fun _ kV =>
    stp c (.buildSlice 1 1 [(.str [])] [0]) [(.str [104, 97, 114, 100])] kV fun mP jq =>
    stp c .move [mP] jq fun x8 jO =>
    jnn (fun j26 =>
      stp c (.fieldA 1) [x6] jO fun fF jP =>
      stp c (.load none) [fF] jP fun mQ jQ =>
      stp c (.bin .gtr .num) [mQ, (.int .i64 0)] jQ fun mR jr =>
      cnd mR (
        stp c (.fieldA 1) [x6] jr fun kB jR =>
        stp c (.load none) [kB] jR fun iR kZ =>
        stp c (.callF 33) [iR] kZ fun mS k8 =>
        stp c (.buildSlice 1 2 [(.str [])] [0, 1]) [(.str [119, 101, 105, 103, 104]), mS] k8 fun mT k9 =>
        stp c .move [mT] k9 fun x8 kC =>
        j26 [x3, x4, x6, x7, x8, bh, aY, bw] kC) (
        j26 [x3, x4, x6, x7, x8, bh, aY, bw] jr))
    (fun vs iD => un1 vs fun x3 vs => un1 vs fun x4 vs => un1 vs fun x6 vs => un1 vs fun x7 vs => un1 vs fun x8 vs => un1 vs fun bh vs => un1 vs fun aY vs => un1 vs fun bw vs => nl1 vs (
      stp c .move [x8] iD fun mU ld =>
      stp c (.fieldA 0) [x7] ld fun mh mo =>
      stp c (.load none) [mh] mo fun mj mz =>
      stp c (.buildSlice 1 1 [(.str [])] [0]) [mj] mz fun mV lg =>
      stp c (.append 1 16) [mU, mV] lg fun mW mX =>
      stp c .move [mW] mX fun x8 mY =>
      stp c (.fieldA 1) [x7] mY fun gw pz =>
      stp c (.load none) [gw] pz fun pq pE =>
      stp c (.bin .neq .num) [pq, (.int .u8 0)] pE fun sA oe =>
      stp c (.fieldA 2) [x6] oe fun sB pF =>
      stp c (.load none) [sB] pF fun og pG =>
      stp c (.build [(.bool false), (.str [])] [(0, 1), (1, 1)]) [sA, og] pG fun jS pH =>
      stp c (.fieldA 2) [x7] pH fun sC pI =>
      stp c (.load none) [sC] pI fun sD pJ =>
      stp c (.fieldA 3) [x6] pJ fun sF sG =>
      stp c (.load none) [sF] sG fun oh qA =>
      stp c (.build [(.bool false), (.str [])] [(0, 1), (1, 1)]) [sD, oh] qA fun sH sJ =>
      stp c (.fieldA 3) [x7] sJ fun sI sK =>
      stp c (.load none) [sI] sK fun iT sM =>
      stp c (.bin .neq .num) [iT, (.int .u8 0)] sM fun sL sO =>
      stp c (.fieldA 4) [x6] sO fun sN sQ =>
      stp c (.load none) [sN] sQ fun sP sR =>
      stp c (.build [(.bool false), (.str [])] [(0, 1), (1, 1)]) [sL, sP] sR fun lp sS =>
      stp c (.buildSlice 2 3 [(.bool false), (.str [])] [0, 1, 2]) [jS, sH, lp] sS fun iU yL =>
      stp c (.lenB .l) [iU] yL fun js sU =>
      stp c .move [(.int .i64 0)] sU fun ij sW =>
      bG c F (fun vs ug => un1 vs fun x3 vs => un1 vs fun x4 vs => un1 vs fun x6 vs => un1 vs fun x7 vs => un1 vs fun x8 vs => un1 vs fun bh vs => un1 vs fun aY vs => un1 vs fun bw vs => nl1 vs (
        jnn (fun j91 =>
        stp c (.fieldA 4) [x7] ug fun tQ uj =>
        stp c (.load none) [tQ] uj fun tR pM =>
        cnd tR (
          stp c .move [x8] pM fun lq zk =>
          stp c (.fieldA 5) [x6] zk fun tT uk =>
          stp c (.load none) [tT] uk fun tV um =>
          stp c (.callF 33) [tV] um fun tX uo =>
          stp c (.buildSlice 1 1 [(.str [])] [0]) [tX] uo fun tZ uq =>
          stp c (.append 1 16) [lq, tZ] uq fun jU oG =>
          stp c .move [jU] oG fun x8 lT =>
          j91 [x3, x4, x6, x8, bh, aY, bw] lT) (
          j91 [x3, x4, x6, x8, bh, aY, bw] pM))
      (fun vs uh => un1 vs fun x3 vs => un1 vs fun x4 vs => un1 vs fun x6 vs => un1 vs fun x8 vs => un1 vs fun bh vs => un1 vs fun aY vs => un1 vs fun bw vs => nl1 vs (
        stp c .move [x8] uh fun ud lU =>
        stp c (.callF 34) [ud, (.str [32])] lU fun uf lV =>
        stp c (.bin .add .num) [uf, (.str [10])] lV fun pL lX =>
        stp c .move [pL] lX fun cJ uw =>
        stp c .move [cJ] uw fun yQ ux =>
        stp c (.callF 35) [yQ] ux fun yR uz =>
        stp c .move [yR] uz fun wo uA =>
        stp c (.extract 0) [wo] uA fun yS uB =>
        stp c (.extract 1) [wo] uB fun yT uC =>
        stp c (.alloc [(.int .u8 0), (.int .i64 0), (.str []), (.str []), (.str []), (.int .i64 0)]) [] uC fun c9 uD =>
        stp c (.store 6) [c9, yS] uD fun _ qf =>
        stp c .move [yT] qf fun cT AQ =>
        stp c .move [cT] AQ fun yU AR =>
        stp c (.bin .neq .num) [yU, (.int .i64 0)] AR fun ng AS =>
        stp c .move [ng] AS fun qF xD =>
        gst c qF false (.load (some 6)) [c9] xD fun yV AT =>
        gst c qF false (.load (some 6)) [x6] AT fun ur AU =>
        gst c qF false (.bin .neq (.struct [(0, .i), (1, .i), (2, .s), (3, .s), (4, .s), (5, .i)])) [yV, ur] AU fun uu AW =>
        stp c .pick [qF, (.bool true), uu] AW fun lW xE =>
        cnd lW (
          stp c .move [(.str [])] xE fun x2 AX =>
          k1 [x2] AX) (
          stp c .move [cJ] xE fun uv AY =>
        stp c (.callF 36) [x3, uv] AY fun xj AZ =>
        j12 [x3, x4, bh, aY, bw] AZ))))) F [x3, x4, x6, x7, x8, bh, aY, bw, iU, js, ij] sW)))
  (fun vs eM => un1 vs fun x3 vs => un1 vs fun x4 vs => un1 vs fun bh vs => un1 vs fun aY vs => un1 vs fun bw vs => nl1 vs (
    stp c (.bin .add .num) [bw, (.int .i64 1)] eM fun uy A3 =>
    stp c .move [uy] A3 fun bw A4 =>
    bT c F k1 k2 n [x3, x4, bh, aY, bw] A4))) (
    k2 [x3] cS))
def gq (c : CallA) (F : Nat) (x0 : AV) (s : St) : Option (AV × St) :=
  stp c .move [(.str [])] s fun x2 s0 =>
  stp c .move [x0] s0 fun dD s1 =>
  stp c (.lenB .l) [dD] s1 fun eo s2 =>
  stp c (.bin .gtr .num) [eo, (.int .i64 64)] s2 fun eN s3 =>
  cnd eN (
    stp c .move [(.str [])] s3 fun x2 s4 =>
    some (x2, s4)) (
    stp c (.allocT 81 [.nilp, .nils]) [] s3 fun x3 s5 =>
  stp c (.callF 32) [] s5 fun dc s6 =>
  stp c .move [dc] s6 fun x4 s7 =>
  stp c .move [x0] s7 fun bh s8 =>
  stp c (.lenB .l) [bh] s8 fun aY s9 =>
  stp c .move [(.int .i64 0)] s9 fun bw dQ =>
  bT c F (fun vs sr => un1 vs fun x2 vs => nl1 vs (
    some (x2, sr))) (fun vs su => un1 vs fun x3 vs => nl1 vs (
    stp c (.callF 37) [x3] su fun iG sw =>
  stp c .move [iG] sw fun x2 sx =>
  some (x2, sx))) F [x3, x4, bh, aY, bw] dQ)
def gG (c : CallA) (F : Nat) : Env (AV × St) := envOf [(0, fun K n => bT c F (K 1) (K 2) n), (1, fun K n => bG c F (K 4) n)]
theorem qi (c : CallA) (F : Nat) : GoodL c F (gG c F) (lpAt dr dU 0).1 (lpAt dr dU 0).2 := good_mk (j := 0) (ins := [(.o (.o .h)), (.i (.o .h)), (.i (.i (.o (.o .h)))), (.o (.o (.i (.o .h)))), (.i (.o (.i (.o .h))))]) (outs := [(1, [(.i .h)]), (2, [(.o (.o .h))])]) (s := (.seq none .leaf (.seq none (.cond .leaf .leaf) (.seq (some [(.o (.o .h)), (.i (.o .h)), (.i (.i (.o (.o .h)))), (.o (.o (.i (.o .h)))), (.i (.o (.i (.o .h))))]) (.block (.seq none .leaf (.seq none .leaf (.seq none .leaf (.seq (some [(.o (.o .h)), (.i (.o .h)), (.i (.i .h)), (.o (.o (.o .h))), (.i (.o (.o .h))), (.i (.i (.o (.o .h)))), (.o (.o (.i (.o .h)))), (.i (.o (.i (.o .h))))]) (.seq none .leaf (.cond .leaf .leaf)) (.seq none .leaf (.seq none (.seq none .leaf (.block (.loop 1 [(.o (.o .h)), (.i (.o .h)), (.i (.i .h)), (.o (.o (.o .h))), (.i (.o (.o .h))), (.i (.i (.o (.o .h)))), (.o (.o (.i (.o .h)))), (.i (.o (.i (.o .h)))), (.i (.i (.o (.i (.i .h))))), (.o (.o (.i (.i (.i .h))))), (.i (.o (.i (.i (.i .h)))))] [(4, [(.o (.o .h)), (.i (.o .h)), (.i (.i .h)), (.o (.o (.o .h))), (.i (.o (.o .h))), (.i (.i (.o (.o .h)))), (.o (.o (.i (.o .h)))), (.i (.o (.i (.o .h))))])] (.seq none .leaf (.seq none (.cond .leaf .leaf) (.seq (some [(.o (.o .h)), (.i (.o .h)), (.i (.i .h)), (.o (.o (.o .h))), (.i (.o (.o .h))), (.i (.i (.o (.o .h)))), (.o (.o (.i (.o .h)))), (.i (.o (.i (.o .h)))), (.i (.i (.o (.i (.i .h))))), (.o (.o (.i (.i (.i .h))))), (.i (.o (.i (.i (.i .h)))))]) (.block (.seq none .leaf (.seq (some [(.o (.o .h)), (.i (.o .h)), (.i (.i .h)), (.o (.o (.o .h))), (.i (.o (.o .h))), (.i (.i (.o .h))), (.i (.i (.o (.o .h)))), (.o (.o (.i (.o .h)))), (.i (.o (.i (.o .h)))), (.i (.i (.o (.i (.i .h))))), (.o (.o (.i (.i (.i .h))))), (.i (.o (.i (.i (.i .h)))))]) (.seq none .leaf (.cond .leaf .leaf)) (.seq none .leaf (.cond .leaf .leaf))))) .leaf)))))) (.seq (some [(.o (.o .h)), (.i (.o .h)), (.i (.i .h)), (.i (.o (.o .h))), (.i (.i (.o (.o .h)))), (.o (.o (.i (.o .h)))), (.i (.o (.i (.o .h))))]) (.seq none .leaf (.cond .leaf .leaf)) (.seq none .leaf (.seq none (.seq none .leaf (.seq none .leaf (.cond (.seq none .leaf .leaf) .leaf))) .leaf)))))))))) .leaf)))) (by kernel_rfl) (fun _ _ _ => by kernel_rfl) (fun _ _ _ _ => by kernel_rfl)
theorem qj (c : CallA) (F : Nat) : GoodL c F (gG c F) (lpAt dr dU 1).1 (lpAt dr dU 1).2 := good_mk (j := 1) (ins := [(.o (.o .h)), (.i (.o .h)), (.i (.i .h)), (.o (.o (.o .h))), (.i (.o (.o .h))), (.i (.i (.o (.o .h)))), (.o (.o (.i (.o .h)))), (.i (.o (.i (.o .h)))), (.i (.i (.o (.i (.i .h))))), (.o (.o (.i (.i (.i .h))))), (.i (.o (.i (.i (.i .h)))))]) (outs := [(4, [(.o (.o .h)), (.i (.o .h)), (.i (.i .h)), (.o (.o (.o .h))), (.i (.o (.o .h))), (.i (.i (.o (.o .h)))), (.o (.o (.i (.o .h)))), (.i (.o (.i (.o .h))))])]) (s := (.seq none .leaf (.seq none (.cond .leaf .leaf) (.seq (some [(.o (.o .h)), (.i (.o .h)), (.i (.i .h)), (.o (.o (.o .h))), (.i (.o (.o .h))), (.i (.i (.o (.o .h)))), (.o (.o (.i (.o .h)))), (.i (.o (.i (.o .h)))), (.i (.i (.o (.i (.i .h))))), (.o (.o (.i (.i (.i .h))))), (.i (.o (.i (.i (.i .h)))))]) (.block (.seq none .leaf (.seq (some [(.o (.o .h)), (.i (.o .h)), (.i (.i .h)), (.o (.o (.o .h))), (.i (.o (.o .h))), (.i (.i (.o .h))), (.i (.i (.o (.o .h)))), (.o (.o (.i (.o .h)))), (.i (.o (.i (.o .h)))), (.i (.i (.o (.i (.i .h))))), (.o (.o (.i (.i (.i .h))))), (.i (.o (.i (.i (.i .h)))))]) (.seq none .leaf (.cond .leaf .leaf)) (.seq none .leaf (.cond .leaf .leaf))))) .leaf)))) (by kernel_rfl) (fun _ _ _ => by kernel_rfl) (fun _ _ _ _ => by kernel_rfl)
theorem ri (c : CallA) (F : Nat) : ∀ x ∈ loopsOf dr.code dU, GoodL c F (gG c F) x.1 x.2 := good_all 2 (by kernel_rfl) fun i hi => match i, hi with | 0, _ => qi c F | 1, _ => qj c F | n + 2, h => absurd h (by omega)
theorem rj (c : CallA) (F : Nat) (x0 : AV) (s : St) : denF c F (gG c F) dr dU [x0] s = gq c F x0 s := by kernel_rfl
theorem ku {c : CallA} (hc : Sem c) (F : Nat){x0 : AV} {s : St} {r : AV × St} (h : gq c F x0 s = some r) : c 7 [x0] s = some (tidy s r) := hc.of (A := dr) (by kernel_rfl) (by kernel_rfl) (ri _ F) (by rw [rj]; exact h)
def ct : AFunc := g8.getD default
def dh : Sh := (.seq none .leaf (.seq none (.seq none .leaf (.cond (.seq none .leaf .leaf) .leaf)) (.seq none .leaf (.seq none (.seq none .leaf (.block (.loop 0 [.h, (.o (.o .h)), (.i (.o .h))] [(1, [(.i .h)]), (2, [(.o (.o .h))])] (.seq none (.seq none .leaf (.cond .leaf .leaf)) (.seq (some [.h, (.o (.o .h)), (.i (.o .h))]) (.block (.seq none .leaf (.seq none (.seq none .leaf (.cond (.seq none .leaf .leaf) .leaf)) (.seq (some [.h, (.o (.o .h)), (.i (.o .h)), (.o (.i .h))]) (.seq none .leaf (.cond .leaf .leaf)) (.seq (some [.h, (.o (.o .h)), (.i (.o .h)), (.o (.i .h))]) (.seq none .leaf (.cond .leaf .leaf)) (.seq (some [.h, (.o (.o .h)), (.i (.o .h)), (.o (.i .h))]) (.seq none .leaf (.cond .leaf .leaf)) (.seq (some [.h, (.o (.o .h)), (.i (.o .h)), (.o (.i .h))]) (.seq none .leaf (.cond .leaf .leaf)) (.seq (some [.h, (.o (.o .h)), (.i (.o .h))]) (.seq none .leaf (.cond .leaf .leaf)) .leaf)))))))) .leaf))))) (.seq none .leaf .leaf)))))
def aL (c : CallA) (F : Nat) (k1 k2 : List AV -> St -> Option (AV × St)) : Nat -> List AV -> St -> Option (AV × St)
  | 0, _, _ => none
  | n + 1, vs, s => un1 vs fun x0 vs => un1 vs fun x3 vs => un1 vs fun x4 vs => nl1 vs (
  stp c .move [x4] s fun x9 s7 =>
  stp c .move [x0] s7 fun cr s8 =>
  stp c (.lenB .l) [cr] s8 fun cJ s9 =>
  stp c (.bin .lss .num) [x9, cJ] s9 fun c9 dQ =>
  cnd c9 (
    jnn (fun j11 =>
    stp c .move [x0] dQ fun eo eM =>
    stp c .move [x4] eM fun eN eZ =>
    stp c (.idxA 6 none) [eo, eN] eZ fun dc fE =>
    stp c (.load (some 6)) [dc] fE fun bh eO =>
    stp c (.alloc [(.int .u8 0), (.int .i64 0), (.str []), (.str []), (.str []), (.int .i64 0)]) [] eO fun x5 eD =>
    stp c (.store 6) [x5, bh] eD fun _ e8 =>
    stp c (.load (some 6)) [x5] e8 fun aY gu =>
    stp c (.callF 38) [aY] gu fun bw kU =>
    stp c (.un .not) [bw] kU fun ji kA =>
    cnd ji (
      stp c .move [(.str [])] kA fun x2 jk =>
      k1 [x2] jk) (
      jnn (fun j23 =>
      stp c (.fieldA 1) [x5] kA fun gO jO =>
      stp c (.load none) [gO] jO fun gP kY =>
      stp c (.bin .eql .num) [gP, (.int .i64 0)] kY fun gv iD =>
      cnd gv (
        stp c .move [x3] iD fun iQ jP =>
        stp c (.fieldA 0) [x5] jP fun kW jQ =>
        stp c (.load none) [kW] jQ fun kX jr =>
        stp c (.callF 39) [kX] jr fun mP jR =>
        stp c (.bin .add .num) [(.str [104, 97, 114, 100, 32]), mP] jR fun fF kZ =>
        stp c (.bin .add .num) [iQ, fF] kZ fun mQ k8 =>
        stp c .move [mQ] k8 fun x3 k9 =>
        j23 [x0, x3, x4, x5] k9) (
        prr (.fieldA 1) [x5] fun kB =>
        rdd (.load none) [kB] iD.heap (fun _ => true) fun iR =>
        stp c (.callF 40) [iR] iD fun mS kC =>
        prr (.fieldA 0) [x5] fun mh =>
        rdd (.load none) [mh] kC.heap (fun v => readsAs (.load none) [mh] v (putUp [] iD.heap) && true) fun mj =>
        stp c (.callF 39) [mj] kC fun mV ld =>
        prr .move [x3] fun mR =>
        prr (.bin .add .num) [(.str [119, 101, 105, 103, 104, 32]), mS] fun mT =>
        prr (.bin .add .num) [mT, (.str [32])] fun mU =>
        prr (.bin .add .num) [mU, mV] fun mW =>
        prr (.bin .add .num) [mR, mW] fun gw =>
        prr .move [gw] fun x3 =>
        j23 [x0, x3, x4, x5] ld))
    (fun vs jq => un1 vs fun x0 vs => un1 vs fun x3 vs => un1 vs fun x4 vs => un1 vs fun x5 vs => nl1 vs (
      jnn (fun j37 =>
        stp c (.fieldA 0) [x5] jq fun pq lg =>
        stp c (.load none) [pq] lg fun sA mX =>
        stp c (.callF 41) [sA] mX fun sB mY =>
        stp c .move [sB] mY fun og pz =>
        gst c og false (.fieldA 0) [x5] pz fun jS pE =>
        gst c og false (.load none) [jS] pE fun sC oe =>
        gst c og false (.callF 42) [sC] oe fun sD pF =>
        stp c .pick [og, (.bool true), sD] pF fun sF pG =>
        stp c .move [sF] pG fun oh pH =>
        gst c oh false (.fieldA 0) [x5] pH fun sH pI =>
        gst c oh false (.load none) [sH] pI fun sI pJ =>
        gst c oh false (.bin .eql .num) [sI, (.int .u8 17)] pJ fun iT sG =>
        stp c .pick [oh, (.bool true), iT] sG fun sL qA =>
        cnd sL (
          stp c .move [x3] qA fun sN sJ =>
          stp c (.fieldA 2) [x5] sJ fun sP sK =>
          stp c (.load none) [sP] sK fun lp sM =>
          stp c (.callF 43) [lp] sM fun iU sO =>
          stp c (.bin .add .num) [(.str [32]), iU] sO fun js sQ =>
          stp c (.bin .add .num) [sN, js] sQ fun ij sR =>
          stp c .move [ij] sR fun x3 sS =>
          j37 [x0, x3, x4, x5] sS) (
          j37 [x0, x3, x4, x5] qA))
      (fun vs mz => un1 vs fun x0 vs => un1 vs fun x3 vs => un1 vs fun x4 vs => un1 vs fun x5 vs => nl1 vs (
        jnn (fun j59 =>
          stp c (.fieldA 0) [x5] mz fun sV sW =>
          stp c (.load none) [sV] sW fun sX pK =>
          stp c (.callF 41) [sX] pK fun sY BV =>
          cnd sY (
            stp c .move [x3] BV fun td sZ =>
            stp c (.fieldA 3) [x5] sZ fun mZ th =>
            stp c (.load none) [mZ] th fun om tj =>
            stp c (.bin .add .num) [(.str [32]), om] tj fun tr tq =>
            stp c (.bin .add .num) [td, tr] tq fun tv tu =>
            stp c .move [tv] tu fun x3 yM =>
            j59 [x0, x3, x4, x5] yM) (
            j59 [x0, x3, x4, x5] BV))
        (fun vs sU => un1 vs fun x0 vs => un1 vs fun x3 vs => un1 vs fun x4 vs => un1 vs fun x5 vs => nl1 vs (
          jnn (fun j70 =>
            stp c (.fieldA 0) [x5] sU fun nc tD =>
            stp c (.load none) [nc] tD fun tA tF =>
            stp c (.callF 44) [tA] tF fun tC tG =>
            stp c (.bin .gtr .num) [tC, (.int .i64 0)] tG fun tE qB =>
            cnd tE (
              stp c .move [x3] qB fun jT tJ =>
              stp c (.fieldA 4) [x5] tJ fun tH qC =>
              stp c (.load none) [tH] qC fun tI tM =>
              stp c (.callF 43) [tI] tM fun tK tO =>
              stp c (.bin .add .num) [(.str [32]), tK] tO fun tL tP =>
              stp c (.bin .add .num) [jT, tL] tP fun tN qD =>
              stp c .move [tN] qD fun x3 tS =>
              j70 [x0, x3, x4, x5] tS) (
              j70 [x0, x3, x4, x5] qB))
          (fun vs tB => un1 vs fun x0 vs => un1 vs fun x3 vs => un1 vs fun x4 vs => un1 vs fun x5 vs => nl1 vs (
            jnn (fun j83 =>
              stp c (.fieldA 0) [x5] tB fun iq tW =>
              stp c (.load none) [iq] tW fun tQ tY =>
              stp c (.callF 45) [tQ] tY fun tR qE =>
              cnd tR (
                stp c .move [x3] qE fun lq ua =>
                stp c (.fieldA 5) [x5] ua fun tT ue =>
                stp c (.load none) [tT] ue fun tV ug =>
                stp c (.callF 40) [tV] ug fun tX yP =>
                stp c (.bin .add .num) [(.str [32]), tX] yP fun tZ uh =>
                stp c (.bin .add .num) [lq, tZ] uh fun jU uj =>
                stp c .move [jU] uj fun x3 pM =>
                j83 [x0, x3, x4] pM) (
                j83 [x0, x3, x4] qE))
            (fun vs tU => un1 vs fun x0 vs => un1 vs fun x3 vs => un1 vs fun x4 vs => nl1 vs (
              stp c .move [x3] tU fun ud zk =>
              stp c (.bin .add .num) [ud, (.str [10])] zk fun uf uk =>
              stp c .move [uf] uk fun x3 um =>
              j11 [x0, x3, x4] um))))))))))))
  (fun vs eY => un1 vs fun x0 vs => un1 vs fun x3 vs => un1 vs fun x4 vs => nl1 vs (
    stp c .move [x4] eY fun cT uo =>
    stp c (.bin .add .num) [cT, (.int .i64 1)] uo fun dD uq =>
    stp c .move [dD] uq fun x4 oG =>
    aL c F k1 k2 n [x0, x3, x4] oG))) (
    k2 [x3] dQ))
def cE (c : CallA) (F : Nat) (x0 : AV) (s : St) : Option (AV × St) :=
  stp c .move [(.str [])] s fun x2 s0 =>
  stp c .move [x0] s0 fun x6 s1 =>
  stp c (.lenB .l) [x6] s1 fun x7 s2 =>
  stp c (.bin .gtr .num) [x7, (.int .i64 64)] s2 fun x8 s3 =>
  cnd x8 (
    stp c .move [(.str [])] s3 fun x2 s4 =>
    some (x2, s4)) (
    stp c .move [(.str [])] s3 fun x3 s5 =>
  stp c .move [(.int .i64 0)] s5 fun x4 s6 =>
  aL c F (fun vs lT => un1 vs fun x2 vs => nl1 vs (
    some (x2, lT))) (fun vs lU => un1 vs fun x3 vs => nl1 vs (
    stp c .move [x3] lU fun pL lV =>
  stp c .move [pL] lV fun x2 lX =>
  some (x2, lX))) F [x0, x3, x4] s6)
def eR (c : CallA) (F : Nat) : Env (AV × St) := envOf [(0, fun K n => aL c F (K 1) (K 2) n)]
theorem kJ (c : CallA) (F : Nat) : GoodL c F (eR c F) (lpAt ct dh 0).1 (lpAt ct dh 0).2 := good_mk (j := 0) (ins := [.h, (.o (.o .h)), (.i (.o .h))]) (outs := [(1, [(.i .h)]), (2, [(.o (.o .h))])]) (s := (.seq none (.seq none .leaf (.cond .leaf .leaf)) (.seq (some [.h, (.o (.o .h)), (.i (.o .h))]) (.block (.seq none .leaf (.seq none (.seq none .leaf (.cond (.seq none .leaf .leaf) .leaf)) (.seq (some [.h, (.o (.o .h)), (.i (.o .h)), (.o (.i .h))]) (.seq none .leaf (.cond .leaf .leaf)) (.seq (some [.h, (.o (.o .h)), (.i (.o .h)), (.o (.i .h))]) (.seq none .leaf (.cond .leaf .leaf)) (.seq (some [.h, (.o (.o .h)), (.i (.o .h)), (.o (.i .h))]) (.seq none .leaf (.cond .leaf .leaf)) (.seq (some [.h, (.o (.o .h)), (.i (.o .h)), (.o (.i .h))]) (.seq none .leaf (.cond .leaf .leaf)) (.seq (some [.h, (.o (.o .h)), (.i (.o .h))]) (.seq none .leaf (.cond .leaf .leaf)) .leaf)))))))) .leaf))) (by kernel_rfl) (fun _ _ _ => by kernel_rfl) (fun _ _ _ _ => by kernel_rfl)
theorem lD (c : CallA) (F : Nat) : ∀ x ∈ loopsOf ct.code dh, GoodL c F (eR c F) x.1 x.2 := good_all 1 (by kernel_rfl) fun i hi => match i, hi with | 0, _ => kJ c F | n + 1, h => absurd h (by omega)
theorem lF (c : CallA) (F : Nat) (x0 : AV) (s : St) : denF c F (eR c F) ct dh [x0] s = cE c F x0 s := by kernel_rfl
theorem fZ {c : CallA} (hc : Sem c) (F : Nat){x0 : AV} {s : St} {r : AV × St} (h : cE c F x0 s = some r) : c 8 [x0] s = some (tidy s r) := hc.of (A := ct) (by kernel_rfl) (by kernel_rfl) (lD _ F) (by rw [lF]; exact h)
def b8 : AFunc := g10.getD default
def cN : Sh := (.seq none .leaf (.seq none (.seq none .leaf (.cond (.seq none .leaf .leaf) .leaf)) (.seq none (.seq none .leaf (.block (.loop 0 [.h, (.o .h), (.o (.i .h))] [(1, [(.i (.o .h))]), (2, [])] (.seq none (.seq none .leaf (.cond .leaf .leaf)) (.seq none (.block (.seq none .leaf (.cond (.seq none .leaf .leaf) .leaf))) .leaf))))) (.seq none .leaf .leaf))))
def bB (c : CallA) (F : Nat) (k1 k2 : List AV -> St -> Option (AV × St)) : Nat -> List AV -> St -> Option (AV × St)
  | 0, _, _ => none
  | n + 1, vs, s => un1 vs fun x0 vs => un1 vs fun x1 vs => un1 vs fun x5 vs => nl1 vs (
  stp c .move [x5] s fun cJ s8 =>
  stp c .move [x0] s8 fun c9 s9 =>
  stp c (.lenB .l) [c9] s9 fun cT dQ =>
  stp c (.bin .lss .num) [cJ, cT] dQ fun dD cS =>
  cnd dD (
    prr .move [x0] fun dc =>
  prr .move [x5] fun bh =>
  prr (.idxA 6 none) [dc, bh] fun aY =>
  rdd (.load (some 6)) [aY] cS.heap (fun _ => true) fun bw =>
  prr .move [x1] fun ji =>
  prr .move [x5] fun gO =>
  prr (.idxA 6 none) [ji, gO] fun gP =>
  rdd (.load (some 6)) [gP] cS.heap (fun _ => true) fun gv =>
  prr (.bin .neq (.struct [(0, .i), (1, .i), (2, .s), (3, .s), (4, .s), (5, .i)])) [bw, gv] fun iQ =>
  cnd iQ (
    stp c .move [(.bool false)] cS fun x4 eY =>
    k1 [x4] eY) (
    stp c .move [x5] cS fun eo eM =>
  stp c (.bin .add .num) [eo, (.int .i64 1)] eM fun eN eZ =>
  stp c .move [eN] eZ fun x5 fE =>
  bB c F k1 k2 n [x0, x1, x5] fE)) (
    k2 [] cS))
def fo (c : CallA) (F : Nat) (x0 x1 : AV) (s : St) : Option (AV × St) :=
  stp c .move [(.bool false)] s fun x4 s0 =>
  stp c .move [x0] s0 fun x6 s1 =>
  stp c (.lenB .l) [x6] s1 fun x7 s2 =>
  stp c .move [x1] s2 fun x8 s3 =>
  stp c (.lenB .l) [x8] s3 fun x9 s4 =>
  stp c (.bin .neq .num) [x7, x9] s4 fun cr s5 =>
  cnd cr (
    stp c .move [(.bool false)] s5 fun x4 s6 =>
    some (x4, s6)) (
    stp c .move [(.int .i64 0)] s5 fun x5 s7 =>
  bB c F (fun vs eO => un1 vs fun x4 vs => nl1 vs (
    some (x4, eO))) (fun vs eD => nl1 vs (
    stp c .move [(.bool true)] eD fun x4 e8 =>
  some (x4, e8))) F [x0, x1, x5] s7)
def ey (c : CallA) (F : Nat) : Env (AV × St) := envOf [(0, fun K n => bB c F (K 1) (K 2) n)]
theorem ke (c : CallA) (F : Nat) : GoodL c F (ey c F) (lpAt b8 cN 0).1 (lpAt b8 cN 0).2 := good_mk (j := 0) (ins := [.h, (.o .h), (.o (.i .h))]) (outs := [(1, [(.i (.o .h))]), (2, [])]) (s := (.seq none (.seq none .leaf (.cond .leaf .leaf)) (.seq none (.block (.seq none .leaf (.cond (.seq none .leaf .leaf) .leaf))) .leaf))) (by kernel_rfl) (fun _ _ _ => by kernel_rfl) (fun _ _ _ _ => by kernel_rfl)
theorem kK (c : CallA) (F : Nat) : ∀ x ∈ loopsOf b8.code cN, GoodL c F (ey c F) x.1 x.2 := good_all 1 (by kernel_rfl) fun i hi => match i, hi with | 0, _ => ke c F | n + 1, h => absurd h (by omega)
theorem kL (c : CallA) (F : Nat) (x0 x1 : AV) (s : St) : denF c F (ey c F) b8 cN [x0, x1] s = fo c F x0 x1 s := by kernel_rfl
theorem jX {c : CallA} (hc : Sem c) (F : Nat){x0 x1 : AV} {s : St} {r : AV × St} (h : fo c F x0 x1 s = some r) : c 10 [x0, x1] s = some (tidy s r) := hc.of (A := b8) (by kernel_rfl) (by kernel_rfl) (kK _ F) (by rw [kL]; exact h)
def eX (c : CallA) (F : Nat) (x0 x1 : AV) (s : St) : Option (AV × St) :=
  stp c .move [(.int .i64 0)] s fun x4 s0 =>
  stp c .move [.nili] s0 fun x5 s1 =>
  stp c .move [x0] s1 fun x6 s2 =>
  stp c (.callF 105) [x6] s2 fun x7 s3 =>
  stp c .move [x0] s3 fun x8 s4 =>
  stp c .move [x0] s4 fun x9 s5 =>
  stp c .nilCheck [x9] s5 fun cr s6 =>
  stp c (.fieldA 1) [cr] s6 fun cJ s7 =>
  stp c (.load none) [cJ] s7 fun c9 s8 =>
  stp c .move [x1] s8 fun cT s9 =>
  stp c (.appendT 5 1) [c9, cT] s9 fun dD dQ =>
  stp c .nilCheck [x8] dQ fun eo cS =>
  stp c (.fieldA 1) [eo] cS fun eN eY =>
  stp c (.store 1) [eN, dD] eY fun _ eM =>
  stp c .move [x1] eM fun dc eZ =>
  stp c (.lenB .s) [dc] eZ fun bh fE =>
  stp c .move [bh] fE fun x4 eO =>
  stp c .move [.nili] eO fun x5 eD =>
  some (.tuple [x4, x5], eD)
theorem gR {c : CallA} (hc : Sem c) (F : Nat){x0 x1 : AV} {s : St} {r : AV × St} (h : eX c F x0 x1 s = some r) : c 36 [x0, x1] s = some (tidy s r) := hc.lC (A := g36.getD default) (F := F) (s := (.seq none .leaf (.seq none .leaf (.seq none .leaf (.seq none .leaf .leaf))))) (by kernel_rfl) (by kernel_rfl) (by kernel_rfl) (by kernel_rfl) h
def ew (c : CallA) (F : Nat) (x0 : AV) (s : St) : Option (AV × St) :=
  stp c .move [(.str [])] s fun x2 s0 =>
  prr .move [x0] fun x3 =>
  prr .nilCheck [x3] fun x4 =>
  prr (.fieldA 1) [x4] fun x5 =>
  rdd (.load none) [x5] s0.heap (fun _ => true) fun x6 =>
  prr .sliceData [x6] fun x7 =>
  prr .move [x0] fun x8 =>
  prr .nilCheck [x8] fun x9 =>
  prr (.fieldA 1) [x9] fun cr =>
  rdd (.load none) [cr] s0.heap (fun _ => true) fun cJ =>
  prr (.lenB .l) [cJ] fun c9 =>
  stp c (.unsafeStr 5) [x7, c9] s0 fun cT s1 =>
  prr .move [cT] fun x2 =>
  some (x2, s1)
theorem fD {c : CallA} (hc : Sem c) (F : Nat){x0 : AV} {s : St} {r : AV × St} (h : ew c F x0 s = some r) : c 37 [x0] s = some (tidy s r) := hc.lC (A := g37.getD default) (F := F) (s := (.seq none .leaf (.seq none .leaf .leaf))) (by kernel_rfl) (by kernel_rfl) (by kernel_rfl) (by kernel_rfl) h
def jt (c : CallA) (F : Nat) (x0 : AV) (s : St) : Option (AV × St) :=
  stp c .box [x0] s fun x1 s0 =>
  stp c .move [(.bool false)] s0 fun x2 s1 =>
  stp c (.fieldA 0) [x1] s1 fun x4 s2 =>
  stp c (.load none) [x4] s2 fun x5 s3 =>
  stp c .move [x5] s3 fun x3 s4 =>
  stp c .move [x3] s4 fun x6 s5 =>
  stp c (.callF 39) [x6] s5 fun x7 s6 =>
  stp c (.bin .eql .num) [x7, (.str [])] s6 fun x8 s7 =>
  stp c .move [x8] s7 fun x9 s8 =>
  gst c x9 false (.fieldA 1) [x1] s8 fun cr s9 =>
  gst c x9 false (.load none) [cr] s9 fun cJ dQ =>
  gst c x9 false (.bin .lss .num) [cJ, (.int .i64 0)] dQ fun c9 cS =>
  stp c .pick [x9, (.bool true), c9] cS fun cT eY =>
  stp c .move [cT] eY fun dD eM =>
  gst c dD false (.fieldA 1) [x1] eM fun eo eZ =>
  gst c dD false (.load none) [eo] eZ fun eN fE =>
  gst c dD false (.bin .gtr .num) [eN, (.int .i64 1000)] fE fun dc eO =>
  stp c .pick [dD, (.bool true), dc] eO fun bh eD =>
  stp c .move [bh] eD fun aY e8 =>
  gst c aY false (.fieldA 5) [x1] e8 fun bw gu =>
  gst c aY false (.load none) [bw] gu fun ji kU =>
  gst c aY false (.bin .lss .num) [ji, (.int .i64 0)] kU fun gO kA =>
  stp c .pick [aY, (.bool true), gO] kA fun gP jk =>
  stp c .move [gP] jk fun gv kV =>
  gst c gv false (.fieldA 5) [x1] kV fun iQ jq =>
  gst c gv false (.load none) [iQ] jq fun kW jO =>
  gst c gv false (.bin .gtr .num) [kW, (.int .i64 999999999)] jO fun kX kY =>
  stp c .pick [gv, (.bool true), kX] kY fun mP iD =>
  stp c .move [mP] iD fun fF jP =>
  gst c fF false (.fieldA 5) [x1] jP fun mQ jQ =>
  gst c fF false (.load none) [mQ] jQ fun mR jr =>
  gst c fF false (.bin .neq .num) [mR, (.int .i64 0)] jr fun kB jR =>
  gst c fF false .move [kB] jR fun iR kZ =>
  gst c iR true .move [x3] kZ fun mS k8 =>
  gst c iR true (.callF 45) [mS] k8 fun mT k9 =>
  gst c iR true (.un .not) [mT] k9 fun mU kC =>
  gst c fF false .pick [iR, mU, (.bool false)] kC fun mh ld =>
  stp c .pick [fF, (.bool true), mh] ld fun mj mo =>
  cnd mj (
    stp c .move [(.bool false)] mo fun x2 mz =>
    some (x2, mz)) (
    stp c .move [x3] mo fun mV lg =>
  stp c (.callF 41) [mV] lg fun mW mX =>
  stp c .move [mW] mX fun gw mY =>
  gst c gw true (.fieldA 2) [x1] mY fun pq pz =>
  gst c gw true (.load none) [pq] pz fun sA pE =>
  gst c gw true (.callF 106) [sA] pE fun sB oe =>
  gst c gw true (.un .not) [sB] oe fun og pF =>
  gst c gw true .move [og] pF fun jS pG =>
  gst c jS false (.fieldA 3) [x1] pG fun sC pH =>
  gst c jS false (.load none) [sC] pH fun sD pI =>
  gst c jS false (.callF 106) [sD] pI fun sF pJ =>
  gst c jS false (.un .not) [sF] pJ fun oh sG =>
  gst c gw true .pick [jS, (.bool true), oh] sG fun sH qA =>
  stp c .pick [gw, sH, (.bool false)] qA fun sI sJ =>
  stp c .move [sI] sJ fun iT sK =>
  gst c iT false .move [x3] sK fun sL sM =>
  gst c iT false (.callF 41) [sL] sM fun sN sO =>
  gst c iT false (.un .not) [sN] sO fun sP sQ =>
  gst c iT false .move [sP] sQ fun lp sR =>
  gst c lp true (.fieldA 3) [x1] sR fun iU sS =>
  gst c lp true (.load none) [iU] sS fun js yL =>
  gst c lp true (.bin .neq .num) [js, (.str [])] yL fun ij sU =>
  gst c iT false .pick [lp, ij, (.bool false)] sU fun sV sW =>
  stp c .pick [iT, (.bool true), sV] sW fun sX pK =>
  cnd sX (
    stp c .move [(.bool false)] pK fun x2 BV =>
    some (x2, BV)) (
    stp c .move [x3] pK fun sY sZ =>
  stp c (.bin .eql .num) [sY, (.int .u8 6)] sZ fun td th =>
  stp c .move [td] th fun mZ tj =>
  gst c mZ false .move [x3] tj fun om tq =>
  gst c mZ false (.bin .eql .num) [om, (.int .u8 7)] tq fun tr tu =>
  stp c .pick [mZ, (.bool true), tr] tu fun tv yM =>
  stp c .move [tv] yM fun nc yN =>
  gst c nc false .move [x3] yN fun tA tB =>
  gst c nc false (.bin .eql .num) [tA, (.int .u8 17)] tB fun tC tD =>
  stp c .pick [nc, (.bool true), tC] tD fun tE tF =>
  stp c .move [tE] tF fun jT tG =>
  gst c jT true (.fieldA 2) [x1] tG fun tH qB =>
  gst c jT true (.load none) [tH] qB fun tI tJ =>
  gst c jT true (.callF 106) [tI] tJ fun tK qC =>
  gst c jT true (.un .not) [tK] qC fun tL tM =>
  stp c .pick [jT, tL, (.bool false)] tM fun tN tO =>
  stp c .move [tN] tO fun iq tP =>
  gst c iq false .move [x3] tP fun tQ qD =>
  gst c iq false (.bin .eql .num) [tQ, (.int .u8 10)] qD fun tR tS =>
  gst c iq false .move [tR] tS fun lq yO =>
  gst c lq true (.fieldA 2) [x1] yO fun tT tU =>
  gst c lq true (.load none) [tT] tU fun tV tW =>
  gst c lq true (.bin .neq .num) [tV, (.str [])] tW fun tX tY =>
  gst c iq false .pick [lq, tX, (.bool false)] tY fun tZ qE =>
  gst c iq false .move [tZ] qE fun jU ua =>
  gst c jU true (.fieldA 2) [x1] ua fun ud ue =>
  gst c jU true (.load none) [ud] ue fun uf ug =>
  gst c jU true (.callF 106) [uf] ug fun pL yP =>
  gst c jU true (.un .not) [pL] yP fun wo uh =>
  gst c iq false .pick [jU, wo, (.bool false)] uh fun yQ uj =>
  stp c .pick [iq, (.bool true), yQ] uj fun yR pM =>
  cnd yR (
    stp c .move [(.bool false)] pM fun x2 zk =>
    some (x2, zk)) (
    stp c .move [x3] pM fun yS uk =>
  stp c (.callF 41) [yS] uk fun yT um =>
  stp c (.un .not) [yT] um fun yU uo =>
  stp c .move [yU] uo fun ng uq =>
  gst c ng true .move [x3] uq fun qF oG =>
  gst c ng true (.callF 42) [qF] oG fun yV lT =>
  gst c ng true (.un .not) [yV] lT fun ur lU =>
  stp c .pick [ng, ur, (.bool false)] lU fun uu lV =>
  stp c .move [uu] lV fun lW lX =>
  gst c lW true .move [x3] lX fun uv uw =>
  gst c lW true (.bin .neq .num) [uv, (.int .u8 17)] uw fun xj ux =>
  stp c .pick [lW, xj, (.bool false)] ux fun uy uz =>
  stp c .move [uy] uz fun iG uA =>
  gst c iG true (.fieldA 2) [x1] uA fun AG uB =>
  gst c iG true (.load none) [AG] uB fun AH uC =>
  gst c iG true (.bin .neq .num) [AH, (.str [])] uC fun AI uD =>
  stp c .pick [iG, AI, (.bool false)] uD fun AJ qf =>
  cnd AJ (
    stp c .move [(.bool false)] qf fun x2 AQ =>
    some (x2, AQ)) (
    stp c .move [x3] qf fun LZ AR =>
  stp c (.callF 44) [LZ] AR fun L5 AS =>
  stp c (.bin .eql .num) [L5, (.int .i64 0)] AS fun L6 xD =>
  cnd L6 (
    stp c (.fieldA 4) [x1] xD fun L7 AT =>
    stp c (.load none) [L7] AT fun L8 AU =>
    stp c (.bin .eql .num) [L8, (.str [])] AU fun L9 AW =>
    stp c .move [L9] AW fun x2 xE =>
    some (x2, xE)) (
    stp c (.fieldA 4) [x1] xD fun Ma AX =>
  stp c (.load none) [Ma] AX fun Mb AY =>
  stp c (.callF 106) [Mb] AY fun Mc AZ =>
  stp c .move [Mc] AZ fun ql A3 =>
  gst c ql false .move [x3] A3 fun Md A4 =>
  gst c ql false (.callF 44) [Md] A4 fun Me sr =>
  gst c ql false (.bin .eql .num) [Me, (.int .i64 2)] sr fun Mf su =>
  gst c ql false .move [Mf] su fun xF sw =>
  gst c xF true (.fieldA 4) [x1] sw fun Mg sx =>
  gst c xF true (.load none) [Mg] sx fun Mh Mi =>
  gst c xF true (.bin .eql .num) [Mh, (.str [])] Mi fun Mj Ml =>
  gst c ql false .pick [xF, Mj, (.bool false)] Ml fun Mm Mn =>
  stp c .pick [ql, (.bool true), Mm] Mn fun Mo Mp =>
  stp c .move [Mo] Mp fun x2 Mq =>
  some (x2, Mq))))))
theorem lu {c : CallA} (hc : Sem c) (F : Nat){x0 : AV} {s : St} {r : AV × St} (h : jt c F x0 s = some r) : c 38 [x0] s = some (tidy s r) := hc.lC (A := g38.getD default) (F := F) (s := (.seq none .leaf (.seq none .leaf (.seq none (.seq none .leaf (.cond (.seq none .leaf .leaf) .leaf)) (.seq none (.seq none .leaf (.cond (.seq none .leaf .leaf) .leaf)) (.seq none (.seq none .leaf (.cond (.seq none .leaf .leaf) .leaf)) (.seq none (.seq none .leaf (.cond (.seq none .leaf .leaf) .leaf)) (.seq none (.seq none .leaf (.cond (.seq none .leaf .leaf) .leaf)) (.seq none .leaf .leaf))))))))) (by kernel_rfl) (by kernel_rfl) (by kernel_rfl) (by kernel_rfl) h
def gb (c : CallA) (F : Nat) (x0 : AV) (s : St) : Option (AV × St) :=
  stp c .move [(.str [])] s fun x2 s0 =>
  stp c .move [x0] s0 fun x3 s1 =>
  stp c (.bin .lss .num) [x3, (.int .i64 10)] s1 fun x4 s2 =>
  cnd x4 (
    stp c .move [x0] s2 fun x5 s3 =>
    stp c (.bin .add .num) [(.int .i64 48), x5] s3 fun x6 s4 =>
    stp c (.conv (.int .u8)) [x6] s4 fun x7 s5 =>
    stp c (.buildSlice 1 1 [(.int .u8 0)] [0]) [x7] s5 fun x8 s6 =>
    stp c (.conv .ofBytes) [x8] s6 fun x9 s7 =>
    stp c .move [x9] s7 fun x2 s8 =>
    some (x2, s8)) (
    prr .move [x0] fun cr =>
  prr (.bin .quo .num) [cr, (.int .i64 10)] fun cJ =>
  stp c (.callF 40) [cJ] s2 fun c9 s9 =>
  prr .move [x0] fun cT =>
  prr (.bin .rem .num) [cT, (.int .i64 10)] fun dD =>
  prr (.bin .add .num) [(.int .i64 48), dD] fun eo =>
  prr (.conv (.int .u8)) [eo] fun eN =>
  nww (.buildSlice 1 1 [(.int .u8 0)] [0]) [eN] s9 fun dc Hr =>
  rdd (.conv .ofBytes) [dc] (T.put (some Hr) s9.next s9.heap) (fun v => readsAs (.conv .ofBytes) [dc] v (putUp [(s9.next, Hr)] s2.heap) && true) fun bh =>
  prr (.bin .add .num) [c9, bh] fun aY =>
  prr .move [aY] fun x2 =>
  some (x2, (nst s9 Hr)))
theorem gN {c : CallA} (hc : Sem c) (F : Nat){x0 : AV} {s : St} {r : AV × St} (h : gb c F x0 s = some r) : c 40 [x0] s = some (tidy s r) := hc.lC (A := g40.getD default) (F := F) (s := (.seq none .leaf (.seq none (.seq none .leaf (.cond (.seq none .leaf .leaf) .leaf)) (.seq none .leaf .leaf)))) (by kernel_rfl) (by kernel_rfl) (by kernel_rfl) (by kernel_rfl) h
def kz (c : CallA) (F : Nat) (x0 : AV) (s : St) : Option (AV × St) :=
  stp c .move [(.str [])] s fun x2 s0 =>
  stp c .move [x0] s0 fun x3 s1 =>
  stp c (.bin .eql .num) [x3, (.str [])] s1 fun x4 s2 =>
  cnd x4 (
    stp c .move [(.str [45])] s2 fun x2 s3 =>
    some (x2, s3)) (
    stp c .move [x0] s2 fun x5 s4 =>
  stp c .move [x5] s4 fun x2 s5 =>
  some (x2, s5))
theorem mD {c : CallA} (hc : Sem c) (F : Nat){x0 : AV} {s : St} {r : AV × St} (h : kz c F x0 s = some r) : c 43 [x0] s = some (tidy s r) := hc.lC (A := g43.getD default) (F := F) (s := (.seq none .leaf (.seq none (.seq none .leaf (.cond (.seq none .leaf .leaf) .leaf)) (.seq none .leaf .leaf)))) (by kernel_rfl) (by kernel_rfl) (by kernel_rfl) (by kernel_rfl) h
def dI (c : CallA) (F : Nat) (x0 : AV) (s : St) : Option (AV × St) :=
  stp c .move [x0] s fun x2 s0 =>
  stp c .nilCheck [x2] s0 fun x3 s1 =>
  stp c (.fieldA 0) [x3] s1 fun x4 s2 =>
  stp c (.load none) [x4] s2 fun x5 s3 =>
  stp c (.bin .eql .ptr) [x5, .nilp] s3 fun x6 s4 =>
  cnd x6 (
    stp c .move [x0] s4 fun x7 s5 =>
    stp c .move [x0] s5 fun x8 s6 =>
    stp c .toU [x8] s6 fun x9 s7 =>
    stp c (.callF 175) [x9] s7 fun cr s8 =>
    stp c (.fromU 81 2) [cr] s8 fun cJ s9 =>
    stp c .nilCheck [x7] s9 fun c9 dQ =>
    stp c (.fieldA 0) [c9] dQ fun cT cS =>
    stp c (.store 1) [cT, cJ] cS fun _ eY =>
    some (.tuple [], eY)) (
    stp c .move [x0] s4 fun dD eM =>
    stp c .nilCheck [dD] eM fun eo eZ =>
    stp c (.fieldA 0) [eo] eZ fun eN fE =>
    stp c (.load none) [eN] fE fun dc eO =>
    stp c .move [x0] eO fun bh eD =>
    stp c (.bin .neq .ptr) [dc, bh] eD fun aY e8 =>
    cnd aY (
      stp c .bad [] e8 fun _ gu =>
      some (.tuple [], gu)) (
      some (.tuple [], e8)))
theorem eC {c : CallA} (hc : Sem c) (F : Nat){x0 : AV} {s : St} {r : AV × St} (h : dI c F x0 s = some r) : c 105 [x0] s = some (tidy s r) := hc.lC (A := Hs.getD default) (F := F) (s := (.seq none .leaf (.cond .leaf (.seq none .leaf (.cond .leaf .leaf))))) (by kernel_rfl) (by kernel_rfl) (by kernel_rfl) (by kernel_rfl) h
end Go.Proofs.YtehbdakjkjkekaaGreatDoor
end
section
set_option linter.all false
set_option maxRecDepth 100000
noncomputable section
namespace Go.Proofs.YtehbdakjkjkekaaGreatDoor
open Go Go.Ai Go.Proofs
def j0 : AFunc := g17.getD default
def j5 : Sh := (.seq none .leaf (.seq none (.seq none .leaf (.seq none .leaf (.cond (.seq none .leaf .leaf) .leaf))) (.seq none .leaf (.seq none (.seq none .leaf (.block (.loop 0 [(.o .h), (.i (.i .h)), (.o (.i (.i (.o .h)))), (.i (.i (.i (.o .h)))), (.o (.o (.o (.i .h))))] [(1, [(.i .h), (.o (.o .h))]), (2, [])] (.seq none .leaf (.seq none (.cond .leaf .leaf) (.seq none (.block (.seq none .leaf (.seq none (.seq none .leaf (.seq none .leaf (.cond (.seq none .leaf .leaf) .leaf))) (.seq none .leaf (.cond (.seq none .leaf .leaf) .leaf))))) .leaf)))))) (.seq none .leaf .leaf)))))
def mA (c : CallA) (F : Nat) (k1 k2 : List AV -> St -> Option (AV × St)) : Nat -> List AV -> St -> Option (AV × St)
  | 0, _, _ => none
  | n + 1, vs, s => un1 vs fun x1 vs => un1 vs fun x6 vs => un1 vs fun ji vs => un1 vs fun gO vs => un1 vs fun gP vs => nl1 vs (
  stp c (.bin .lss .num) [gP, gO] s fun gv jk =>
  cnd gv (
    stp c .move [gP] jk fun iQ kV =>
  stp c (.idxA 6 none) [ji, gP] kV fun kW jq =>
  stp c (.load (some 6)) [kW] jq fun kX jO =>
  stp c (.alloc [(.int .u8 0), (.int .i64 0), (.str []), (.str []), (.str []), (.int .i64 0)]) [] jO fun x8 kY =>
  stp c .move [iQ] kY fun x7 iD =>
  stp c (.store 6) [x8, kX] iD fun _ jP =>
  stp c .move [x6] jP fun mP jQ =>
  stp c (.fieldA 0) [x8] jQ fun fF jr =>
  stp c (.load none) [fF] jr fun mQ jR =>
  stp c (.lookup .i (.agg [(.str []), (.int .u8 0), (.bool false), (.int .u8 0), (.bool false), (.int .i64 0), (.bool false), .nilf]) false) [mP, mQ] jR fun mR kZ =>
  stp c (.load (some 5)) [x1] kZ fun kB k8 =>
  stp c (.load (some 6)) [x8] k8 fun iR k9 =>
  stp c (.callF 52) [mR, kB, iR] k9 fun mS kC =>
  stp c .move [mS] kC fun x9 ld =>
  stp c .move [x9] ld fun mT mo =>
  stp c (.bin .neq .num) [mT, (.int .i64 0)] mo fun mU mz =>
  cnd mU (
    stp c .move [x7] mz fun mh lg =>
    stp c .move [x9] lg fun mj mX =>
    stp c .move [mh] mX fun x2 mY =>
    stp c .move [mj] mY fun x3 pz =>
    k1 [x2, x3] pz) (
    stp c .move [x7] mz fun mV pE =>
  stp c (.bin .eql .num) [mV, (.int .i64 64)] pE fun mW oe =>
  cnd mW (
    stp c .move [x7] oe fun gw pF =>
    stp c .move [gw] pF fun x2 pG =>
    stp c .move [(.int .i64 7)] pG fun x3 pH =>
    k1 [x2, x3] pH) (
    stp c (.bin .add .num) [gP, (.int .i64 1)] oe fun pq pI =>
  stp c .move [pq] pI fun gP pJ =>
  mA c F k1 k2 n [x1, x6, ji, gO, gP] pJ))) (
    k2 [] jk))
def nw (c : CallA) (F : Nat) : Env (AV × St) := envOf [(0, fun K n => mA c F (K 1) (K 2) n)]
theorem rm (c : CallA) (F : Nat) : GoodL c F (nw c F) (lpAt j0 j5 0).1 (lpAt j0 j5 0).2 := good_mk (j := 0) (ins := [(.o .h), (.i (.i .h)), (.o (.i (.i (.o .h)))), (.i (.i (.i (.o .h)))), (.o (.o (.o (.i .h))))]) (outs := [(1, [(.i .h), (.o (.o .h))]), (2, [])]) (s := (.seq none .leaf (.seq none (.cond .leaf .leaf) (.seq none (.block (.seq none .leaf (.seq none (.seq none .leaf (.seq none .leaf (.cond (.seq none .leaf .leaf) .leaf))) (.seq none .leaf (.cond (.seq none .leaf .leaf) .leaf))))) .leaf)))) (by kernel_rfl) (fun _ _ _ => by kernel_rfl) (fun _ _ _ _ => by kernel_rfl)
theorem Ht (c : CallA) (F : Nat) : ∀ x ∈ loopsOf j0.code j5, GoodL c F (nw c F) x.1 x.2 := good_all 1 (by kernel_rfl) fun i hi => match i, hi with | 0, _ => rm c F | n + 1, h => absurd h (by omega)
def o7 (c : CallA) (F : Nat) (s : St) : Option (AV × St) :=
  stp c .move [.nilm] s fun x0 s0 =>
  stp c .mkMap [] s0 fun x1 s1 =>
  stp c (.build [(.str []), (.int .u8 0), (.bool false), (.int .u8 0), (.bool false), (.int .i64 0), (.bool false), .nilf] [(0, 1), (1, 1), (2, 1), (4, 1), (7, 1)]) [(.str [97, 112, 97, 114, 116]), (.int .u8 103), (.bool true), (.bool true), (.func 81 [] [])] s1 fun x2 s2 =>
  stp c (.mapSet .i) [x1, (.int .u8 1), x2] s2 fun _ s3 =>
  stp c (.build [(.str []), (.int .u8 0), (.bool false), (.int .u8 0), (.bool false), (.int .i64 0), (.bool false), .nilf] [(0, 1), (1, 1), (2, 1), (7, 1)]) [(.str [98, 101, 115, 105, 100, 101]), (.int .u8 103), (.bool true), (.func 82 [] [])] s3 fun x3 s4 =>
  stp c (.mapSet .i) [x1, (.int .u8 2), x3] s4 fun _ s5 =>
  stp c (.build [(.str []), (.int .u8 0), (.bool false), (.int .u8 0), (.bool false), (.int .i64 0), (.bool false), .nilf] [(0, 1), (1, 1), (2, 1), (7, 1)]) [(.str [97, 99, 114, 111, 115, 115]), (.int .u8 103), (.bool true), (.func 83 [] [])] s5 fun x4 s6 =>
  stp c (.mapSet .i) [x1, (.int .u8 3), x4] s6 fun _ s7 =>
  stp c (.build [(.str []), (.int .u8 0), (.bool false), (.int .u8 0), (.bool false), (.int .i64 0), (.bool false), .nilf] [(0, 1), (1, 1), (2, 1), (4, 1), (5, 1), (7, 1)]) [(.str [110, 101, 97, 114]), (.int .u8 103), (.bool true), (.bool true), (.int .i64 1), (.func 84 [] [])] s7 fun x5 s8 =>
  stp c (.mapSet .i) [x1, (.int .u8 4), x5] s8 fun _ s9 =>
  stp c (.build [(.str []), (.int .u8 0), (.bool false), (.int .u8 0), (.bool false), (.int .i64 0), (.bool false), .nilf] [(0, 1), (1, 1), (2, 1), (7, 1)]) [(.str [116, 111, 103, 101, 116, 104, 101, 114]), (.int .u8 103), (.bool true), (.func 85 [] [])] s9 fun x6 dQ =>
  stp c (.mapSet .i) [x1, (.int .u8 5), x6] dQ fun _ cS =>
  stp c (.build [(.str []), (.int .u8 0), (.bool false), (.int .u8 0), (.bool false), (.int .i64 0), (.bool false), .nilf] [(0, 1), (1, 1), (3, 1), (7, 1)]) [(.str [97, 116]), (.int .u8 103), (.int .u8 116), (.func 86 [] [])] cS fun x7 eY =>
  stp c (.mapSet .i) [x1, (.int .u8 6), x7] eY fun _ eM =>
  stp c (.build [(.str []), (.int .u8 0), (.bool false), (.int .u8 0), (.bool false), (.int .i64 0), (.bool false), .nilf] [(0, 1), (1, 1), (3, 1), (4, 1), (6, 1), (7, 1)]) [(.str [115, 101, 97, 116]), (.int .u8 103), (.int .u8 116), (.bool true), (.bool true), (.func 87 [] [])] eM fun x8 eZ =>
  stp c (.mapSet .i) [x1, (.int .u8 7), x8] eZ fun _ fE =>
  stp c (.build [(.str []), (.int .u8 0), (.bool false), (.int .u8 0), (.bool false), (.int .i64 0), (.bool false), .nilf] [(0, 1), (3, 1), (7, 1)]) [(.str [97, 108, 116, 101, 114, 110, 97, 116, 101]), (.int .u8 101), (.func 88 [] [])] fE fun x9 eO =>
  stp c (.mapSet .i) [x1, (.int .u8 8), x9] eO fun _ eD =>
  stp c (.build [(.str []), (.int .u8 0), (.bool false), (.int .u8 0), (.bool false), (.int .i64 0), (.bool false), .nilf] [(0, 1), (3, 1), (7, 1)]) [(.str [104, 111, 115, 116]), (.int .u8 101), (.func 89 [] [])] eD fun cr e8 =>
  stp c (.mapSet .i) [x1, (.int .u8 9), cr] e8 fun _ gu =>
  stp c (.build [(.str []), (.int .u8 0), (.bool false), (.int .u8 0), (.bool false), (.int .i64 0), (.bool false), .nilf] [(0, 1), (1, 1), (7, 1)]) [(.str [114, 101, 97, 99, 104]), (.int .u8 101), (.func 90 [] [])] gu fun cJ kU =>
  stp c (.mapSet .i) [x1, (.int .u8 10), cJ] kU fun _ kA =>
  stp c (.build [(.str []), (.int .u8 0), (.bool false), (.int .u8 0), (.bool false), (.int .i64 0), (.bool false), .nilf] [(0, 1), (3, 1), (7, 1)]) [(.str [115, 112, 101, 97, 107]), (.int .u8 101), (.func 91 [] [])] kA fun c9 jk =>
  stp c (.mapSet .i) [x1, (.int .u8 11), c9] jk fun _ kV =>
  stp c (.build [(.str []), (.int .u8 0), (.bool false), (.int .u8 0), (.bool false), (.int .i64 0), (.bool false), .nilf] [(0, 1), (3, 1), (7, 1)]) [(.str [112, 101, 97, 99, 101]), (.int .u8 101), (.func 92 [] [])] kV fun cT jq =>
  stp c (.mapSet .i) [x1, (.int .u8 12), cT] jq fun _ jO =>
  stp c (.build [(.str []), (.int .u8 0), (.bool false), (.int .u8 0), (.bool false), (.int .i64 0), (.bool false), .nilf] [(0, 1), (3, 1), (7, 1)]) [(.str [99, 111, 109, 112, 97, 110, 121]), (.int .u8 101), (.func 93 [] [])] jO fun dD kY =>
  stp c (.mapSet .i) [x1, (.int .u8 13), dD] kY fun _ iD =>
  stp c (.build [(.str []), (.int .u8 0), (.bool false), (.int .u8 0), (.bool false), (.int .i64 0), (.bool false), .nilf] [(0, 1), (3, 1), (7, 1)]) [(.str [104, 111, 110, 111, 117, 114]), (.int .u8 101), (.func 94 [] [])] iD fun eo jP =>
  stp c (.mapSet .i) [x1, (.int .u8 14), eo] jP fun _ jQ =>
  stp c (.build [(.str []), (.int .u8 0), (.bool false), (.int .u8 0), (.bool false), (.int .i64 0), (.bool false), .nilf] [(0, 1), (3, 1), (4, 1), (7, 1)]) [(.str [102, 105, 108, 108]), (.int .u8 101), (.bool true), (.func 95 [] [])] jQ fun eN jr =>
  stp c (.mapSet .i) [x1, (.int .u8 15), eN] jr fun _ jR =>
  stp c (.build [(.str []), (.int .u8 0), (.bool false), (.int .u8 0), (.bool false), (.int .i64 0), (.bool false), .nilf] [(0, 1), (3, 1), (4, 1), (7, 1)]) [(.str [108, 105, 109, 105, 116]), (.int .u8 101), (.bool true), (.func 96 [] [])] jR fun dc kZ =>
  stp c (.mapSet .i) [x1, (.int .u8 16), dc] kZ fun _ k8 =>
  stp c (.build [(.str []), (.int .u8 0), (.bool false), (.int .u8 0), (.bool false), (.int .i64 0), (.bool false), .nilf] [(0, 1), (1, 1), (3, 1), (7, 1)]) [(.str [107, 105, 116, 99, 104, 101, 110]), (.int .u8 100), (.int .u8 116), (.func 97 [] [])] k8 fun bh k9 =>
  stp c (.mapSet .i) [x1, (.int .u8 17), bh] k9 fun _ kC =>
  stp c (.build [(.str []), (.int .u8 0), (.bool false), (.int .u8 0), (.bool false), (.int .i64 0), (.bool false), .nilf] [(0, 1), (3, 1), (7, 1)]) [(.str [109, 105, 120]), (.int .u8 101), (.func 98 [] [])] kC fun aY ld =>
  stp c (.mapSet .i) [x1, (.int .u8 18), aY] ld fun _ mo =>
  stp c .move [x1] mo fun bw mz =>
  stp c .move [bw] mz fun x0 lg =>
  some (x0, lg)
theorem qd {c : CallA} (hc : Sem c) (F : Nat){x : AV} {s : St} {r : AV × St} (h : o7 c F s = some r) : c 32 [] s = some (tidy s r) := hc.lC (A := g32.getD default) (F := F) (s := (.seq none .leaf (.seq none .leaf .leaf))) (by kernel_rfl) (by kernel_rfl) (by kernel_rfl) (by kernel_rfl) h
def jg (c : CallA) (F : Nat) (x0 : AV) (s : St) : Option (AV × St) :=
  stp c .move [(.str [])] s fun x2 s0 =>
  stp c (.buildSlice 1 19 [(.str [])] [0, 1, 2, 3, 4, 5, 6, 7, 8, 9, 10, 11, 12, 13, 14, 15, 16, 17, 18]) [(.str []), (.str [97, 112, 97, 114, 116]), (.str [98, 101, 115, 105, 100, 101]), (.str [97, 99, 114, 111, 115, 115]), (.str [110, 101, 97, 114]), (.str [116, 111, 103, 101, 116, 104, 101, 114]), (.str [97, 116]), (.str [115, 101, 97, 116]), (.str [97, 108, 116, 101, 114, 110, 97, 116, 101]), (.str [104, 111, 115, 116]), (.str [114, 101, 97, 99, 104]), (.str [115, 112, 101, 97, 107]), (.str [112, 101, 97, 99, 101]), (.str [99, 111, 109, 112, 97, 110, 121]), (.str [104, 111, 110, 111, 117, 114]), (.str [102, 105, 108, 108]), (.str [108, 105, 109, 105, 116]), (.str [107, 105, 116, 99, 104, 101, 110]), (.str [109, 105, 120])] s0 fun x4 s1 =>
  stp c .move [x4] s1 fun x3 s2 =>
  stp c .move [x0] s2 fun x5 s3 =>
  stp c (.conv (.int .i64)) [x5] s3 fun x6 s4 =>
  stp c .move [x3] s4 fun x7 s5 =>
  stp c (.lenB .l) [x7] s5 fun x8 s6 =>
  stp c (.bin .geq .num) [x6, x8] s6 fun x9 s7 =>
  cnd x9 (
    stp c .move [(.str [])] s7 fun x2 s8 =>
    some (x2, s8)) (
    stp c .move [x3] s7 fun cr s9 =>
  stp c .move [x0] s9 fun cJ dQ =>
  stp c (.idxA 1 none) [cr, cJ] dQ fun c9 cS =>
  stp c (.load none) [c9] cS fun cT eY =>
  stp c .move [cT] eY fun x2 eM =>
  some (x2, eM))
theorem kT {c : CallA} (hc : Sem c) (F : Nat){x0 : AV} {s : St} {r : AV × St} (h : jg c F x0 s = some r) : c 39 [x0] s = some (tidy s r) := hc.lC (A := g39.getD default) (F := F) (s := (.seq none .leaf (.seq none .leaf (.seq none (.seq none .leaf (.cond (.seq none .leaf .leaf) .leaf)) (.seq none .leaf .leaf))))) (by kernel_rfl) (by kernel_rfl) (by kernel_rfl) (by kernel_rfl) h
def jL (c : CallA) (F : Nat) (x0 : AV) (s : St) : Option (AV × St) :=
  stp c .move [(.bool false)] s fun x2 s0 =>
  stp c .move [x0] s0 fun x3 s1 =>
  stp c (.bin .eql .num) [x3, (.int .u8 1)] s1 fun x4 s2 =>
  stp c .move [x4] s2 fun x5 s3 =>
  gst c x5 false .move [x0] s3 fun x6 s4 =>
  gst c x5 false (.bin .eql .num) [x6, (.int .u8 2)] s4 fun x7 s5 =>
  stp c .pick [x5, (.bool true), x7] s5 fun x8 s6 =>
  stp c .move [x8] s6 fun x9 s7 =>
  gst c x9 false .move [x0] s7 fun cr s8 =>
  gst c x9 false (.bin .eql .num) [cr, (.int .u8 3)] s8 fun cJ s9 =>
  stp c .pick [x9, (.bool true), cJ] s9 fun c9 dQ =>
  stp c .move [c9] dQ fun cT cS =>
  gst c cT false .move [x0] cS fun dD eY =>
  gst c cT false (.bin .eql .num) [dD, (.int .u8 4)] eY fun eo eM =>
  stp c .pick [cT, (.bool true), eo] eM fun eN eZ =>
  stp c .move [eN] eZ fun dc fE =>
  gst c dc false .move [x0] fE fun bh eO =>
  gst c dc false (.bin .eql .num) [bh, (.int .u8 5)] eO fun aY eD =>
  stp c .pick [dc, (.bool true), aY] eD fun bw e8 =>
  stp c .move [bw] e8 fun x2 gu =>
  some (x2, gu)
theorem lR {c : CallA} (hc : Sem c) (F : Nat){x0 : AV} {s : St} {r : AV × St} (h : jL c F x0 s = some r) : c 41 [x0] s = some (tidy s r) := hc.lC (A := g41.getD default) (F := F) (s := (.seq none .leaf (.seq none .leaf .leaf))) (by kernel_rfl) (by kernel_rfl) (by kernel_rfl) (by kernel_rfl) h
def jM (c : CallA) (F : Nat) (x0 : AV) (s : St) : Option (AV × St) :=
  stp c .move [(.bool false)] s fun x2 s0 =>
  stp c .move [x0] s0 fun x3 s1 =>
  stp c (.bin .eql .num) [x3, (.int .u8 6)] s1 fun x4 s2 =>
  stp c .move [x4] s2 fun x5 s3 =>
  gst c x5 false .move [x0] s3 fun x6 s4 =>
  gst c x5 false (.bin .eql .num) [x6, (.int .u8 7)] s4 fun x7 s5 =>
  stp c .pick [x5, (.bool true), x7] s5 fun x8 s6 =>
  stp c .move [x8] s6 fun x9 s7 =>
  gst c x9 false .move [x0] s7 fun cr s8 =>
  gst c x9 false (.bin .eql .num) [cr, (.int .u8 10)] s8 fun cJ s9 =>
  stp c .pick [x9, (.bool true), cJ] s9 fun c9 dQ =>
  stp c .move [c9] dQ fun x2 cS =>
  some (x2, cS)
theorem lS {c : CallA} (hc : Sem c) (F : Nat){x0 : AV} {s : St} {r : AV × St} (h : jM c F x0 s = some r) : c 42 [x0] s = some (tidy s r) := hc.lC (A := g42.getD default) (F := F) (s := (.seq none .leaf (.seq none .leaf .leaf))) (by kernel_rfl) (by kernel_rfl) (by kernel_rfl) (by kernel_rfl) h
def iC (c : CallA) (F : Nat) (x0 : AV) (s : St) : Option (AV × St) :=
  stp c .move [(.int .i64 0)] s fun x2 s0 =>
  stp c .move [x0] s0 fun x3 s1 =>
  stp c (.callF 41) [x3] s1 fun x4 s2 =>
  stp c .move [x4] s2 fun x5 s3 =>
  gst c x5 false .move [x0] s3 fun x6 s4 =>
  gst c x5 false (.bin .eql .num) [x6, (.int .u8 10)] s4 fun x7 s5 =>
  stp c .pick [x5, (.bool true), x7] s5 fun x8 s6 =>
  cnd x8 (
    stp c .move [(.int .i64 0)] s6 fun x2 s7 =>
    some (x2, s7)) (
    stp c .move [x0] s6 fun x9 s8 =>
  stp c (.bin .eql .num) [x9, (.int .u8 6)] s8 fun cr s9 =>
  stp c .move [cr] s9 fun cJ dQ =>
  gst c cJ false .move [x0] dQ fun c9 cS =>
  gst c cJ false (.bin .eql .num) [c9, (.int .u8 7)] cS fun cT eY =>
  stp c .pick [cJ, (.bool true), cT] eY fun dD eM =>
  stp c .move [dD] eM fun eo eZ =>
  gst c eo false .move [x0] eZ fun eN fE =>
  gst c eo false (.bin .eql .num) [eN, (.int .u8 17)] fE fun dc eO =>
  stp c .pick [eo, (.bool true), dc] eO fun bh eD =>
  cnd bh (
    stp c .move [(.int .i64 1)] eD fun x2 e8 =>
    some (x2, e8)) (
    stp c .move [(.int .i64 2)] eD fun x2 gu =>
  some (x2, gu)))
theorem j9 {c : CallA} (hc : Sem c) (F : Nat){x0 : AV} {s : St} {r : AV × St} (h : iC c F x0 s = some r) : c 44 [x0] s = some (tidy s r) := hc.lC (A := g44.getD default) (F := F) (s := (.seq none .leaf (.seq none (.seq none .leaf (.cond (.seq none .leaf .leaf) .leaf)) (.seq none (.seq none .leaf (.cond (.seq none .leaf .leaf) .leaf)) (.seq none .leaf .leaf))))) (by kernel_rfl) (by kernel_rfl) (by kernel_rfl) (by kernel_rfl) h
def iB (c : CallA) (F : Nat) (x0 : AV) (s : St) : Option (AV × St) :=
  stp c .move [(.bool false)] s fun x2 s0 =>
  stp c .move [x0] s0 fun x3 s1 =>
  stp c (.bin .eql .num) [x3, (.int .u8 1)] s1 fun x4 s2 =>
  stp c .move [x4] s2 fun x5 s3 =>
  gst c x5 false .move [x0] s3 fun x6 s4 =>
  gst c x5 false (.bin .eql .num) [x6, (.int .u8 4)] s4 fun x7 s5 =>
  stp c .pick [x5, (.bool true), x7] s5 fun x8 s6 =>
  stp c .move [x8] s6 fun x9 s7 =>
  gst c x9 false .move [x0] s7 fun cr s8 =>
  gst c x9 false (.bin .eql .num) [cr, (.int .u8 7)] s8 fun cJ s9 =>
  stp c .pick [x9, (.bool true), cJ] s9 fun c9 dQ =>
  stp c .move [c9] dQ fun cT cS =>
  gst c cT false .move [x0] cS fun dD eY =>
  gst c cT false (.bin .eql .num) [dD, (.int .u8 15)] eY fun eo eM =>
  stp c .pick [cT, (.bool true), eo] eM fun eN eZ =>
  stp c .move [eN] eZ fun dc fE =>
  gst c dc false .move [x0] fE fun bh eO =>
  gst c dc false (.bin .eql .num) [bh, (.int .u8 16)] eO fun aY eD =>
  stp c .pick [dc, (.bool true), aY] eD fun bw e8 =>
  stp c .move [bw] e8 fun x2 gu =>
  some (x2, gu)
theorem j8 {c : CallA} (hc : Sem c) (F : Nat){x0 : AV} {s : St} {r : AV × St} (h : iB c F x0 s = some r) : c 45 [x0] s = some (tidy s r) := hc.lC (A := g45.getD default) (F := F) (s := (.seq none .leaf (.seq none .leaf .leaf))) (by kernel_rfl) (by kernel_rfl) (by kernel_rfl) (by kernel_rfl) h
def dF : AFunc := Hu.getD default
def eH : Sh := (.seq none .leaf (.seq none (.seq none .leaf (.cond (.seq none .leaf .leaf) .leaf)) (.seq none (.seq none .leaf (.block (.loop 0 [.h, (.o (.o .h))] [(1, [(.i .h)]), (2, [])] (.seq none (.seq none .leaf (.cond .leaf .leaf)) (.seq none (.block (.seq none .leaf (.cond (.seq none .leaf .leaf) .leaf))) .leaf))))) (.seq none .leaf .leaf))))
def bR (c : CallA) (F : Nat) (k1 k2 : List AV -> St -> Option (AV × St)) : Nat -> List AV -> St -> Option (AV × St)
  | 0, _, _ => none
  | n + 1, vs, s => un1 vs fun x0 vs => un1 vs fun x3 vs => nl1 vs (
  stp c .move [x3] s fun c9 cS =>
  stp c .move [x0] cS fun cT eY =>
  stp c (.lenB .s) [cT] eY fun dD eM =>
  stp c (.bin .lss .num) [c9, dD] eM fun eo eZ =>
  cnd eo (
    stp c .move [x0] eZ fun bh fE =>
  stp c .move [x3] fE fun aY eO =>
  stp c .idxS [bh, aY] eO fun bw eD =>
  stp c (.bin .lss .num) [bw, (.int .u8 97)] eD fun ji e8 =>
  stp c .move [ji] e8 fun gO gu =>
  gst c gO false .move [x0] gu fun gP kU =>
  gst c gO false .move [x3] kU fun gv kA =>
  gst c gO false .idxS [gP, gv] kA fun iQ jk =>
  gst c gO false (.bin .gtr .num) [iQ, (.int .u8 122)] jk fun kW kV =>
  stp c .pick [gO, (.bool true), kW] kV fun kX jq =>
  cnd kX (
    stp c .move [(.bool false)] jq fun x2 jO =>
    k1 [x2] jO) (
    stp c .move [x3] jq fun eN kY =>
  stp c (.bin .add .num) [eN, (.int .i64 1)] kY fun dc iD =>
  stp c .move [dc] iD fun x3 jP =>
  bR c F k1 k2 n [x0, x3] jP)) (
    k2 [] eZ))
def ia (c : CallA) (F : Nat) (x0 : AV) (s : St) : Option (AV × St) :=
  stp c .move [(.bool false)] s fun x2 s0 =>
  stp c .move [x0] s0 fun x4 s1 =>
  stp c (.lenB .s) [x4] s1 fun x5 s2 =>
  stp c (.bin .lss .num) [x5, (.int .i64 1)] s2 fun x6 s3 =>
  stp c .move [x6] s3 fun x7 s4 =>
  gst c x7 false .move [x0] s4 fun x8 s5 =>
  gst c x7 false (.lenB .s) [x8] s5 fun x9 s6 =>
  gst c x7 false (.bin .gtr .num) [x9, (.int .i64 12)] s6 fun cr s7 =>
  stp c .pick [x7, (.bool true), cr] s7 fun cJ s8 =>
  cnd cJ (
    stp c .move [(.bool false)] s8 fun x2 s9 =>
    some (x2, s9)) (
    stp c .move [(.int .i64 0)] s8 fun x3 dQ =>
  bR c F (fun vs jQ => un1 vs fun x2 vs => nl1 vs (
    some (x2, jQ))) (fun vs jr => nl1 vs (
    stp c .move [(.bool true)] jr fun x2 jR =>
  some (x2, jR))) F [x0, x3] dQ)
def gh (c : CallA) (F : Nat) : Env (AV × St) := envOf [(0, fun K n => bR c F (K 1) (K 2) n)]
theorem ny (c : CallA) (F : Nat) : GoodL c F (gh c F) (lpAt dF eH 0).1 (lpAt dF eH 0).2 := good_mk (j := 0) (ins := [.h, (.o (.o .h))]) (outs := [(1, [(.i .h)]), (2, [])]) (s := (.seq none (.seq none .leaf (.cond .leaf .leaf)) (.seq none (.block (.seq none .leaf (.cond (.seq none .leaf .leaf) .leaf))) .leaf))) (by kernel_rfl) (fun _ _ _ => by kernel_rfl) (fun _ _ _ _ => by kernel_rfl)
theorem nW (c : CallA) (F : Nat) : ∀ x ∈ loopsOf dF.code eH, GoodL c F (gh c F) x.1 x.2 := good_all 1 (by kernel_rfl) fun i hi => match i, hi with | 0, _ => ny c F | n + 1, h => absurd h (by omega)
theorem nX (c : CallA) (F : Nat) (x0 : AV) (s : St) : denF c F (gh c F) dF eH [x0] s = ia c F x0 s := by kernel_rfl
theorem mC {c : CallA} (hc : Sem c) (F : Nat){x0 : AV} {s : St} {r : AV × St} (h : ia c F x0 s = some r) : c 106 [x0] s = some (tidy s r) := hc.of (A := dF) (by kernel_rfl) (by kernel_rfl) (nW _ F) (by rw [nX]; exact h)
end Go.Proofs.YtehbdakjkjkekaaGreatDoor
end
