import PyProof.Rows.All
import Wide.All
import OpenK.AllK
import Wide.FinOn
import HandS.ForMost
import HandS.Evl
import HandS.Zip
import HandS.Walk
import HandS.IsInst
import HandS.TupAny
import HandS.Style
import HandS.Deep
import PyProof.P3In
import HandS.Set
import HandS.SetFor
import HandS.SetKeys
import HandS.TupSets
import KE.KeyNested
import KE.SortData
import HandS.Iter
import KE.GoesEnum
import PySem.Challenge.RW_puttingback_k36_whole_closures_of_lots
set_option Elab.async false
set_option linter.all false
set_option maxRecDepth 100000
set_option maxHeartbeats 1000000
namespace Pb
open PySem PySem.Spec PyProof.Rows L2
open Evl (Ex)

/-! data in a def's slots -/
abbrev DS := List (Option PyData)

/-! ### the cup: a list of two ints that is rolled -/
def CupOk (a : Addr) (h : Heap) : Prop := ∃ (p q : Int) (t1 t2 : Tok) (n : Nat), h.get? a = some { cls := .type "list", data := .seq #[.int p t1, .int q t2] n } ∧ 0 ≤ q ∧ q < 4294967296
def cupO (a : Addr) : HO := .ext (CupOk a)
/-! ### data, all of it tracked -/
mutual
inductive Dq (H : Hp) : V → PyData → Prop
  | non : Dq H .non .none
  | bl (b : Bool) : Dq H (.bl b) (.bool b)
  | int (i : Int) : Dq H (.int i) (.int i)
  | str (x : Str) : Dq H (.str x) (.str x)
  | lst {a : Addr} {xs : List V} {ds : List PyData} : H a = some (.lst xs) → DqAll H xs ds → Dq H (.ref a) (.list ds)
  | tup {a : Addr} {xs : List V} {ds : List PyData} : H a = some (.tup xs) → DqAll H xs ds → Dq H (.ref a) (.tuple ds)
  | cup {a : Addr} : H a = some (cupO a) → Dq H (.ref a) (.dict [])
inductive DqAll (H : Hp) : List V → List PyData → Prop
  | nil : DqAll H [] []
  | cons {v : V} {vs : List V} {d : PyData} {ds : List PyData} : Dq H v d → DqAll H vs ds → DqAll H (v :: vs) (d :: ds)
end
mutual
/-- no cup within -/
def nc : PyData → Bool
  | .list xs => ncs xs
  | .tuple xs => ncs xs
  | .dict _ => false
  | .none => true
  | .bool _ => true
  | .int _ => true
  | .str _ => true
def ncs : List PyData → Bool
  | [] => true
  | x :: xs => nc x && ncs xs
end
mutual
theorem nc_lay : ∀ d : PyData, PyData.canLay0 d = true → nc d = true
  | .none, _ => by rw [nc]
  | .bool _, _ => by rw [nc]
  | .int _, _ => by rw [nc]
  | .str _, _ => by rw [nc]
  | .list xs, h => by
    rw [PyData.canLay0] at h
    rw [nc]
    exact ncs_lay xs h
  | .tuple xs, h => by
    rw [PyData.canLay0] at h
    rw [nc]
    exact ncs_lay xs h
  | .dict _, h => by
    rw [PyData.canLay0] at h
    cases h
theorem ncs_lay : ∀ d : List PyData, PyData.canLayAll0 d = true → ncs d = true
  | [], _ => by rw [ncs]
  | x :: xs, h => by
    rw [PyData.canLayAll0, Bool.and_eq_true] at h
    rw [ncs, nc_lay x h.1, ncs_lay xs h.2]
    rfl
end
theorem nc_shaped {d : PyData} (h : SeqAt.shaped d = true) : nc d = true := by
  unfold SeqAt.shaped at h
  rw [Bool.and_eq_true] at h
  exact nc_lay d h.1
mutual
theorem Dq.dp {K : PySem.W.Frag} {H : Hp} : ∀ (d : PyData) (v : V), nc d = true → Dq H v d → Dp K H v d
  | .none, _, _, h => by cases h; exact .non
  | .bool _, _, _, h => by cases h; exact .bl _
  | .int _, _, _, h => by cases h; exact .int _
  | .str _, _, _, h => by cases h; exact .str _
  | .list ds, _, n, h => by
    rw [nc] at n
    cases h with
    | lst h1 h2 => exact .lst (.of h1) (DqAll.dp ds _ n h2)
  | .tuple ds, _, n, h => by
    rw [nc] at n
    cases h with
    | tup h1 h2 => exact .tup (.of h1) (DqAll.dp ds _ n h2)
  | .dict _, _, n, _ => by
    rw [nc] at n
    cases n
theorem DqAll.dp {K : PySem.W.Frag} {H : Hp} : ∀ (ds : List PyData) (vs : List V), ncs ds = true → DqAll H vs ds → DpAll K H vs ds
  | [], _, _, h => by cases h; exact .nil
  | d :: ds, _, n, h => by
    rw [ncs, Bool.and_eq_true] at n
    cases h with
    | cons h1 h2 => exact .cons (Dq.dp d _ n.1 h1) (DqAll.dp ds _ n.2 h2)
end

/-! ### data stay -/
section mono
variable {H H' : Hp}
mutual
theorem dp_mono (e : Ex H H') : ∀ (d : PyData) (v : V), Dq H v d → Dq H' v d
  | .none, _, h => by cases h; exact .non
  | .bool _, _, h => by cases h; exact .bl _
  | .int _, _, h => by cases h; exact .int _
  | .str _, _, h => by cases h; exact .str _
  | .list ds, _, h => by
    cases h with
    | lst h1 h2 => exact .lst (e _ _ h1) (dpAll_mono e ds _ h2)
  | .tuple ds, _, h => by
    cases h with
    | tup h1 h2 => exact .tup (e _ _ h1) (dpAll_mono e ds _ h2)
  | .dict _, _, h => by
    cases h with
    | cup a => exact .cup (e _ _ a)
theorem dpAll_mono (e : Ex H H') : ∀ (ds : List PyData) (vs : List V), DqAll H vs ds → DqAll H' vs ds
  | [], _, h => by cases h; exact .nil
  | d :: ds, _, h => by
    cases h with
    | cons h1 h2 => exact .cons (dp_mono e d _ h1) (dpAll_mono e ds _ h2)
end
mutual
/-- no list within -/
def noL : PyData → Bool
  | .list _ => false
  | .dict _ => false
  | .tuple xs => noLs xs
  | .none => true
  | .bool _ => true
  | .int _ => true
  | .str _ => true
def noLs : List PyData → Bool
  | [] => true
  | x :: xs => noL x && noLs xs
end
theorem noLs_all : ∀ (ds : List PyData), (∀ d ∈ ds, noL d = true) → noLs ds = true
  | [], _ => rfl
  | d :: ds, h => by
    rw [noLs, h d List.mem_cons_self, noLs_all ds fun x hx => h x (List.mem_cons_of_mem _ hx)]
    rfl
theorem noL_tuple (ds : List PyData) : noL (.tuple ds) = noLs ds := by rw [noL]
theorem noL_str (x : Str) : noL (.str x) = true := by rw [noL]
theorem noL_int (x : Int) : noL (.int x) = true := by rw [noL]
theorem noL_bool (x : Bool) : noL (.bool x) = true := by rw [noL]
theorem noLs_nil : noLs [] = true := by rw [noLs]
theorem noLs_cons (x : PyData) (xs : List PyData) : noLs (x :: xs) = (noL x && noLs xs) := by rw [noLs]
/-- all tuples stay -/
def Tst (H H' : Hp) : Prop := ∀ b xs, H b = some (.tup xs) → H' b = some (.tup xs)
theorem Tst.refl (H : Hp) : Tst H H := fun _ _ h => h
theorem Tst.trans {H1 H2 H3 : Hp} (a : Tst H1 H2) (b : Tst H2 H3) : Tst H1 H3 := fun x xs h => b x xs (a x xs h)
theorem Tst.of (e : Ex H H') : Tst H H' := fun _ _ h => e _ _ h
theorem Tst.upd {p : Addr} {o : HO} {ys : List V} (h : H p = some (.lst ys)) : Tst H (L2.upd H p o) := fun b xs q => by
  rw [upd_ne (fun z => by rw [z, h] at q; cases q)]
  exact q
mutual
theorem dp_tst (e : Tst H H') : ∀ (d : PyData) (v : V), noL d = true → Dq H v d → Dq H' v d
  | .none, _, _, h => by cases h; exact .non
  | .bool _, _, _, h => by cases h; exact .bl _
  | .int _, _, _, h => by cases h; exact .int _
  | .str _, _, _, h => by cases h; exact .str _
  | .list ds, _, n, h => by rw [noL] at n; cases n
  | .tuple ds, _, n, h => by
    rw [noL] at n
    cases h with
    | tup h1 h2 => exact .tup (e _ _ h1) (dpAll_tst e ds _ n h2)
  | .dict _, _, n, h => by rw [noL] at n; cases n
theorem dpAll_tst (e : Tst H H') : ∀ (ds : List PyData) (vs : List V), noLs ds = true → DqAll H vs ds → DqAll H' vs ds
  | [], _, _, h => by cases h; exact .nil
  | d :: ds, _, n, h => by
    rw [noLs, Bool.and_eq_true] at n
    cases h with
    | cons h1 h2 => exact .cons (dp_tst e d _ n.1 h1) (dpAll_tst e ds _ n.2 h2)
end
theorem dpAll_len : ∀ {ds : List PyData} {vs : List V}, DqAll H vs ds → vs.length = ds.length
  | [], _, h => by cases h; rfl
  | _ :: ds, _, h => by
    cases h with
    | cons _ h2 => rw [List.length_cons, List.length_cons, dpAll_len h2]
theorem dpAll_get : ∀ {ds : List PyData} {vs : List V} {i : Nat} {d : PyData}, DqAll H vs ds → ds[i]? = some d → ∃ v, vs[i]? = some v ∧ Dq H v d
  | [], _, _, _, _, e => by simp at e
  | _ :: ds, _, 0, _, h, e => by
    cases h with
    | cons h1 _ =>
      simp only [List.getElem?_cons_zero, Option.some.injEq] at e
      subst e
      exact ⟨_, rfl, h1⟩
  | _ :: ds, _, i + 1, _, h, e => by
    cases h with
    | cons _ h2 =>
      simp only [List.getElem?_cons_succ] at e
      obtain ⟨v, a, b⟩ := dpAll_get h2 e
      exact ⟨v, by simpa using a, b⟩
theorem dpAll_app : ∀ {ds es : List PyData} {vs ws : List V}, DqAll H vs ds → DqAll H ws es → DqAll H (vs ++ ws) (ds ++ es)
  | [], _, _, _, h, g => by cases h; exact g
  | _ :: ds, _, _, _, h, g => by
    cases h with
    | cons h1 h2 => exact .cons h1 (dpAll_app h2 g)
theorem dpAll_drop : ∀ (n : Nat) {ds : List PyData} {vs : List V}, DqAll H vs ds → DqAll H (vs.drop n) (ds.drop n)
  | 0, _, _, h => h
  | _ + 1, [], _, h => by cases h; exact .nil
  | n + 1, _ :: ds, _, h => by
    cases h with
    | cons _ h2 => exact dpAll_drop n h2
theorem dpAll_take : ∀ (n : Nat) {ds : List PyData} {vs : List V}, DqAll H vs ds → DqAll H (vs.take n) (ds.take n)
  | 0, _, _, _ => .nil
  | _ + 1, [], _, h => by cases h; exact .nil
  | n + 1, _ :: ds, _, h => by
    cases h with
    | cons h1 h2 => exact .cons h1 (dpAll_take n h2)
theorem dpAll_strs : ∀ {l : List Str} {vs : List V}, DqAll H vs (l.map PyData.str) → vs = l.map V.str
  | [], _, h => by cases h; rfl
  | x :: l, _, h => by
    cases h with
    | cons h1 h2 =>
      cases h1
      rw [dpAll_strs h2]
      rfl
theorem dpAll_ints : ∀ {l : List Int} {vs : List V}, DqAll H vs (l.map PyData.int) → vs = l.map V.int
  | [], _, h => by cases h; rfl
  | x :: l, _, h => by
    cases h with
    | cons h1 h2 =>
      cases h1
      rw [dpAll_ints h2]
      rfl
theorem dpAll_bools : ∀ {l : List Bool} {vs : List V}, DqAll H vs (l.map PyData.bool) → vs = l.map V.bl
  | [], _, h => by cases h; rfl
  | x :: l, _, h => by
    cases h with
    | cons h1 h2 =>
      cases h1
      rw [dpAll_bools h2]
      rfl
theorem dpAll_ofStrs : ∀ (l : List Str), DqAll H (l.map V.str) (l.map PyData.str)
  | [] => .nil
  | x :: l => .cons (.str x) (dpAll_ofStrs l)
theorem dpAll_ofInts : ∀ (l : List Int), DqAll H (l.map V.int) (l.map PyData.int)
  | [] => .nil
  | x :: l => .cons (.int x) (dpAll_ofInts l)
end mono

/-! ### slots -/
def SlotR (H : Hp) : Option V → Option PyData → Prop
  | _, none => True
  | some v, some d => Dq H v d
  | none, some _ => False
abbrev Slots (H : Hp) (σ : L2.St) (ds : DS) : Prop := Paired (SlotR H) σ ds
section slots
variable {H H' : Hp} {σ : L2.St} {ds : DS}
theorem slots_mono (e : Ex H H') : ∀ {σ : L2.St} {ds : DS}, Slots H σ ds → Slots H' σ ds
  | _, _, .nil => .nil
  | a :: _, b :: _, .cons r t => .cons (by
      match a, b, r with
      | _, none, _ => trivial
      | some v, some d, r => exact dp_mono e d v r
      | none, some _, r => exact r.elim) (slots_mono e t)
theorem slots_get : ∀ {σ : L2.St} {ds : DS} {i : Nat} {d : PyData}, Slots H σ ds → ds[i]? = some (some d) → ∃ v, σ[i]? = some (some v) ∧ Dq H v d
  | _, _, _, _, .nil, e => by simp at e
  | a :: _, b :: _, 0, d, .cons r t, e => by
    have e : b = some d := by simpa using e
    subst e
    match a, r with
    | some v, r => exact ⟨v, rfl, r⟩
    | none, r => exact r.elim
  | a :: _, b :: _, i + 1, d, .cons r t, e => by
    obtain ⟨v, h1, h2⟩ := slots_get (i := i) (d := d) t (by simpa using e)
    exact ⟨v, by simpa using h1, h2⟩
theorem slots_set {v : V} {d : PyData} (h : Dq H v d) : ∀ {σ : L2.St} {ds : DS} (i : Nat), Slots H σ ds → Slots H (σ.set i (some v)) (ds.set i (some d))
  | _, _, _, .nil => .nil
  | _, _, 0, .cons _ t => .cons h t
  | _, _, i + 1, .cons q t => .cons q (slots_set h i t)
theorem slots_none : ∀ {σ : L2.St} {ds : DS} (i : Nat), Slots H σ ds → Slots H (σ.set i none) (ds.set i none)
  | _, _, _, .nil => .nil
  | _, _, 0, .cons _ t => .cons trivial t
  | _, _, i + 1, .cons q t => .cons q (slots_none i t)
def wipeD (ds : DS) : List Nat → DS
  | [] => ds
  | v :: vs => (wipeD ds vs).set v none
theorem slots_wipe (h : Slots H σ ds) : ∀ vs : List Nat, Slots H (wipe σ vs) (wipeD ds vs)
  | [] => h
  | v :: vs => slots_none v (slots_wipe h vs)
def startD (n : Nat) (ds : List PyData) : DS := ds.map some ++ List.replicate (n - ds.length) none
theorem slots_rep : ∀ n : Nat, Slots H (List.replicate n none) (List.replicate n none)
  | 0 => .nil
  | n + 1 => .cons trivial (slots_rep n)
theorem slots_args : ∀ {vs : List V} {as : List PyData}, DqAll H vs as → ∀ {σ : L2.St} {ds : DS}, Slots H σ ds → Slots H (vs.map some ++ σ) (as.map some ++ ds)
  | _, [], h, _, _, r => by cases h; exact r
  | _, a :: as, h, _, _, r => by
    cases h with
    | cons h1 h2 => exact .cons h1 (slots_args h2 r)
theorem slots_start {N : List Str} {vs : List V} {as : List PyData} (h : DqAll H vs as) : Slots H (L2.start N vs) (startD N.length as) := by
  unfold L2.start startD
  rw [dpAll_len h]
  exact slots_args h (slots_rep _)
theorem wipe_idem (σ : L2.St) (vs : List Nat) : wipe (wipe σ vs) vs = wipe σ vs := by
  have key : ∀ (us : List Nat) (τ : L2.St), (∀ i ∈ us, i < τ.length → τ[i]? = some none) → wipe τ us = τ := by
    intro us
    induction us with
    | nil => intro τ _; rfl
    | cons u us ih =>
      intro τ h
      show (wipe τ us).set u none = τ
      rw [ih τ fun i hi => h i (List.mem_cons_of_mem _ hi)]
      by_cases hu : u < τ.length
      · have e := h u List.mem_cons_self hu
        exact List.ext_getElem? fun k => by
          rw [List.getElem?_set]
          by_cases c : u = k
          · subst c
            rw [if_pos rfl, if_pos hu, e]
          · rw [if_neg c]
      · exact List.set_eq_of_length_le (Nat.le_of_not_lt hu)
  refine key vs _ fun i hi hl => ?_
  have hq : (wipe σ vs)[i]? = some (wipe σ vs)[i] := List.getElem?_eq_getElem hl
  cases hx : (wipe σ vs)[i] with
  | none => rw [hq, hx]
  | some x => exact absurd hi (wipe_some (hq.trans (congrArg some hx))).2
theorem wipe_set (σ : L2.St) {i : Nat} (x : Option V) : ∀ {vs : List Nat}, i ∈ vs → wipe (σ.set i x) vs = wipe σ vs
  | [], h => by cases h
  | v :: vs, h => by
    show (wipe (σ.set i x) vs).set v none = (wipe σ vs).set v none
    by_cases c : i ∈ vs
    · rw [wipe_set σ x c]
    · have e : i = v := by
        rcases List.mem_cons.mp h with e | e
        · exact e
        · exact absurd e c
      subst e
      have key : ∀ us : List Nat, i ∉ us → wipe (σ.set i x) us = (wipe σ us).set i x := by
        intro us
        induction us with
        | nil => intro _; rfl
        | cons u us ih =>
          intro hn
          rw [List.mem_cons, not_or] at hn
          show (wipe (σ.set i x) us).set u none = ((wipe σ us).set u none).set i x
          rw [ih hn.2, List.set_comm _ _ hn.1]
      rw [key vs c, List.set_set]
end slots

/-! ### the readings that always serve -/
section w
variable {X : Cx}
structure WE (X : Cx) (e : Expr) (σ : L2.St) (H : Hp) (Q : VK) : Prop where
  run : ∀ (pins : List (Addr × Obj)) (s : Shared), Inv X pins σ H s → wpAny (model X.prog X.w) X.A (eval e X.env) (EP X pins σ Q) X.xe s
structure WT (X : Cx) (e : Expr) (σ : L2.St) (H : Hp) (Q : Bool → Hp → Prop) : Prop where
  run : ∀ (pins : List (Addr × Obj)) (s : Shared), Inv X pins σ H s → wpAny (model X.prog X.w) X.A (isTrue e X.env (eval e X.env)) (TP X pins σ Q) X.xe s
structure WA (X : Cx) (es : List Expr) (σ : L2.St) (H : Hp) (Q : List V → Hp → Prop) : Prop where
  run : ∀ (pos : Pos) (pins : List (Addr × Obj)) (s : Shared), Inv X pins σ H s → wpAny (model X.prog X.w) X.A (spliced (backTo pos (starEach es X.env))) (AP X pins σ Q) X.xe s
structure WS (X : Cx) (st : List Stmt) (D : Ends) (σ : L2.St) (H : Hp) : Prop where
  run : ∀ (pins : List (Addr × Obj)) (s : Shared), Inv X pins σ H s → wpAny (model X.prog X.w) X.A (execs st X.env) (SP X pins D) X.xe s
def wE (X : Cx) (e : Expr) : TE := fun σ H Q => WE X e σ H Q
def wT (X : Cx) (e : Expr) : TT := fun σ H Q => WT X e σ H Q
def wA (X : Cx) (es : List Expr) : TA := fun σ H Q => WA X es σ H Q
def wSs (X : Cx) (st : List Stmt) : TS := fun D σ H => WS X st D σ H
theorem wE.pe {e : Expr} : PE X e (wE X e) := ⟨fun pins s σ H Q I h => WE.run h pins s I⟩
theorem wT.pt {e : Expr} : PT X e (wT X e) := ⟨fun pins s σ H Q I h => WT.run h pins s I⟩
theorem wA.pa {es : List Expr} : PA X es (wA X es) := ⟨fun pos pins s σ H Q I h => WA.run h pos pins s I⟩
theorem wSs.ps {st : List Stmt} : PSs X st (wSs X st) := ⟨fun pins s σ H D I h => WS.run h pins s I⟩
theorem wE.of {e : Expr} {t : TE} {σ : L2.St} {H : Hp} {Q : VK} (h : PE X e t) (q : t σ H Q) : wE X e σ H Q := ⟨fun pins s I => h.run pins s σ H Q I q⟩
theorem wT.of {e : Expr} {t : TT} {σ : L2.St} {H : Hp} {Q : Bool → Hp → Prop} (h : PT X e t) (q : t σ H Q) : wT X e σ H Q := ⟨fun pins s I => h.run pins s σ H Q I q⟩
theorem wA.of {es : List Expr} {t : TA} {σ : L2.St} {H : Hp} {Q : List V → Hp → Prop} (h : PA X es t) (q : t σ H Q) : wA X es σ H Q := ⟨fun pos pins s I => h.run pos pins s σ H Q I q⟩
theorem wSs.of {st : List Stmt} {t : TS} {D : Ends} {σ : L2.St} {H : Hp} (h : PSs X st t) (q : t D σ H) : wSs X st D σ H := ⟨fun pins s I => h.run pins s σ H D I q⟩
end w

/-! ### what an expression, a test, arguments are worth -/
def Ed (X : Cx) (e : Expr) (ds : DS) (d : PyData) : Prop := ∀ (σ : L2.St) (H : Hp) (Q : VK), Slots H σ ds → (∀ v H', Ex H H' → Dq H' v d → Q v H') → wE X e σ H Q
def Et (X : Cx) (e : Expr) (ds : DS) (b : Bool) : Prop := ∀ (σ : L2.St) (H : Hp) (Q : Bool → Hp → Prop), Slots H σ ds → (∀ H', Ex H H' → Q b H') → wT X e σ H Q
def Ea (X : Cx) (es : List Expr) (ds : DS) (as : List PyData) : Prop := ∀ (σ : L2.St) (H : Hp) (Q : List V → Hp → Prop), Slots H σ ds → (∀ vs H', Ex H H' → DqAll H' vs as → Q vs H') → wA X es σ H Q
/-- a two-place rule, a rule of a call, over data -/
def RD (r : R2) (d1 d2 d : PyData) : Prop := ∀ (x y : V) (H : Hp) (Q : VK), Dq H x d1 → Dq H y d2 → (∀ v H', Ex H H' → Dq H' v d → Q v H') → r x y H Q
def RC (r : List V → Hp → VK → Prop) (as : List PyData) (d : PyData) : Prop := ∀ (vs : List V) (H : Hp) (Q : VK), DqAll H vs as → (∀ v H', Ex H H' → Dq H' v d → Q v H') → r vs H Q

section ed
variable {X : Cx} {ds : DS} {a b c e : Expr} {es : List Expr} {d d1 d2 : PyData} {pos : Pos} {p q : Bool}
theorem Ed.is {d' : PyData} (h : Ed X e ds d) (h' : d = d') : Ed X e ds d' := h' ▸ h
theorem Et.is {p' : Bool} (h : Et X e ds p) (h' : p = p') : Et X e ds p' := h' ▸ h
theorem Ed.var {i : Nat} {x : Str} (h : ds[i]? = some (some d)) (hN : X.N[i]? = some x := by rfl) (hv : Vis X.env.scope x := by first | exact Or.inl rfl | exact Or.inr (Or.inl rfl) | exact Or.inr (Or.inr rfl)) (hd : (x == ("__debug__" : Str)) = false := by decide)
    (hcd : (x == ("__classdict__" : Str)) = false := by decide) : Ed X (.Name x pos) ds d := fun σ H Q hs k => by
  obtain ⟨v, h1, h2⟩ := slots_get hs h
  exact wE.of (pe_var hN hv hd hcd) ⟨v, h1, k v H (Ex.refl H) h2⟩
theorem Ed.int {i : Int} {j : Nat} : Ed X (.Constant (.int i) j pos) ds (.int i) := fun σ H Q hs k => wE.of pe_int (k _ H (Ex.refl H) (.int i))
theorem Ed.bl {i : Bool} {j : Nat} : Ed X (.Constant (.bool i) j pos) ds (.bool i) := fun σ H Q hs k => wE.of pe_bl (k _ H (Ex.refl H) (.bl i))
theorem Ed.non {j : Nat} : Ed X (.Constant .none j pos) ds .none := fun σ H Q hs k => wE.of pe_non (k _ H (Ex.refl H) .non)
theorem Ed.str {x : Str} {j : Nat} : Ed X (.Constant (.str x) j pos) ds (.str x) := fun σ H Q hs k => wE.of pe_str (k _ H (Ex.refl H) (.str x))
theorem Ed.globI {x : Str} {i : Int} {t : Tok} (hm : X.mg x = some (.int i t)) (hg : Gl X x := by rfl) (hd : (x == ("__debug__" : Str)) = false := by decide) : Ed X (.Name x pos) ds (.int i) := fun σ H Q hs k =>
  wE.of (pe_glob (v := .int i) hg hm ⟨_, rfl⟩ hd) (k _ H (Ex.refl H) (.int i))
theorem Ed.globS {x y : Str} {t : Tok} (hm : X.mg x = some (.str y t)) (hg : Gl X x := by rfl) (hd : (x == ("__debug__" : Str)) = false := by decide) : Ed X (.Name x pos) ds (.str y) := fun σ H Q hs k =>
  wE.of (pe_glob (v := .str y) hg hm ⟨_, rfl⟩ hd) (k _ H (Ex.refl H) (.str y))
theorem Ed.op {o : Operator} {r : R2} (ho : OpR X (binaryOp o) r) (ha : Ed X a ds d1) (hb : Ed X b ds d2) (hr : RD r d1 d2 d) : Ed X (.BinOp a o b pos) ds d := fun σ H Q hs k =>
  wE.of (pe_op ho wE.pe wE.pe) (ha σ H _ hs fun x H1 e1 h1 => hb σ H1 _ (slots_mono e1 hs) fun y H2 e2 h2 => hr x y H2 Q (dp_mono e2 _ _ h1) h2 fun v H3 e3 h3 => k v H3 ((e1.trans e2).trans e3) h3)
theorem Ed.un {o : UnaryOp} {r : V → Hp → VK → Prop} (ho : UnR X (unaryOp o) r) (ha : Ed X a ds d1) (hr : ∀ (x : V) (H : Hp) (Q : VK), Dq H x d1 → (∀ v H', Ex H H' → Dq H' v d → Q v H') → r x H Q) : Ed X (.UnaryOp o a pos) ds d := fun σ H Q hs k =>
  wE.of (pe_un ho wE.pe) (ha σ H _ hs fun x H1 e1 h1 => hr x H1 Q h1 fun v H2 e2 h2 => k v H2 (e1.trans e2) h2)
theorem Ed.neg {i : Int} (ha : Ed X a ds (.int i)) : Ed X (.UnaryOp .USub a pos) ds (.int (-i)) := Ed.un un_neg ha fun x H Q h k => by
  cases h
  exact ⟨i, rfl, k _ H (Ex.refl H) (.int _)⟩
theorem Ed.cmp {o : CmpOp} {r : R2} (ho : OpR X (compareOp o) r) (ha : Ed X a ds d1) (hb : Ed X b ds d2) (hr : RD r d1 d2 d) (hm : behindInMarks o b = false := by first | exact nomark _ | rfl) : Ed X (.Compare a [o] [b] pos) ds d := fun σ H Q hs k =>
  wE.of (pe_cmpR ho wE.pe wE.pe hm) (ha σ H _ hs fun x H1 e1 h1 => hb σ H1 _ (slots_mono e1 hs) fun y H2 e2 h2 => hr x y H2 Q (dp_mono e2 _ _ h1) h2 fun v H3 e3 h3 => k v H3 ((e1.trans e2).trans e3) h3)
theorem Et.cmp {o : CmpOp} {r : R2} (ho : OpR X (compareOp o) r) (ha : Ed X a ds d1) (hb : Ed X b ds d2) (hr : RD r d1 d2 (.bool p)) (hm : behindInMarks o b = false := by first | exact nomark _ | rfl) : Et X (.Compare a [o] [b] pos) ds p := fun σ H Q hs k =>
  wT.of (pt_cmpR ho wE.pe wE.pe hm) (ha σ H _ hs fun x H1 e1 h1 => hb σ H1 _ (slots_mono e1 hs) fun y H2 e2 h2 => hr x y H2 _ (dp_mono e2 _ _ h1) h2 fun v H3 e3 h3 => by
    cases h3
    exact ⟨p, rfl, k H3 ((e1.trans e2).trans e3)⟩)
theorem Ed.chain {o o' : CmpOp} {r r' : R2} {d3 : PyData} (ho : OpR X (compareOp o) r) (ho' : OpR X (compareOp o') r') (ha : Ed X a ds d1) (hb : Ed X b ds d2) (hc : Ed X c ds d3) (hr : RD r d1 d2 (.bool p)) (hr' : p = true → RD r' d2 d3 (.bool q))
    (hm : lastMarks [o, o'] [b, c] = false := by with_unfolding_all rfl) : Ed X (.Compare a [o, o'] [b, c] pos) ds (.bool (p && q)) := fun σ H Q hs k =>
  wE.of (pe_chain ho ho' wE.pe wE.pe wE.pe hm) (ha σ H _ hs fun x H1 e1 h1 => hb σ H1 _ (slots_mono e1 hs) fun y H2 e2 h2 => hr x y H2 _ (dp_mono e2 _ _ h1) h2 fun v H3 e3 h3 => by
    cases h3
    refine ⟨p, rfl, ?_⟩
    cases p with
    | true =>
      rw [if_pos rfl]
      refine hc σ H3 _ (slots_mono ((e1.trans e2).trans e3) hs) fun z H4 e4 h4 => hr' rfl y z H4 Q (dp_mono (e3.trans e4) _ _ h2) h4 fun v H5 e5 h5 => k v H5 ((((e1.trans e2).trans e3).trans e4).trans e5) h5
    | false =>
      rw [if_neg Bool.false_ne_true]
      exact k _ H3 ((e1.trans e2).trans e3) (.bl false))
theorem Ed.and1 {o} (ha : Ed X a ds d) : Ed X (.BoolOp o [a] pos) ds d := fun σ H Q hs k => wE.of (pe_one wE.pe) (ha σ H Q hs k)
theorem Ed.and (ha : Ed X a ds (.bool p)) (hb : p = true → Ed X (.BoolOp .And (b :: es) pos) ds (.bool q)) : Ed X (.BoolOp .And (a :: b :: es) pos) ds (.bool (p && q)) := fun σ H Q hs k =>
  wE.of (pe_and wE.pe wE.pe) (ha σ H _ hs fun v H1 e1 h1 => by
    cases h1
    refine ⟨p, rfl, ?_⟩
    cases p with
    | true =>
      rw [if_pos rfl]
      exact hb rfl σ H1 _ (slots_mono e1 hs) fun v H2 e2 h2 => k v H2 (e1.trans e2) h2
    | false =>
      rw [if_neg Bool.false_ne_true]
      exact k _ H1 e1 (.bl false))
theorem Ed.or (ha : Ed X a ds (.bool p)) (hb : p = false → Ed X (.BoolOp .Or (b :: es) pos) ds (.bool q)) : Ed X (.BoolOp .Or (a :: b :: es) pos) ds (.bool (p || q)) := fun σ H Q hs k =>
  wE.of (pe_or wE.pe wE.pe) (ha σ H _ hs fun v H1 e1 h1 => by
    cases h1
    refine ⟨p, rfl, ?_⟩
    cases p with
    | true =>
      rw [if_pos rfl]
      exact k _ H1 e1 (.bl true)
    | false =>
      rw [if_neg Bool.false_ne_true]
      exact hb rfl σ H1 _ (slots_mono e1 hs) fun v H2 e2 h2 => k v H2 (e1.trans e2) h2)
theorem Ed.not (ha : Ed X a ds (.bool p)) : Ed X (.UnaryOp .Not a pos) ds (.bool (!p)) := fun σ H Q hs k =>
  wE.of (pe_not wE.pe) (ha σ H _ hs fun v H1 e1 h1 => by
    cases h1
    exact ⟨p, rfl, k _ H1 e1 (.bl _)⟩)
theorem Ed.ifE (ht : Et X c ds p) (ha : p = true → Ed X a ds d) (hb : p = false → Ed X b ds d) : Ed X (.IfExp c a b pos) ds d := fun σ H Q hs k =>
  wE.of (pe_ifExp wT.pt wE.pe wE.pe) (ht σ H _ hs fun H1 e1 => by
    cases p with
    | true =>
      rw [if_pos rfl]
      exact ha rfl σ H1 Q (slots_mono e1 hs) fun v H2 e2 h2 => k v H2 (e1.trans e2) h2
    | false =>
      rw [if_neg Bool.false_ne_true]
      exact hb rfl σ H1 Q (slots_mono e1 hs) fun v H2 e2 h2 => k v H2 (e1.trans e2) h2)
/-! tests -/
theorem Et.val (h : Ed X e ds (.bool p)) (he : ∀ whole, isTrue e X.env whole = (do let v ← whole; standAt e.pos; holding [v] (truthy v)) := by intro _; rfl) : Et X e ds p := fun σ H Q hs k =>
  wT.of (pt_val wE.pe he) (h σ H _ hs fun v H1 e1 h1 => by
    cases h1
    exact ⟨p, rfl, k H1 e1⟩)
theorem Et.not (h : Et X a ds p) : Et X (.UnaryOp .Not a pos) ds (!p) := fun σ H Q hs k => wT.of (pt_not wT.pt) (h σ H _ hs fun H1 e1 => k H1 e1)
/-- and, or chains -/
structure WW (X : Cx) (e : Expr) (σ : L2.St) (H : Hp) (Q : Bool → Hp → Prop) : Prop where
  run : ∀ (whole : Sem Value) (pins : List (Addr × Obj)) (s : Shared), Inv X pins σ H s → wpAny (model X.prog X.w) X.A (isTrue e X.env whole) (TP X pins σ Q) X.xe s
def Ew (X : Cx) (e : Expr) (ds : DS) (b : Bool) : Prop := ∀ (σ : L2.St) (H : Hp) (Q : Bool → Hp → Prop), Slots H σ ds → (∀ H', Ex H H' → Q b H') → WW X e σ H Q
theorem Ew.t (h : Ew X e ds p) : Et X e ds p := fun σ H Q hs k => ⟨fun pins s I => (h σ H Q hs k).run _ pins s I⟩
def wW (X : Cx) (e : Expr) : TT := fun σ H Q => WW X e σ H Q
theorem wW.pw : PW X e (wW X e) := ⟨fun wh pins s σ H Q I h => WW.run h wh pins s I⟩
theorem Ew.and1 (h : Et X a ds p) : Ew X (.BoolOp .And [a] pos) ds p := fun σ H Q hs k => ⟨fun wh pins s I => (pw_and1 (pos := pos) wT.pt).run wh pins s σ H Q I (h σ H Q hs k)⟩
theorem Ew.or1 (h : Et X a ds p) : Ew X (.BoolOp .Or [a] pos) ds p := fun σ H Q hs k => ⟨fun wh pins s I => (pw_or1 (pos := pos) wT.pt).run wh pins s σ H Q I (h σ H Q hs k)⟩
theorem Ew.and (h : Et X a ds p) (g : p = true → Ew X (.BoolOp .And (b :: es) pos) ds q) : Ew X (.BoolOp .And (a :: b :: es) pos) ds (p && q) := fun σ H Q hs k => ⟨fun wh pins s I =>
  (pw_and (pos := pos) wT.pt wW.pw).run wh pins s σ H Q I (h σ H _ hs fun H1 e1 => by
    cases p with
    | true =>
      rw [if_pos rfl]
      exact g rfl σ H1 Q (slots_mono e1 hs) (fun H2 e2 => k H2 (e1.trans e2))
    | false =>
      rw [if_neg Bool.false_ne_true]
      exact k H1 e1)⟩
theorem Ew.or (h : Et X a ds p) (g : p = false → Ew X (.BoolOp .Or (b :: es) pos) ds q) : Ew X (.BoolOp .Or (a :: b :: es) pos) ds (p || q) := fun σ H Q hs k => ⟨fun wh pins s I =>
  (pw_or (pos := pos) wT.pt wW.pw).run wh pins s σ H Q I (h σ H _ hs fun H1 e1 => by
    cases p with
    | true =>
      rw [if_pos rfl]
      exact k H1 e1
    | false =>
      rw [if_neg Bool.false_ne_true]
      exact g rfl σ H1 Q (slots_mono e1 hs) (fun H2 e2 => k H2 (e1.trans e2)))⟩
/-! arguments, displays, calls -/
theorem Ea.nil : Ea X [] ds [] := fun σ H Q hs k => wA.of pa_nil (k [] H (Ex.refl H) .nil)
theorem Ea.cons {as : List PyData} (h : Ed X e ds d) (r : Ea X es ds as) (hs : starEach (e :: es) X.env = (false, eval e X.env) :: starEach es X.env := by rfl) : Ea X (e :: es) ds (d :: as) := fun σ H Q hq k =>
  wA.of (pa_cons wE.pe wA.pa hs) (h σ H _ hq fun v H1 e1 h1 => r σ H1 _ (slots_mono e1 hq) fun vs H2 e2 h2 => k _ H2 (e1.trans e2) (.cons (dp_mono e2 _ _ h1) h2))
theorem Ed.tup {as : List PyData} {x1} (h : Ea X es ds as) (hl : as.length ≤ 100000) : Ed X (.Tuple es x1 pos) ds (.tuple as) := fun σ H Q hs k =>
  wE.of (pe_tup wA.pa) (h σ H _ hs fun vs H1 e1 h1 => ⟨by rw [dpAll_len h1]; exact Evl.sz_of hl, fun p hp => k _ _ (e1.trans (Ex.new hp)) (.tup upd_same (dpAll_mono (Ex.new hp) _ _ h1))⟩)
theorem Ed.lst {as : List PyData} (h : Ea X es ds as) (hl : as.length ≤ 100000) : Ed X (.List es pos) ds (.list as) := fun σ H Q hs k =>
  wE.of (pe_lst wA.pa) (h σ H _ hs fun vs H1 e1 h1 => ⟨by rw [dpAll_len h1]; exact Evl.sz_of hl, fun p hp => k _ _ (e1.trans (Ex.new hp)) (.lst upd_same (dpAll_mono (Ex.new hp) _ _ h1))⟩)
theorem Ed.callB {x : Str} {p : Pos} {id : String} {r : List V → Hp → VK → Prop} {as : List PyData} (hc : CallR X (.builtin id) r) (hm : X.mg x = none) (ha : Ea X (e :: es) ds as) (hr : RC r as d) (hv : bootBuiltins x = some (.builtin id) := by decide +kernel) (hg : Gl X x := by rfl)
    (hn : x ≠ "__name__" := by decide) (hd : (x == ("__debug__" : Str)) = false := by decide) (he : starEach (e :: es) X.env = (false, eval e X.env) :: starEach es X.env := by rfl) (hpl : (backTo pos (starEach es X.env)).any (·.1) = false := by rfl) :
    Ed X (.Call (.Name x p) (e :: es) [] pos) ds d := fun σ H Q hs k =>
  wE.of (pe_callB hc hg hm hv wA.pa hn hd he hpl) (ha σ H _ hs fun vs H1 e1 h1 => hr vs H1 Q h1 fun v H2 e2 h2 => k v H2 (e1.trans e2) h2)
theorem Ed.callTy {x : Str} {p : Pos} {T : String} {r : List V → Hp → VK → Prop} {as : List PyData} (hc : CallR X (.type T) r) (hm : X.mg x = none) (ha : Ea X (e :: es) ds as) (hr : RC r as d) (hv : bootBuiltins x = some (.type T) := by decide +kernel) (hg : Gl X x := by rfl)
    (hn : x ≠ "__name__" := by decide) (hd : (x == ("__debug__" : Str)) = false := by decide) (he : starEach (e :: es) X.env = (false, eval e X.env) :: starEach es X.env := by rfl) (hpl : (backTo pos (starEach es X.env)).any (·.1) = false := by rfl) :
    Ed X (.Call (.Name x p) (e :: es) [] pos) ds d := fun σ H Q hs k =>
  wE.of (pe_callTy hc hg hm hv wA.pa hn hd he hpl) (ha σ H _ hs fun vs H1 e1 h1 => hr vs H1 Q h1 fun v H2 e2 h2 => k v H2 (e1.trans e2) h2)
theorem Ed.ix {r : R2} (hr : IxR X r) (ha : Ed X a ds d1) (hb : Ed X b ds d2) (hd : RD r d1 d2 d) (hs : PlainIx b := by exact fun _ _ => rfl) : Ed X (.Subscript a b pos) ds d := fun σ H Q hq k =>
  wE.of (pe_ix hr wE.pe wE.pe hs) (ha σ H _ hq fun x H1 e1 h1 => hb σ H1 _ (slots_mono e1 hq) fun y H2 e2 h2 => hd x y H2 Q (dp_mono e2 _ _ h1) h2 fun v H3 e3 h3 => k v H3 ((e1.trans e2).trans e3) h3)
end ed

/-! ### a def of the text as a rule -/
def spD (R : List PyData → PyData → Prop) : Sp := fun vs H Q _ => ∃ as d, DqAll H vs as ∧ R as d ∧ ∀ v H', Ex H H' → Dq H' v d → Q v H'
structure Callee (P : Program) (w : World) (K : PySem.W.Frag) (mg : Str → Option Value) (base : Heap) (x : Str) (k : Nat) (R : List PyData → PyData → Prop) : Prop where
  ex : ∃ (f : Addr) (fd : FuncData) (ps : List Str), FnOk P w K mg base CX0 k f fd ps (spD R) ∧ mg x = some (.ref f) ∧ PySem.W.keepIn K (.ref f) = true ∧ Binds K fd ps []
theorem Ed.call {X : Cx} {ds : DS} {x : Str} {k j : Nat} {R : List PyData → PyData → Prop} {e : Expr} {es : List Expr} {as : List PyData} {d : PyData} {p pos : Pos} (C : Callee X.prog X.w X.K X.mg X.base x k R) (hr : Room j X.A) (hj : k ≤ j) (ha : Ea X (e :: es) ds as) (hR : R as d)
    (hg : Gl X x := by rfl) (hdb : (x == ("__debug__" : Str)) = false := by decide) (he : starEach (e :: es) X.env = (false, eval e X.env) :: starEach es X.env := by rfl) (hpl : (backTo pos (starEach es X.env)).any (·.1) = false := by rfl) :
    Ed X (.Call (.Name x p) (e :: es) [] pos) ds d := fun σ H Q hs q => by
  obtain ⟨f, fd, ps, F, hm, hk, hb⟩ := C.ex
  refine wE.of (pe_call F (hr.mono hj) hg hm hk hb .nil pass0 wA.pa hdb he hpl) (ha σ H _ hs fun vs H1 e1 h1 => ?_)
  rw [List.append_nil]
  exact ⟨as, d, h1, hR, fun v H2 e2 h2 => q v H2 (e1.trans e2) h2⟩

/-! ### targets -/
def wG (X : Cx) (tg : Expr) : TG := fun v σ H Q => ∀ pins s u, Inv X pins σ H s → RelV v u → wpAny (model X.prog X.w) X.A (assign tg X.env u) (fun _ s' => ∃ σ' H', Inv X pins σ' H' s' ∧ Q σ' H') X.xe s
theorem wG.pg {X : Cx} {tg : Expr} : PG X tg (wG X tg) := ⟨fun pins s σ H v u Q I r h => h pins s u I r⟩
theorem wG.of {X : Cx} {tg : Expr} {g : TG} {v : V} {σ : L2.St} {H : Hp} {Q : L2.St → Hp → Prop} (h : PG X tg g) (q : g v σ H Q) : wG X tg v σ H Q := fun pins s u I r => h.run pins s σ H v u Q I r q
/-- tg takes d; the slots is are stored -/
def Gd (X : Cx) (tg : Expr) (is : List Nat) (ds : DS) (d : PyData) (ds' : DS) : Prop := ∀ (σ : L2.St) (H : Hp) (v : V) (Q : L2.St → Hp → Prop), Slots H σ ds → Dq H v d →
  (∀ σ' H', Ex H H' → Slots H' σ' ds' → (∀ vs : List Nat, (∀ i ∈ is, i ∈ vs) → wipe σ' vs = wipe σ vs) → Q σ' H') → wG X tg v σ H Q
section gd
variable {X : Cx} {ds : DS} {d : PyData} {pos : Pos}
theorem Gd.name {i : Nat} {x : Str} (hN : X.N.Nodup) (hi : X.N[i]? = some x := by rfl) (hx : Loc X.env.scope x := by first | exact Or.inl rfl | exact Or.inr rfl) (hf : X.fn x = true ∨ X.env.scope.names.lookup x = some .local := by first | exact .inl rfl | exact .inr rfl | assumption) :
    Gd X (.Name x pos) [i] ds d (ds.set i (some d)) := fun σ H v Q hs hv k =>
  wG.of (pg_name hN hi hx hf) (k _ H (Ex.refl H) (slots_set hv i hs) fun vs h => wipe_set σ _ (h i List.mem_cons_self))
/-- two names -/
theorem Gd.two {i j : Nat} {x y : Str} {k : Nat} {px py : Pos} {d1 d2 : PyData} (hc : X.calm = true) (hN : X.N.Nodup) (hi : X.N[i]? = some x := by rfl) (hj : X.N[j]? = some y := by rfl) (hx : Loc X.env.scope x := by first | exact Or.inl rfl | exact Or.inr rfl) (hy : Loc X.env.scope y := by first | exact Or.inl rfl | exact Or.inr rfl)
    (hf : X.fn x = true ∨ X.env.scope.names.lookup x = some .local := by first | exact .inl rfl | exact .inr rfl | assumption) (hf' : X.fn y = true ∨ X.env.scope.names.lookup y = some .local := by first | exact .inl rfl | exact .inr rfl | assumption) :
    Gd X (.Tuple [.Name x px, .Name y py] k pos) [i, j] ds (.tuple [d1, d2]) ((ds.set i (some d1)).set j (some d2)) := fun σ H v Q hs hv q => by
  refine wG.of (pg_tup (n := 2) hc (pgs_cons (pg_name hN hi hx hf) (pgs_cons (pg_name hN hj hy hf') pgs_nil))) ?_
  cases hv with
  | tup h1 h2 =>
    cases h2 with
    | cons a1 h2 =>
      cases h2 with
      | cons a2 h2 =>
        cases h2
        refine ⟨_, _, rfl, .of h1, rfl, _, _, rfl, _, _, rfl, rfl, q _ H (Ex.refl H) (slots_set a2 j (slots_set a1 i hs)) fun vs h => ?_⟩
        rw [wipe_set _ _ (h j (List.mem_cons_of_mem _ List.mem_cons_self)), wipe_set _ _ (h i List.mem_cons_self)]
end gd

/-! ### what is walked -/
structure ItD (J : It) (H1 : Hp) (xs : List PyData) : Prop where
  go : ∀ i H, Ex H1 H → i < xs.length → J.go i H
  stop : ∀ H, Ex H1 H → J.stop xs.length H
  yld : ∀ i H v H', Ex H1 H → J.yld i H v H' → ∀ d, xs[i]? = some d → Ex H H' ∧ Dq H' v d
def Id (X : Cx) (tg iter : Expr) (ds : DS) (xs : List PyData) : Prop := ∃ wi : TI, PI X tg iter wi ∧ ∀ (σ : L2.St) (H : Hp) (R : It → Hp → Prop), Slots H σ ds → (∀ J H', Ex H H' → ItD J H' xs → R J H') → wi σ H R
section walks
variable {X : Cx} {tg e e2 : Expr} {ds : DS} {xs ys : List PyData} {pos p : Pos}
theorem itd_list {K : PySem.W.Frag} {a : Addr} {H1 : Hp} {vs : List V} (h : H1 a = some (.lst vs)) (g : DqAll H1 vs xs) : ItD (Itl K a) H1 xs where
  go := fun i H e hi => by
    obtain ⟨v, hv, _⟩ := dpAll_get g (List.getElem?_eq_getElem hi)
    exact ⟨vs, v, (SqL.of (e _ _ h)), hv⟩
  stop := fun H e => ⟨vs, (SqL.of (e _ _ h)), by rw [dpAll_len g]; exact Nat.le_refl _⟩
  yld := fun i H v H' e hy d hd => by
    obtain ⟨rfl, hy⟩ := hy
    obtain ⟨v', hv, hq⟩ := dpAll_get g hd
    have ev : v = v' := Option.some.inj ((hy vs ((SqL.of (e _ _ h)))).symm.trans hv)
    rw [ev]
    exact ⟨Ex.refl _, dp_mono e _ _ hq⟩
theorem itd_tup {K : PySem.W.Frag} {a : Addr} {H1 : Hp} {vs : List V} (h : H1 a = some (.tup vs)) (g : DqAll H1 vs xs) : ItD (Itt K a) H1 xs where
  go := fun i H e hi => by
    obtain ⟨v, hv, _⟩ := dpAll_get g (List.getElem?_eq_getElem hi)
    exact ⟨vs, v, (SqT.of (e _ _ h)), hv⟩
  stop := fun H e => ⟨vs, (SqT.of (e _ _ h)), by rw [dpAll_len g]; exact Nat.le_refl _⟩
  yld := fun i H v H' e hy d hd => by
    obtain ⟨rfl, hy⟩ := hy
    obtain ⟨v', hv, hq⟩ := dpAll_get g hd
    have ev : v = v' := Option.some.inj ((hy vs ((SqT.of (e _ _ h)))).symm.trans hv)
    rw [ev]
    exact ⟨Ex.refl _, dp_mono e _ _ hq⟩
theorem Id.list (h : Ed X e ds (.list xs)) : Id X tg e ds xs := ⟨_, pi_list wE.pe, fun σ H R hs k => h σ H _ hs fun v H1 e1 h1 => by
  cases h1 with
  | lst g1 g2 => exact ⟨_, rfl, ⟨_, .of g1⟩, k _ H1 e1 (itd_list g1 g2)⟩⟩
theorem Id.tup (h : Ed X e ds (.tuple xs)) : Id X tg e ds xs := ⟨_, pi_tup wE.pe, fun σ H R hs k => h σ H _ hs fun v H1 e1 h1 => by
  cases h1 with
  | tup g1 g2 => exact ⟨_, rfl, ⟨_, .of g1⟩, k _ H1 e1 (itd_tup g1 g2)⟩⟩
theorem Id.text {z : Str} (h : Ed X e ds (.str z)) : Id X tg e ds (z.cps.toList.map fun c => .str ⟨#[c]⟩) := ⟨_, pi_str wE.pe, fun σ H R hs k => h σ H _ hs fun v H1 e1 h1 => by
  cases h1
  refine ⟨z, rfl, k _ H1 e1 ⟨fun i H2 e2 hi => ?_, fun H2 e2 => ?_, fun i H2 v H' e2 hy d hd => ?_⟩⟩
  · rw [List.length_map, Array.length_toList] at hi
    exact hi
  · rw [List.length_map, Array.length_toList]
    exact Nat.le_refl _
  · obtain ⟨rfl, c, hc, rfl⟩ := hy
    rw [List.getElem?_map, Array.getElem?_toList, hc] at hd
    cases hd
    exact ⟨Ex.refl _, .str _⟩⟩
theorem Id.zipT {elts : List Expr} {kk : Nat} {tpos : Pos} (hl : ys.length = xs.length) (hm : X.mg "zip" = none) (h : Ed X e ds (.tuple xs)) (h2 : Ed X e2 ds (.tuple ys)) (hg : Gl X "zip" := by rfl)
    (he : starEach (e :: [e2]) X.env = (false, eval e X.env) :: starEach [e2] X.env := by rfl) (he2 : starEach (e2 :: []) X.env = (false, eval e2 X.env) :: starEach [] X.env := by rfl) (hpl : (backTo pos (starEach [e2] X.env)).any (·.1) = false := by rfl) :
    Id X (.Tuple elts kk tpos) (.Call (.Name "zip" p) [e, e2] [] pos) ds ((xs.zip ys).map fun q => .tuple [q.1, q.2]) := by
  refine ⟨_, RZ.pi_zipA hg hm (pa_cons wE.pe (pa_cons wE.pe pa_nil he2) he) he hpl, fun σ H R hs k => h σ H _ hs fun v H1 e1 h1 => h2 σ H1 _ (slots_mono e1 hs) fun v2 H3 e3 h3 => ?_⟩
  cases h1 with
  | tup g1 g2 =>
    cases h3 with
    | tup f1 f2 =>
      rename_i va a1 vb b1
      have g1' := e3 _ _ g1
      have g2' := dpAll_mono e3 _ _ g2
      refine ⟨_, _, _, _, rfl,   .inr ⟨.of g1', .of f1, k _ H3 (e1.trans e3) ⟨fun i H4 e4 hi => ?_, fun H4 e4 => ?_, fun i H4 v H' e4 hy d hd => ?_⟩⟩⟩
      · rw [List.length_map, List.length_zip] at hi
        have hx : i < xs.length := by omega
        have hy : i < ys.length := by omega
        obtain ⟨u1, q1, _⟩ := dpAll_get g2' (List.getElem?_eq_getElem hx)
        obtain ⟨u2, q2, _⟩ := dpAll_get f2 (List.getElem?_eq_getElem hy)
        exact ⟨_, _, u1, u2, SqT.of (e4 _ _ g1'), SqT.of (e4 _ _ f1), q1, q2⟩
      · refine ⟨_, _, SqT.of (e4 _ _ g1'), SqT.of (e4 _ _ f1), .inl ?_⟩
        rw [List.length_map, List.length_zip, dpAll_len g2']
        omega
      · obtain ⟨T, x, y, rfl, nT, rfl, r1, r2⟩ := hy
        rw [List.getElem?_map] at hd
        have hi : i < (xs.zip ys).length := by
          rcases Nat.lt_or_ge i (xs.zip ys).length with c | c
          · exact c
          · rw [List.getElem?_eq_none c] at hd
            cases hd
        rw [List.length_zip] at hi
        have hx : i < xs.length := by omega
        have hy : i < ys.length := by omega
        have ez : (xs.zip ys)[i]? = some (xs[i], ys[i]) := by
          rw [List.getElem?_eq_getElem (by rw [List.length_zip]; omega), List.getElem_zip]
        rw [ez] at hd
        cases hd
        obtain ⟨u1, q1, w1⟩ := dpAll_get g2' (List.getElem?_eq_getElem hx)
        obtain ⟨u2, q2, w2⟩ := dpAll_get f2 (List.getElem?_eq_getElem hy)
        have ex : x = u1 := Option.some.inj ((r1 _ (SqT.of (e4 _ _ g1'))).symm.trans q1)
        have ey : y = u2 := Option.some.inj ((r2 _ (SqT.of (e4 _ _ f1))).symm.trans q2)
        subst ex ey
        exact ⟨Ex.new nT, .tup upd_same (.cons (dp_mono (e4.trans (Ex.new nT)) _ _ w1) (.cons (dp_mono (e4.trans (Ex.new nT)) _ _ w2) .nil))⟩
theorem Id.range {n : Nat} (hm : X.mg "range" = none) (h : Ed X e ds (.int n)) (hn : n ≤ 100000) (hg : Gl X "range" := by rfl) (he : starEach (e :: []) X.env = (false, eval e X.env) :: starEach [] X.env := by rfl) (hs1 : starEach [e] X.env = [(false, eval e X.env)] := by rfl) :
    Id X tg (.Call (.Name "range" p) [e] [] pos) ds ((List.range n).map fun i => .int (i : Nat)) := by
  refine ⟨_, pi_range1 hg hm (pa_cons wE.pe pa_nil he) hs1, fun σ H R hs k => h σ H _ hs fun v H1 e1 h1 => ?_⟩
  cases h1
  refine ⟨n, rfl, by omega, by omega, ?_⟩
  refine k _ H1 e1 ⟨fun i H2 e2 hi => ?_, fun H2 e2 => ?_, fun i H2 v H' e2 hy d hd => ?_⟩
  · rw [List.length_map, List.length_range] at hi
    show i < ((n : Int)).toNat
    omega
  · rw [List.length_map, List.length_range]
    show ((n : Int)).toNat ≤ n
    omega
  · obtain ⟨rfl, rfl⟩ := hy
    rw [List.getElem?_map] at hd
    have hi : i < n := by
      rcases Nat.lt_or_ge i n with c | c
      · exact c
      · rw [List.getElem?_eq_none (by rw [List.length_range]; exact c)] at hd
        cases hd
    rw [List.getElem?_range hi] at hd
    cases hd
    have e0 : (0 : Int) + (i : Int) = (i : Int) := Int.zero_add _
    rw [e0]
    exact ⟨Ex.refl _, .int _⟩
end walks

/-! ### list comprehensions -/
/-- a clause's tests -/
def wTs (X : Cx) (ifs : List Expr) : TT := fun σ H Q => ∀ pins s, Inv X pins σ H s →
  wpAny (model X.prog X.w) X.A (forIn ifs true fun c r => if r = true then do let ok ← isTrue c X.env (eval c X.env); pure (ForInStep.yield ok) else pure (ForInStep.yield r)) (TP X pins σ Q) X.xe s
theorem wTs.pts {X : Cx} {ifs : List Expr} : PTs X ifs (wTs X ifs) := ⟨fun pins s σ H Q I h => h pins s I⟩
def Es (X : Cx) (ifs : List Expr) (ds : DS) (b : Bool) : Prop := ∀ (σ : L2.St) (H : Hp) (Q : Bool → Hp → Prop), Slots H σ ds → (∀ H', Ex H H' → Q b H') → wTs X ifs σ H Q
theorem Es.nil {X : Cx} {ds : DS} : Es X [] ds true := fun σ H Q hs k pins s I => pts_nil.run pins s σ H Q I (k H (Ex.refl H))
theorem Es.one {X : Cx} {c : Expr} {ds : DS} {b : Bool} (h : Et X c ds b) : Es X [c] ds b := fun σ H Q hs k pins s I => (pts_one (t := wT X c) wT.pt).run pins s σ H Q I (h σ H Q hs k)
section lc
variable {X : Cx} {ds : DS}
theorem lc_data {α : Type} {J : It} {H1 : Hp} {D : Addr} {ts : List α} {enc y : α → PyData} {b : α → Bool} {σ : L2.St} {vs : List Nat} {g : TG} {tt : TT} {te : TE} {Qd : Hp → Prop} (hJ : ItD J H1 (ts.map enc)) (hD : H1 D = none) (hz : ts.length ≤ 100000)
    (hn : ∀ t ∈ ts, b t = true → noL (y t) = true)
    (turn : ∀ t ∈ ts, ∀ x H (Nx Yx : Hp → Prop), Ex H1 H → Dq H x (enc t) → (∀ H2, Ex H H2 → b t = false → Nx H2) →
      (∀ v H2, Ex H H2 → b t = true → Dq H2 v (y t) → ∃ acc, H2 D = some (.lst acc) ∧ acc.length < sizeLine ∧ Nx (upd H2 D (.lst (acc ++ [v])))) →
      g x (wipe σ vs) H fun σ2 H2 => wipe σ2 vs = wipe σ vs ∧ tt σ2 H2 fun b H3 => if b = true then te σ2 H3 fun y H4 => ∃ acc, H4 D = some (.lst acc) ∧ acc.length < sizeLine ∧ Nx (upd H4 D (.lst (acc ++ [y]))) else Nx H3)
    (hd : ∀ H vs', Ex H1 H → H D = some (.lst vs') → DqAll H vs' ((ts.filter b).map y) → Qd H) :
    ∃ W : Nat → Nat → Hp → Prop, (∃ m, W 0 m (upd H1 D (.lst []))) ∧ ∀ i m H, W i m H →
      (J.stop i H ∧ Qd H) ∨ (J.go i H ∧ ∃ Nx : Hp → Prop, (∀ H', Nx H' → ∃ m', m' < m ∧ W (i + 1) m' H') ∧ ∀ x H', J.yld i H x H' → g x (wipe σ vs) H' fun σ2 H2 => wipe σ2 vs = wipe σ vs ∧ tt σ2 H2 fun b H3 =>
        if b = true then te σ2 H3 fun y H4 => ∃ acc, H4 D = some (.lst acc) ∧ acc.length < sizeLine ∧ Nx (upd H4 D (.lst (acc ++ [y]))) else Nx H3) := by
  have hnl : ∀ i, noLs (((ts.take i).filter b).map y) = true := fun i => noLs_all _ fun d hd => by
    obtain ⟨t, ht, rfl⟩ := List.mem_map.mp hd
    obtain ⟨h1, h2⟩ := List.mem_filter.mp ht
    exact hn t (List.mem_of_mem_take h1) h2
  refine ⟨fun i m H => m = ts.length - i ∧ i ≤ ts.length ∧ Ex H1 H ∧ ∃ acc, H D = some (.lst acc) ∧ DqAll H acc (((ts.take i).filter b).map y), ⟨ts.length, by omega, Nat.zero_le _, Ex.new hD, [], upd_same, .nil⟩, ?_⟩
  rintro i m H ⟨rfl, hi, e1, acc, ha, hq⟩
  by_cases hlt : i < ts.length
  · refine .inr ⟨hJ.go i H e1 (by rw [List.length_map]; exact hlt), fun H' => i + 1 ≤ ts.length ∧ Ex H1 H' ∧ ∃ acc, H' D = some (.lst acc) ∧ DqAll H' acc (((ts.take (i + 1)).filter b).map y), fun H' p => ⟨ts.length - (i + 1), by omega, rfl, p⟩, fun x H' hy => ?_⟩
    have ht : ts[i] ∈ ts := List.getElem_mem hlt
    have htk : ts.take (i + 1) = ts.take i ++ [ts[i]] := by rw [List.take_succ, List.getElem?_eq_getElem hlt]; rfl
    obtain ⟨e2, hx⟩ := hJ.yld i H x H' e1 hy (enc ts[i]) (by rw [List.getElem?_map, List.getElem?_eq_getElem hlt]; rfl)
    refine turn ts[i] ht x H' _ (fun _ => True) (e1.trans e2) hx (fun H2 e3 hb => ⟨hlt, (e1.trans e2).trans e3, acc, e3 _ _ (e2 _ _ ha), ?_⟩) fun v H2 e3 hb hv => ?_
    · rw [htk, List.filter_append, List.filter_cons_of_neg (by rw [hb]; decide), List.filter_nil, List.append_nil]
      exact dpAll_mono (e2.trans e3) _ _ hq
    · have hD2 := e3 _ _ (e2 _ _ ha)
      have hq2 := dpAll_mono (e2.trans e3) _ _ hq
      have hl : acc.length < sizeLine := by
        rw [dpAll_len hq, List.length_map]
        have q1 := List.length_filter_le b (ts.take i)
        have q2 := List.length_take_le i ts
        exact Evl.sz_lt (by omega)
      refine ⟨acc, hD2, hl, hlt, ((e1.trans e2).trans e3).mut hD, acc ++ [v], upd_same, ?_⟩
      rw [htk, List.filter_append, List.filter_cons_of_pos hb, List.filter_nil, List.map_append]
      exact dpAll_app (dpAll_tst (Tst.upd hD2) _ _ (hnl i) hq2) (.cons (dp_tst (Tst.upd hD2) _ _ (hn _ ht hb) hv) .nil)
  · have e : i = ts.length := by omega
    subst e
    rw [List.take_length] at hq
    refine .inl ⟨?_, hd H acc e1 ha hq⟩
    have q := hJ.stop H e1
    rw [List.length_map] at q
    exact q
/-- the comprehension's block, whatever it begins with -/
structure LcD {α : Type} (X : Cx) (elt tg : Expr) (ifs : List Expr) (scope : Scope) (own : List (Str × Nat)) (ds : DS) (ts : List α) (enc y : α → PyData) (b : α → Bool) : Prop where
  ok : BlkOk X.N X.env.scope scope own
  turn : ∃ (is : List Nat) (env : α → DS), (∀ i ∈ is, i ∈ own.map (·.2)) ∧ ∀ (s : Shared) (H : Hp) (C : Addr) (cl : List (Str × Addr)) (fp : List Addr), ∀ t ∈ ts,
    Gd (X.blk s H scope (compEnvC scope cl C X.env) fp) tg is (wipeD ds (own.map (·.2))) (enc t) (env t) ∧ Es (X.blk s H scope (compEnvC scope cl C X.env) fp) ifs (env t) (b t) ∧ (b t = true → Ed (X.blk s H scope (compEnvC scope cl C X.env) fp) elt (env t) (y t))
  flat : ∀ t ∈ ts, b t = true → noL (y t) = true
  few : ts.length ≤ 100000
variable {α : Type} {elt tg iter : Expr} {ifs : List Expr} {scope : Scope} {own : List (Str × Nat)} {ts : List α} {enc y : α → PyData} {b : α → Bool} {pos : Pos}
abbrev gL (X : Cx) (scope : Scope) (tg : Expr) : TG := fun v σ H Q => ∀ (s : Shared) (H0 : Hp) (C : Addr) (cl : List (Str × Addr)) (fp : List Addr), wG (X.blk s H0 scope (compEnvC scope cl C X.env) fp) tg v σ H Q
abbrev tL (X : Cx) (scope : Scope) (ifs : List Expr) : TT := fun σ H Q => ∀ (s : Shared) (H0 : Hp) (C : Addr) (cl : List (Str × Addr)) (fp : List Addr), wTs (X.blk s H0 scope (compEnvC scope cl C X.env) fp) ifs σ H Q
abbrev eL (X : Cx) (scope : Scope) (elt : Expr) : TE := fun σ H Q => ∀ (s : Shared) (H0 : Hp) (C : Addr) (cl : List (Str × Addr)) (fp : List Addr), wE (X.blk s H0 scope (compEnvC scope cl C X.env) fp) elt σ H Q
theorem LcD.reads (L : LcD X elt tg ifs scope own ds ts enc y b) {wi : TI} (hwi : ∀ (σ : L2.St) (H : Hp) (R : It → Hp → Prop), Slots H σ ds → (∀ J H', Ex H H' → ItD J H' (ts.map enc) → R J H') → wi σ H R) {σ : L2.St} {H : Hp} {Q : VK} (hs : Slots H σ ds)
    (k : ∀ v H', Ex H H' → Dq H' v (.list ((ts.filter b).map y)) → Q v H') : tLc wi (gL X scope tg) (tL X scope ifs) (eL X scope elt) (own.map (·.2)) σ H Q := by
  obtain ⟨is, env, his, ht⟩ := L.turn
  refine hwi σ H _ hs fun J H1 e1 hJ D hD => lc_data hJ hD L.few L.flat (fun t htm x H2 Nx _ e2 hx h0 h1 => ?_) fun H2 vs' e2 hq hd => k _ H2 (e1.trans e2) (.lst hq hd)
  intro s H0 C cl fp
  have hs2 := slots_wipe (slots_mono (e1.trans e2) hs) (own.map (·.2))
  refine (ht s H0 C cl fp t htm).1 _ H2 x _ hs2 hx fun σ' H3 e3 hs3 hw => ⟨(hw _ his).trans (wipe_idem σ _), fun s H0 C cl fp => ?_⟩
  refine (ht s H0 C cl fp t htm).2.1 σ' H3 _ hs3 fun H4 e4 => ?_
  cases hb : b t with
  | true =>
    rw [if_pos rfl]
    exact fun s H0 C cl fp => (ht s H0 C cl fp t htm).2.2 hb σ' H4 _ (slots_mono e4 hs3) fun v H5 e5 hv => h1 v H5 ((e3.trans e4).trans e5) hb hv
  | false =>
    rw [if_neg Bool.false_ne_true]
    exact h0 H4 (e3.trans e4) hb
theorem Ed.lc (L : LcD X elt tg ifs scope own ds ts enc y b) (hi : Id X tg iter ds (ts.map enc)) (hN : X.N.Nodup) (hc : X.calm = true := by rfl) (hs : ∀ x, foldedSetIterable iter X.env x = pure x := by intro _; rfl) :
    Ed X (.ListComp elt [⟨tg, iter, ifs, 0⟩] scope pos) ds (.list ((ts.filter b).map y)) := fun σ H Q hq k => by
  obtain ⟨wi, h1, h2⟩ := hi
  exact wE.of (pe_lc (g := gL X scope tg) (tt := tL X scope ifs) (te := eL X scope elt) hc hN h1 L.ok (fun s H C cl fp => ⟨fun pins s' σ' H' v u Q' I r h => h s H C cl fp pins s' u I r⟩) (fun s H C cl fp => ⟨fun pins s' σ' H' Q' I h => h s H C cl fp pins s' I⟩)
    (fun s H C cl fp => ⟨fun pins s' σ' H' Q' I h => WE.run (h s H C cl fp) pins s' I⟩) hs) (L.reads h2 hq k)
end lc

/-! ### statements -/
structure DE where
  nx : DS → Prop := fun _ => False
  rt : PyData → Prop := fun _ => False
  bk : DS → Prop := fun _ => False
  ct : DS → Prop := fun _ => False
structure Link (H0 : Hp) (N : DE) (D : Ends) : Prop where
  nx : ∀ ds σ H, N.nx ds → Ex H0 H → Slots H σ ds → D.nx σ H
  rt : ∀ d v H, N.rt d → Ex H0 H → Dq H v d → D.rt v H
  bk : ∀ ds σ H, N.bk ds → Ex H0 H → Slots H σ ds → D.bk σ H
  ct : ∀ ds σ H, N.ct ds → Ex H0 H → Slots H σ ds → D.ct σ H
def Sd (X : Cx) (sts : List Stmt) (ds : DS) (N : DE) : Prop := ∀ (H0 : Hp) (σ : L2.St) (H : Hp) (D : Ends), Ex H0 H → Slots H σ ds → Link H0 N D → wSs X sts D σ H
section sd
variable {X : Cx} {ds : DS} {N : DE} {rest : List Stmt} {e c : Expr} {d : PyData} {pos : Pos}
theorem Sd.nil (h : N.nx ds) : Sd X [] ds N := fun H0 σ H D e hs L => wSs.of pss_nil (L.nx ds σ H h e hs)
theorem Sd.ret (he : Ed X e ds d) (h : N.rt d) : Sd X (.Return (some e) pos :: rest) ds N := fun H0 σ H D e1 hs L =>
  wSs.of (pss_cons (ps_ret wE.pe) wSs.ps) (he σ H _ hs fun v H1 e2 hv => L.rt d v H1 h (e1.trans e2) hv)
theorem Sd.set {i : Nat} {x : Str} {p' : Pos} (he : Ed X e ds d) (hr : Sd X rest (ds.set i (some d)) N) (hN : X.N.Nodup) (hi : X.N[i]? = some x := by rfl) (hx : Loc X.env.scope x := by first | exact Or.inl rfl | exact Or.inr rfl) (hs : swapsWith e (some (.Name x p')) pos.line X.env = pure false := by rfl)
    (hf : X.fn x = true ∨ X.env.scope.names.lookup x = some .local := by first | exact .inl rfl | exact .inr rfl | assumption) : Sd X (.Assign [.Name x p'] e pos :: rest) ds N := fun H0 σ H D e1 hq L =>
  wSs.of (pss_cons (ps_set hN hi hx wE.pe hs hf) wSs.ps) (he σ H _ hq fun v H1 e2 hv => hr H0 _ H1 D (e1.trans e2) (slots_set hv i (slots_mono e2 hq)) L)
theorem Sd.setLc {α : Type} {elt tg iter : Expr} {ifs : List Expr} {scope : Scope} {own : List (Str × Nat)} {ts : List α} {enc y : α → PyData} {b : α → Bool} {i : Nat} {x : Str} {p' lp : Pos} (L : LcD X elt tg ifs scope own ds ts enc y b) (hi : Id X tg iter ds (ts.map enc))
    (hr : Sd X rest (ds.set i (some (.list ((ts.filter b).map y)))) N) (hN : X.N.Nodup) (hsw : swapsWith (.ListComp elt [⟨tg, iter, ifs, 0⟩] scope lp) (some (.Name x p')) pos.line X.env = pure true) (hy : X.N[i]? = some x := by rfl) (hyl : X.env.scope.names.lookup x = some .local := by rfl)
    (hc : X.calm = true := by rfl) (hs : ∀ x, foldedSetIterable iter X.env x = pure x := by intro _; rfl) : Sd X (.Assign [.Name x p'] (.ListComp elt [⟨tg, iter, ifs, 0⟩] scope lp) pos :: rest) ds N := fun H0 σ H D e1 hq K => by
  obtain ⟨wi, h1, h2⟩ := hi
  refine wSs.of (pss_cons (ps_setLc (i := i) (g := gL X scope tg) (tt := tL X scope ifs) (te := eL X scope elt) hc hN hy hyl hsw h1 L.ok (fun s H C cl fp => ⟨fun pins s' σ' H' v u Q' I r h => h s H C cl fp pins s' u I r⟩) (fun s H C cl fp => ⟨fun pins s' σ' H' Q' I h => h s H C cl fp pins s' I⟩)
    (fun s H C cl fp => ⟨fun pins s' σ' H' Q' I h => WE.run (h s H C cl fp) pins s' I⟩) hs) wSs.ps) ?_
  exact L.reads h2 hq fun v H1 e2 hv => hr H0 _ H1 D (e1.trans e2) (slots_set hv i (slots_mono e2 hq)) K
theorem Sd.if_ {a b : List Stmt} {p : Bool} (ht : Et X c ds p) (ha : p = true → Sd X a ds { N with nx := fun ds' => Sd X rest ds' N }) (hb : p = false → Sd X b ds { N with nx := fun ds' => Sd X rest ds' N }) : Sd X (.If c a b pos :: rest) ds N := fun H0 σ H D e1 hq L => by
  refine wSs.of (pss_cons (ps_if wT.pt wSs.ps wSs.ps) wSs.ps) (ht σ H _ hq fun H1 e2 => ?_)
  have L' : Link H0 { N with nx := fun ds' => Sd X rest ds' N } { D with nx := wSs X rest D } := ⟨fun ds' σ' H' h e hs => h H0 σ' H' D e hs L, L.rt, L.bk, L.ct⟩
  cases p with
  | true =>
    rw [if_pos rfl]
    exact ha rfl H0 σ H1 _ (e1.trans e2) (slots_mono e2 hq) L'
  | false =>
    rw [if_neg Bool.false_ne_true]
    exact hb rfl H0 σ H1 _ (e1.trans e2) (slots_mono e2 hq) L'
/-- an if without else, its test false -/
theorem Sd.skip {a : List Stmt} (ht : Et X c ds false) (hr : Sd X rest ds N) : Sd X (.If c a [] pos :: rest) ds N := Sd.if_ ht (fun h => by cases h) fun _ => Sd.nil hr
theorem Sd.expr (he : Ed X e ds d) (hr : Sd X rest ds N) (hs : swapsWith e none pos.line X.env = pure false := by rfl) : Sd X (.Expr e pos :: rest) ds N := fun H0 σ H D e1 hq L =>
  wSs.of (pss_cons (ps_expr wE.pe hs) wSs.ps) (he σ H _ hq fun v H1 e2 hv => hr H0 _ H1 D (e1.trans e2) (slots_mono e2 hq) L)
/-- a, b = x, y -/
theorem Sd.par {i j : Nat} {x y : Str} {a b : Expr} {d1 d2 : PyData} {px py pt pt2 : Pos} {kt k2} (h1 : Ed X a ds d1) (h2 : Ed X b ds d2) (hr : Sd X rest ((ds.set i (some d1)).set j (some d2)) N) (hN : X.N.Nodup) (hw : swappedStores [.Tuple [.Name x px, .Name y py] kt pt] (.Tuple [a, b] k2 pt2) X.env = pure (some [x, y]) := by rfl)
    (hi : X.N[i]? = some x := by rfl) (hj : X.N[j]? = some y := by rfl) (hij : i ≠ j := by decide) (hx : X.env.scope.names.lookup x = some .local := by rfl) (hy : X.env.scope.names.lookup y = some .local := by rfl) (hc : X.calm = true := by rfl)
    (hs : swapsWithSole [.Tuple [.Name x px, .Name y py] kt pt] (.Tuple [a, b] k2 pt2) pos.line X.env = pure false := by rfl) (he : starEach (a :: [b]) X.env = (false, eval a X.env) :: starEach [b] X.env := by rfl) (he2 : starEach (b :: []) X.env = (false, eval b X.env) :: starEach [] X.env := by rfl) :
    Sd X (.Assign [.Tuple [.Name x px, .Name y py] kt pt] (.Tuple [a, b] k2 pt2) pos :: rest) ds N := fun H0 σ H D e1 hq L =>
  wSs.of (pss_cons (ps_par (i := i) (j := j) hc hN hi hj hij hx hy (pa_cons wE.pe (pa_cons wE.pe pa_nil he2) he) hw hs) wSs.ps) (h1 σ H _ hq fun v H1 e2 hv => h2 σ H1 _ (slots_mono e2 hq) fun w H2 e3 hw => ⟨v, w, rfl, hr H0 _ H2 D ((e1.trans e2).trans e3) (slots_set hw j (slots_set (dp_mono e3 _ _ hv) i (slots_mono (e2.trans e3) hq))) L⟩)
/-- a target takes a value -/
theorem Sd.asg {tg : Expr} {is : List Nat} {ds' : DS} (he : Ed X e ds d) (hg : Gd X tg is ds d ds') (hr : Sd X rest ds' N) (hs : swapsWithSole [tg] e pos.line X.env = pure false := by rfl) (hw : swappedStores [tg] e X.env = pure none := by rfl) (h1 : (assignEach [tg] X.env).map (·.2) = [assign tg X.env] := by rfl) :
    Sd X (.Assign [tg] e pos :: rest) ds N := fun H0 σ H D e1 hq L =>
  wSs.of (pss_cons (ps_asg wE.pe wG.pg hs hw h1) wSs.ps) (he σ H _ hq fun v H1 e2 hv => hg σ H1 v _ (slots_mono e2 hq) hv fun σ' H2 e3 h3 _ => hr H0 σ' H2 D ((e1.trans e2).trans e3) h3 L)
theorem Sd.for_ {tg iter : Expr} {body : List Stmt} {xs : List PyData} (hi : Id X tg iter ds xs) (I : Nat → DS → Prop) (h0 : I 0 ds)
    (ht : ∀ i x ds', xs[i]? = some x → I i ds' → ∃ is ds2, Gd X tg is ds' x ds2 ∧ Sd X body ds2 { nx := I (i + 1), rt := N.rt, bk := fun d' => Sd X rest d' N, ct := I (i + 1) }) (hd : ∀ ds', I xs.length ds' → Sd X rest ds' N) (hp : PassesOwn (model X.prog X.w) X.A X.env X.xe := by exact PassesOwn.never)
    (hc : X.calm = true := by rfl) (hs : ∀ x, foldedSetIterable iter X.env x = pure x := by intro _; rfl) : Sd X (.For tg iter body [] pos :: rest) ds N := fun H0 σ H D e1 hq L => by
  obtain ⟨wi, h1, h2⟩ := hi
  refine wSs.of (pss_cons (ps_for hp hc h1 wG.pg wSs.ps hs) wSs.ps) (h2 σ H _ hq fun J H1 e2 hJ => ?_)
  refine ⟨fun i m σ' H' => m = xs.length - i ∧ i ≤ xs.length ∧ Ex H1 H' ∧ ∃ ds', I i ds' ∧ Slots H' σ' ds', ⟨xs.length, by omega, Nat.zero_le _, Ex.refl _, ds, h0, slots_mono e2 hq⟩, ?_⟩
  rintro i m σ' H' ⟨rfl, hi, e3, ds', hI, hs'⟩
  by_cases hlt : i < xs.length
  · refine .inr ⟨hJ.go i H' e3 hlt, fun σ'' H'' => Ex H1 H'' ∧ ∃ ds', I (i + 1) ds' ∧ Slots H'' σ'' ds', fun σ'' H'' ⟨q1, ds2, q2, q3⟩ => ⟨xs.length - (i + 1), by omega, rfl, hlt, q1, ds2, q2, q3⟩, fun x H2 hy => ?_⟩
    obtain ⟨e4, hx⟩ := hJ.yld i H' x H2 e3 hy _ (List.getElem?_eq_getElem hlt)
    obtain ⟨is, ds2, g, b⟩ := ht i _ ds' (List.getElem?_eq_getElem hlt) hI
    refine g σ' H2 x _ (slots_mono e4 hs') hx fun σ3 H3 e5 hs3 _ => b H1 σ3 H3 _ ((e3.trans e4).trans e5) hs3 ⟨fun ds3 σ4 H4 h e hs4 => ⟨e, ds3, h, hs4⟩, fun d v H4 h e hv => L.rt d v H4 h ((e1.trans e2).trans e) hv, fun ds3 σ4 H4 h e hs4 => h H0 σ4 H4 D ((e1.trans e2).trans e) hs4 L, fun ds3 σ4 H4 h e hs4 => ⟨e, ds3, h, hs4⟩⟩
  · have e : i = xs.length := by omega
    subst e
    exact .inl ⟨hJ.stop H' e3, hd ds' hI H0 σ' H' D ((e1.trans e2).trans e3) hs' L⟩
theorem Sd.while_ {body : List Stmt} (I : Nat → DS → Prop) (m0 : Nat) (h0 : I m0 ds)
    (ht : ∀ m ds', I m ds' → ∃ p, Et X c ds' p ∧ (p = true → Sd X body ds' { nx := fun d' => ∃ m', m' < m ∧ I m' d', rt := N.rt, bk := fun d' => Sd X rest d' N, ct := fun d' => ∃ m', m' < m ∧ I m' d' }) ∧ (p = false → Sd X rest ds' N)) (hp : PassesOwn (model X.prog X.w) X.A X.env X.xe := by exact PassesOwn.never) :
    Sd X (.While c body [] pos :: rest) ds N := fun H0 σ H D e1 hq L => by
  refine wSs.of (pss_cons (ps_while hp wT.pt wSs.ps) wSs.ps) ⟨fun m σ' H' => Ex H0 H' ∧ ∃ ds', I m ds' ∧ Slots H' σ' ds', ⟨m0, e1, ds, h0, hq⟩, ?_⟩
  rintro m σ' H' ⟨e2, ds', hI, hs'⟩
  obtain ⟨p, t, hT, hF⟩ := ht m ds' hI
  refine t σ' H' _ hs' fun H1 e3 => ?_
  cases p with
  | true =>
    rw [if_pos rfl]
    refine ⟨fun σ2 H2 => Ex H0 H2 ∧ ∃ m', m' < m ∧ ∃ ds2, I m' ds2 ∧ Slots H2 σ2 ds2, fun σ2 H2 ⟨q1, m', q2, ds2, q3, q4⟩ => ⟨m', q2, q1, ds2, q3, q4⟩, ?_⟩
    exact hT rfl H0 σ' H1 _ (e2.trans e3) (slots_mono e3 hs') ⟨fun d2 σ2 H2 ⟨m', a1, a2⟩ e hs2 => ⟨e, m', a1, d2, a2, hs2⟩, L.rt, fun d2 σ2 H2 h e hs2 => h H0 σ2 H2 D e hs2 L, fun d2 σ2 H2 ⟨m', a1, a2⟩ e hs2 => ⟨e, m', a1, d2, a2, hs2⟩⟩
  | false =>
    rw [if_neg Bool.false_ne_true]
    exact hF rfl H0 σ' H1 D (e2.trans e3) (slots_mono e3 hs') L
end sd
/-- a def whose body is shown over data -/
theorem callee_mk {P : Program} {w : World} {K : PySem.W.Frag} {mg : Str → Option Value} {base : Heap} {x : Str} {st : Stmt} {f : Addr} {fd : FuncData} {N ps : List Str} {k : Nat} {R : List PyData → PyData → Prop} (F : Fun K x x st f fd) (hm : mg x = some (.ref f)) (hb : Binds K fd ps []) (S : FnScope N ps (defScope st))
    (hl : ∀ as d, R as d → as.length = ps.length)
    (body : ∀ (cdv : Value) (A : Around) (outer : List Env) (s : Shared) (H : Hp) (E : XK), Room k (A.deeper (envOfC x (defScope st) s.heap.objs.size f cdv)) → ∀ as d, R as d →
      Sd (cxOf CX0 P w K mg base N x (defScope st) f cdv A outer s H E).nox (defBody st) (startD N.length as) { rt := fun d' => d' = d, nx := fun _ => d = .none }) : Callee P w K mg base x (k + 1) R := by
  refine ⟨f, fd, ps, F.ok S (fun vs H Q E h => ?_) (fun cdv A outer s H vs Q E hr h => ?_), hm, F.kp, hb⟩
  · obtain ⟨as, d, h1, h2, _⟩ := h
    rw [dpAll_len h1]
    exact hl as d h2
  · obtain ⟨as, d, h1, h2, q⟩ := h
    refine ⟨_, wSs.ps, body cdv A outer s H E hr as d h2 H (L2.start N vs) H _ (Ex.refl H) (slots_start h1) ⟨fun ds σ H' h e _ => ?_, fun d' v H' h e hv => ?_, fun _ _ _ h _ _ => h.elim, fun _ _ _ h _ _ => h.elim⟩⟩
    · have h : d = .none := h
      subst h
      exact q _ H' e .non
    · have h : d' = d := h
      subst h
      exact q _ H' e hv
end Pb

set_option Elab.async false
set_option linter.all false
set_option maxRecDepth 100000
set_option maxHeartbeats 1000000
namespace Pb
open PySem PySem.Spec PyProof.Rows L2
open Evl (Ex)

/-! ### shapes -/
def Sh (n : Nat) (d : PyData) : Prop := d.canLay0 = true ∧ d.depth ≤ n
theorem Sh.mono {n m : Nat} {d : PyData} (h : Sh n d) (l : n ≤ m) : Sh m d := ⟨h.1, Nat.le_trans h.2 l⟩
theorem Sh.ok {n : Nat} {d : PyData} (h : Sh n d) (l : n ≤ 64) : SeqAt.shaped d = true := by
  unfold SeqAt.shaped
  rw [Bool.and_eq_true, decide_eq_true_eq]
  exact ⟨h.1, Nat.le_trans h.2 l⟩
theorem Sh.non : Sh 0 .none := ⟨rfl, Nat.le_refl _⟩
theorem Sh.bl (b : Bool) : Sh 0 (.bool b) := ⟨rfl, Nat.le_refl _⟩
theorem Sh.int (i : Int) : Sh 0 (.int i) := ⟨rfl, Nat.le_refl _⟩
theorem Sh.str {x : Str} (h : PyData.strOk x = true) : Sh 0 (.str x) := ⟨by rw [PyData.canLay0]; exact h, Nat.le_refl _⟩
theorem sh_all {n : Nat} : ∀ {ds : List PyData}, (∀ d ∈ ds, Sh n d) → PyData.canLayAll0 ds = true ∧ PyData.depthAll ds ≤ n
  | [], _ => ⟨rfl, Nat.zero_le _⟩
  | d :: ds, h => by
    obtain ⟨h1, h2⟩ := sh_all (ds := ds) fun x hx => h x (List.mem_cons_of_mem _ hx)
    obtain ⟨h3, h4⟩ := h d List.mem_cons_self
    refine ⟨by rw [PyData.canLayAll0, h3, h1]; rfl, ?_⟩
    rw [PyData.depthAll]
    omega
theorem Sh.tup {n : Nat} {ds : List PyData} (h : ∀ d ∈ ds, Sh n d) : Sh (n + 1) (.tuple ds) := by
  obtain ⟨h1, h2⟩ := sh_all h
  refine ⟨by rw [PyData.canLay0]; exact h1, ?_⟩
  rw [PyData.depth]
  omega
theorem Sh.lst {n : Nat} {ds : List PyData} (h : ∀ d ∈ ds, Sh n d) : Sh (n + 1) (.list ds) := by
  obtain ⟨h1, h2⟩ := sh_all h
  refine ⟨by rw [PyData.canLay0]; exact h1, ?_⟩
  rw [PyData.depth]
  omega

/-! ### equal data -/
theorem eqv_tup (xs ys : List PyData) : PyData.eqv (.tuple xs) (.tuple ys) = PyData.eqvAll xs ys := by rw [PyData.eqv]
theorem eqv_lst (xs ys : List PyData) : PyData.eqv (.list xs) (.list ys) = PyData.eqvAll xs ys := by rw [PyData.eqv]
theorem eqv_str (x y : Str) : PyData.eqv (.str x) (.str y) = decide (x = y) := by
  rw [PyData.eqv]
  exact Bool.beq_eq_decide_eq x y
theorem eqv_int (x y : Int) : PyData.eqv (.int x) (.int y) = decide (x = y) := by
  rw [PyData.eqv]
  exact Bool.beq_eq_decide_eq x y
theorem eqvAll_map {α : Type} [DecidableEq α] (f : α → PyData) (hf : ∀ x y, PyData.eqv (f x) (f y) = decide (x = y)) : ∀ l m : List α, PyData.eqvAll (l.map f) (m.map f) = decide (l = m)
  | [], [] => rfl
  | [], _ :: _ => rfl
  | _ :: _, [] => rfl
  | x :: l, y :: m => by
    rw [List.map_cons, List.map_cons, PyData.eqvAll, hf, eqvAll_map f hf l m, ← Bool.decide_and]
    exact decide_eq_decide.mpr ⟨fun h => by rw [h.1, h.2], fun h => by injection h with h1 h2; exact ⟨h1, h2⟩⟩

/-! ### the data of the text -/
abbrev Lot := List Str
abbrev Dep := Lot × Str
/-- a lot; a list of texts; a dependency; a row of them; a frame; a row of ints; rows; a list of lots -/
def dS (l : Lot) : PyData := .tuple (l.map .str)
def dL (l : List Str) : PyData := .list (l.map .str)
def dDep (p : Dep) : PyData := .tuple [dS p.1, .str p.2]
def dDeps (D : List Dep) : PyData := .tuple (D.map dDep)
def dF (C : Lot) (D : List Dep) : PyData := .tuple [dS C, dDeps D]
def dRow (r : List Int) : PyData := .tuple (r.map .int)
def dRows (rs : List (List Int)) : PyData := .tuple (rs.map dRow)
def dLots (ls : List Lot) : PyData := .list (ls.map dS)
def dBs (bs : List Bool) : PyData := .list (bs.map .bool)
theorem eqv_S (l m : Lot) : PyData.eqv (dS l) (dS m) = decide (l = m) := by
  unfold dS
  rw [eqv_tup]
  exact eqvAll_map _ eqv_str l m
theorem eqv_L (l m : List Str) : PyData.eqv (dL l) (dL m) = decide (l = m) := by
  unfold dL
  rw [eqv_lst]
  exact eqvAll_map _ eqv_str l m
theorem eqv_Dep (p q : Dep) : PyData.eqv (dDep p) (dDep q) = decide (p = q) := by
  unfold dDep
  rw [eqv_tup, PyData.eqvAll, PyData.eqvAll, PyData.eqvAll, eqv_S, eqv_str, Bool.and_true, ← Bool.decide_and]
  exact decide_eq_decide.mpr ⟨fun h => Prod.ext h.1 h.2, fun h => by rw [h]; exact ⟨rfl, rfl⟩⟩
theorem eqv_Row (l m : List Int) : PyData.eqv (dRow l) (dRow m) = decide (l = m) := by
  unfold dRow
  rw [eqv_tup]
  exact eqvAll_map _ eqv_int l m
theorem eqv_Lots (l m : List Lot) : PyData.eqv (dLots l) (dLots m) = decide (l = m) := by
  unfold dLots
  rw [eqv_lst]
  exact eqvAll_map _ eqv_S l m
/-- words that the model can lay -/
def Wds (l : List Str) : Prop := ∀ x ∈ l, PyData.strOk x = true
theorem sh_S {l : Lot} (h : Wds l) : Sh 1 (dS l) := Sh.tup fun d hd => by
  obtain ⟨x, hx, rfl⟩ := List.mem_map.mp hd
  exact Sh.str (h x hx)
theorem sh_L {l : List Str} (h : Wds l) : Sh 1 (dL l) := Sh.lst fun d hd => by
  obtain ⟨x, hx, rfl⟩ := List.mem_map.mp hd
  exact Sh.str (h x hx)
theorem sh_Dep {p : Dep} (h : Wds p.1) (h2 : PyData.strOk p.2 = true) : Sh 2 (dDep p) := Sh.tup fun d hd => by
  rcases List.mem_cons.mp hd with e | hd
  · rw [e]; exact sh_S h
  · rw [List.mem_singleton.mp hd]
    exact (Sh.str h2).mono (by omega)
theorem sh_Row (r : List Int) : Sh 1 (dRow r) := Sh.tup fun d hd => by
  obtain ⟨x, hx, rfl⟩ := List.mem_map.mp hd
  exact Sh.int x
theorem sh_Lots {ls : List Lot} (h : ∀ l ∈ ls, Wds l) : Sh 2 (dLots ls) := Sh.lst fun d hd => by
  obtain ⟨x, hx, rfl⟩ := List.mem_map.mp hd
  exact sh_S (h x hx)
theorem noL_S (l : Lot) : noL (dS l) = true := by
  unfold dS
  rw [noL_tuple]
  refine noLs_all _ fun d hd => ?_
  obtain ⟨x, hx, rfl⟩ := List.mem_map.mp hd
  exact noL_str x
theorem noL_Row (l : List Int) : noL (dRow l) = true := by
  unfold dRow
  rw [noL_tuple]
  refine noLs_all _ fun d hd => ?_
  obtain ⟨x, hx, rfl⟩ := List.mem_map.mp hd
  exact noL_int x
theorem noL_Dep (p : Dep) : noL (dDep p) = true := by
  unfold dDep
  rw [noL_tuple, noLs_cons, noLs_cons, noLs_nil, noL_S, noL_str]
  rfl
theorem noL_Deps (D : List Dep) : noL (dDeps D) = true := by
  unfold dDeps
  rw [noL_tuple]
  refine noLs_all _ fun d hd => ?_
  obtain ⟨x, hx, rfl⟩ := List.mem_map.mp hd
  exact noL_Dep x
theorem noL_F (C : Lot) (D : List Dep) : noL (dF C D) = true := by
  unfold dF
  rw [noL_tuple, noLs_cons, noLs_cons, noLs_nil, noL_S, noL_Deps]
  rfl

/-! ### rules over data -/
section rd
variable {K : PySem.W.Frag}
theorem rd_I {C : Int → Int → Prop} {g : Int → Int → Int} {i j : Int} (h : C i j) : RD (rI C fun i j => .int (g i j)) (.int i) (.int j) (.int (g i j)) := fun x y H Q h1 h2 k => by
  cases h1
  cases h2
  exact ⟨i, j, rfl, rfl, h, k _ H (Ex.refl H) (.int _)⟩
theorem rd_I0 {g : Int → Int → Int} {i j : Int} : RD (rI0 fun i j => .int (g i j)) (.int i) (.int j) (.int (g i j)) := fun x y H Q h1 h2 k => by
  cases h1
  cases h2
  exact ⟨i, j, rfl, rfl, k _ H (Ex.refl H) (.int _)⟩
theorem rd_B0 {g : Int → Int → Bool} {i j : Int} : RD (rI0 fun i j => .bl (g i j)) (.int i) (.int j) (.bool (g i j)) := fun x y H Q h1 h2 k => by
  cases h1
  cases h2
  exact ⟨i, j, rfl, rfl, k _ H (Ex.refl H) (.bl _)⟩
theorem rd_eqI {i j : Int} : RD rEq (.int i) (.int j) (.bool (decide (i = j))) := fun x y H Q h1 h2 k => by
  cases h1
  cases h2
  refine ⟨rfl, ?_⟩
  rw [dec_int, Bool.beq_eq_decide_eq]
  exact k _ H (Ex.refl H) (.bl _)
theorem rd_neI {i j : Int} : RD rNe (.int i) (.int j) (.bool (!decide (i = j))) := fun x y H Q h1 h2 k => by
  cases h1
  cases h2
  refine ⟨rfl, ?_⟩
  rw [dec_int, Bool.beq_eq_decide_eq]
  exact k _ H (Ex.refl H) (.bl _)
theorem rd_neS {i j : Str} : RD rNe (.str i) (.str j) (.bool (!decide (i = j))) := fun x y H Q h1 h2 k => by
  cases h1
  cases h2
  refine ⟨rfl, ?_⟩
  rw [dec_str, Bool.beq_eq_decide_eq]
  exact k _ H (Ex.refl H) (.bl _)
theorem rd_neB {i j : Bool} : RD rNe (.bool i) (.bool j) (.bool (!decide (i = j))) := fun x y H Q h1 h2 k => by
  cases h1
  cases h2
  refine ⟨rfl, ?_⟩
  rw [dec_bl, Bool.beq_eq_decide_eq]
  exact k _ H (Ex.refl H) (.bl _)
theorem rd_eqD {d e : PyData} {b : Bool} (hd : SeqAt.shaped d = true) (he : SeqAt.shaped e = true) (hb : PyData.eqv d e = b) : RD (rEqD K) d e (.bool b) := fun x y H Q h1 h2 k => ⟨d, e, h1.dp _ _ (nc_shaped hd), h2.dp _ _ (nc_shaped he), hd, he, by rw [hb]; exact k _ H (Ex.refl H) (.bl _)⟩
theorem rd_neD {d e : PyData} {b : Bool} (hd : SeqAt.shaped d = true) (he : SeqAt.shaped e = true) (hb : PyData.eqv d e = b) : RD (rNeD K) d e (.bool (!b)) := fun x y H Q h1 h2 k => ⟨d, e, h1.dp _ _ (nc_shaped hd), h2.dp _ _ (nc_shaped he), hd, he, by rw [hb]; exact k _ H (Ex.refl H) (.bl _)⟩
theorem rd_notB {i j : Bool} : RD rNotB (.bool i) (.bool j) (.bool (!decide (i = j))) := fun x y H Q h1 h2 k => by
  cases h1
  cases h2
  exact ⟨i, j, rfl, rfl, k _ H (Ex.refl H) (.bl _)⟩
def isN : PyData → Bool
  | .none => true
  | _ => false
theorem dq_non {H : Hp} {x : V} {d : PyData} (h : Dq H x d) : decide (x = .non) = isN d := by
  cases h <;> rfl
theorem rd_isN {d : PyData} : RD (fun x y H Q => y = .non ∧ Q (.bl (decide (x = .non))) H) d .none (.bool (isN d)) := fun x y H Q h1 h2 k => by
  cases h2
  refine ⟨rfl, ?_⟩
  rw [dq_non h1]
  exact k _ H (Ex.refl H) (.bl _)
theorem rd_notN {d : PyData} : RD (fun x y H Q => y = .non ∧ Q (.bl (!decide (x = .non))) H) d .none (.bool (!isN d)) := fun x y H Q h1 h2 k => by
  cases h2
  refine ⟨rfl, ?_⟩
  rw [dq_non h1]
  exact k _ H (Ex.refl H) (.bl _)
/-! in, not in: texts, ints -/
theorem inV_S (x : Str) (l : List Str) : inV (.str x) (l.map V.str) = decide (x ∈ l) := by
  induction l with
  | nil => rfl
  | cons y l ih =>
    have e : inV (.str x) ((y :: l).map V.str) = (eqV (.str y) (.str x) || inV (.str x) (l.map V.str)) := rfl
    have e2 : eqV (.str y) (.str x) = decide (x = y) := by
      show (y == x) = _
      rw [Bool.beq_eq_decide_eq]
      exact decide_eq_decide.mpr eq_comm
    rw [e, ih, e2, ← Bool.decide_or]
    exact decide_eq_decide.mpr List.mem_cons.symm
theorem inV_I (x : Int) (l : List Int) : inV (.int x) (l.map V.int) = decide (x ∈ l) := by
  induction l with
  | nil => rfl
  | cons y l ih =>
    have e : inV (.int x) ((y :: l).map V.int) = (eqV (.int y) (.int x) || inV (.int x) (l.map V.int)) := rfl
    have e2 : eqV (.int y) (.int x) = decide (x = y) := by
      show (y == x) = _
      rw [Bool.beq_eq_decide_eq]
      exact decide_eq_decide.mpr eq_comm
    rw [e, ih, e2, ← Bool.decide_or]
    exact decide_eq_decide.mpr List.mem_cons.symm
theorem flat_strs (l : List Str) : (l.map V.str).all flatV = true := by
  rw [List.all_map]
  exact List.all_eq_true.mpr fun _ _ => rfl
theorem flat_ints (l : List Int) : (l.map V.int).all flatV = true := by
  rw [List.all_map]
  exact List.all_eq_true.mpr fun _ _ => rfl
theorem rd_inS {x : Str} {l : List Str} {neg : Bool} {b : Bool} (hb : (if neg then !decide (x ∈ l) else decide (x ∈ l)) = b) : RD (rIn K neg) (.str x) (dS l) (.bool b) := fun v y H Q h1 h2 k => by
  cases h1
  cases h2 with
  | tup a1 a2 =>
    rw [dpAll_strs a2] at a1
    refine ⟨_, _, rfl, .inr (.of a1), rfl, flat_strs l, ?_⟩
    rw [inV_S, hb]
    exact k _ H (Ex.refl H) (.bl _)
theorem rd_inL {x : Str} {l : List Str} {neg : Bool} {b : Bool} (hb : (if neg then !decide (x ∈ l) else decide (x ∈ l)) = b) : RD (rIn K neg) (.str x) (dL l) (.bool b) := fun v y H Q h1 h2 k => by
  cases h1
  cases h2 with
  | lst a1 a2 =>
    rw [dpAll_strs a2] at a1
    refine ⟨_, _, rfl, .inl (.of a1), rfl, flat_strs l, ?_⟩
    rw [inV_S, hb]
    exact k _ H (Ex.refl H) (.bl _)
theorem rd_inI {x : Int} {l : List Int} {neg : Bool} {b : Bool} (hb : (if neg then !decide (x ∈ l) else decide (x ∈ l)) = b) : RD (rIn K neg) (.int x) (dRow l) (.bool b) := fun v y H Q h1 h2 k => by
  cases h1
  cases h2 with
  | tup a1 a2 =>
    rw [dpAll_ints a2] at a1
    refine ⟨_, _, rfl, .inr (.of a1), rfl, flat_ints l, ?_⟩
    rw [inV_I, hb]
    exact k _ H (Ex.refl H) (.bl _)
/-- one sign in a text -/
theorem rd_sign {c : Nat} {z : Str} : RD (fun x y H Q => ∃ (c : Nat) (z : Str), x = .str ⟨#[c]⟩ ∧ y = .str z ∧ Q (.bl (decide (c ∈ z.cps.toList))) H) (.str ⟨#[c]⟩) (.str z) (.bool (decide (c ∈ z.cps.toList))) := fun x y H Q h1 h2 k => by
  cases h1
  cases h2
  exact ⟨c, z, rfl, rfl, k _ H (Ex.refl H) (.bl _)⟩
/-- tuple + tuple; list + list -/
theorem rd_catT {xs ys : List PyData} (hz : xs.length + ys.length ≤ 100000) : RD (rCatA K) (.tuple xs) (.tuple ys) (.tuple (xs ++ ys)) := fun x y H Q h1 h2 k => by
  cases h1 with
  | tup a1 a2 =>
    cases h2 with
    | tup b1 b2 =>
      refine ⟨_, _, _, _, rfl, rfl, .of a1, .of b1, by rw [dpAll_len a2, dpAll_len b2]; exact Evl.sz_of hz, fun e => ?_, fun e e2 => ?_, fun _ _ p hp => k _ _ (Ex.new hp) (.tup upd_same (dpAll_mono (Ex.new hp) _ _ (dpAll_app a2 b2)))⟩
      · subst e
        have e3 : xs = [] := List.eq_nil_of_length_eq_zero (dpAll_len a2).symm
        subst e3
        exact k _ H (Ex.refl H) (.tup b1 b2)
      · subst e2
        have e3 : ys = [] := List.eq_nil_of_length_eq_zero (dpAll_len b2).symm
        subst e3
        rw [List.append_nil] at k
        exact k _ H (Ex.refl H) (.tup a1 a2)
theorem rd_catL {xs ys : List PyData} (hz : xs.length + ys.length ≤ 100000) : RD rCat (.list xs) (.list ys) (.list (xs ++ ys)) := fun x y H Q h1 h2 k => by
  cases h1 with
  | lst a1 a2 =>
    cases h2 with
    | lst b1 b2 => exact ⟨_, _, _, _, rfl, rfl, a1, b1, by rw [dpAll_len a2, dpAll_len b2]; exact Evl.sz_of hz, fun p hp => k _ _ (Ex.new hp) (.lst upd_same (dpAll_mono (Ex.new hp) _ _ (dpAll_app a2 b2)))⟩
/-- items -/
theorem rd_ixT {xs : List PyData} {i : Nat} {d : PyData} (h : xs[i]? = some d) : RD (rIxT K) (.tuple xs) (.int (i : Nat)) d := fun x y H Q h1 h2 k => by
  cases h2
  cases h1 with
  | tup a1 a2 =>
    obtain ⟨v, e, q⟩ := dpAll_get a2 h
    exact ⟨_, _, _, v, rfl, rfl, .of a1, atI_nat e, k _ H (Ex.refl H) q⟩
theorem rd_ixL {xs : List PyData} {i : Nat} {d : PyData} (h : xs[i]? = some d) : RD (rIxL K) (.list xs) (.int (i : Nat)) d := fun x y H Q h1 h2 k => by
  cases h2
  cases h1 with
  | lst a1 a2 =>
    obtain ⟨v, e, q⟩ := dpAll_get a2 h
    exact ⟨_, _, _, v, rfl, rfl, .of a1, atI_nat e, k _ H (Ex.refl H) q⟩
theorem rd_ixS {z : Str} {i c : Nat} (hz : z.length ≤ 100000) (h : z.cps.toList[i]? = some c) : RD rIxS (.str z) (.int (i : Nat)) (.str ⟨#[c]⟩) := fun x y H Q h1 h2 k => by
  cases h2
  cases h1
  exact ⟨z, _, c, rfl, rfl, Evl.sz_of hz, atI_nat h, k _ H (Ex.refl H) (.str _)⟩
/-! calls of built-ins -/
theorem rc_len {xs : List PyData} {d : PyData} (h : d = .list xs ∨ d = .tuple xs) : RC (fun xs H Q => ∃ p ys, xs = [V.ref p] ∧ (SqL K H p ys ∨ SqT K H p ys) ∧ Q (.int ys.length) H) [d] (.int (xs.length : Nat)) := fun vs H Q hv k => by
  cases hv with
  | cons h1 h2 =>
    cases h2
    rcases h with rfl | rfl
    · cases h1 with
      | lst a1 a2 =>
        rename_i a ys
        refine ⟨_, _, rfl, .inl (.of a1), ?_⟩
        rw [dpAll_len a2]
        exact k _ H (Ex.refl H) (.int _)
    · cases h1 with
      | tup a1 a2 =>
        refine ⟨_, _, rfl, .inr (.of a1), ?_⟩
        rw [dpAll_len a2]
        exact k _ H (Ex.refl H) (.int _)
theorem rc_lenS {z : Str} (hz : z.length ≤ 100000) : RC (fun xs H Q => ∃ z : Str, xs = [V.str z] ∧ z.length ≤ sizeLine ∧ Q (.int z.length) H) [.str z] (.int (z.length : Nat)) := fun vs H Q hv k => by
  cases hv with
  | cons h1 h2 =>
    cases h2
    cases h1
    exact ⟨z, rfl, Evl.sz_of hz, k _ H (Ex.refl H) (.int _)⟩
theorem rc_all {bs : List Bool} : RC (rAll K) [dBs bs] (.bool (bs.all fun b => b)) := fun vs H Q hv k => by
  cases hv with
  | cons h1 h2 =>
    cases h2
    cases h1 with
    | lst a1 a2 =>
      rw [dpAll_bools a2] at a1
      exact ⟨_, bs, rfl, .of a1, k _ H (Ex.refl H) (.bl _)⟩
theorem rc_list {xs : List PyData} {d : PyData} (h : d = .list xs ∨ d = .tuple xs) : RC (fun xs H Q => ∃ p ys, xs = [V.ref p] ∧ (SqL K H p ys ∨ SqT K H p ys) ∧ ∀ l, H l = none → Q (.ref l) (upd H l (.lst ys))) [d] (.list xs) := fun vs H Q hv k => by
  cases hv with
  | cons h1 h2 =>
    cases h2
    rcases h with rfl | rfl
    · cases h1 with
      | lst a1 a2 => exact ⟨_, _, rfl, .inl (.of a1), fun l hl => k _ _ (Ex.new hl) (.lst upd_same (dpAll_mono (Ex.new hl) _ _ a2))⟩
    · cases h1 with
      | tup a1 a2 => exact ⟨_, _, rfl, .inr (.of a1), fun l hl => k _ _ (Ex.new hl) (.lst upd_same (dpAll_mono (Ex.new hl) _ _ a2))⟩
theorem rc_tuple {xs : List PyData} : RC (fun xs H Q => ∃ p ys, xs = [V.ref p] ∧ ((SqL K H p ys ∧ ∀ l, H l = none → Q (.ref l) (upd H l (.tup ys))) ∨ (SqT K H p ys ∧ Q (.ref p) H))) [.list xs] (.tuple xs) := fun vs H Q hv k => by
  cases hv with
  | cons h1 h2 =>
    cases h2
    cases h1 with
    | lst a1 a2 => exact ⟨_, _, rfl, .inl ⟨.of a1, fun l hl => k _ _ (Ex.new hl) (.tup upd_same (dpAll_mono (Ex.new hl) _ _ a2))⟩⟩
end rd

/-! ### (x, y) in a tuple of nested data -/
section inT
variable {X : Cx}
def rInT (K : PySem.W.Frag) : R2 := fun x y H Q => ∃ d ds, Dp K H x d ∧ Dp K H y (.tuple ds) ∧ SeqAt.shaped d = true ∧ SeqAt.shaped (.tuple ds) = true ∧ Q (.bl (!ds.any fun z => PyData.eqv z d)) H
theorem op_notInT (hu : X.A.units + 65 < cLine) : OpR X (compareOp .NotIn) (rInT X.K) := by
  intro pins s σ H x y v u Q I rx ry h
  obtain ⟨d, ds, hd, he, sd, se, q⟩ := h
  obtain ⟨as, r1⟩ := Dp.reads I d x v hd rx
  obtain ⟨bs, r2⟩ := Dp.reads I (.tuple ds) y u he ry
  have hc : PyData.canLayAll0 ds = true := by
    have z := SeqAt.canLay_of_shaped se
    rw [PyData.canLay0] at z
    exact z
  have hr : X.A.units + 1 + min (PyData.depthAll ds) d.depth < cLine := by
    have z := SeqAt.depth_of_shaped sd
    omega
  exact SeqAt.notIn_tuple_reads r2 r1 hc (SeqAt.canLay_of_shaped sd) hr ⟨.bl _, H, I, rfl, q⟩
theorem rd_notInT {K : PySem.W.Frag} {D : List Dep} {p : Dep} (h1 : SeqAt.shaped (dDep p) = true) (h2 : SeqAt.shaped (dDeps D) = true) : RD (rInT K) (dDep p) (dDeps D) (.bool (!decide (p ∈ D))) := fun x y H Q a1 a2 k => by
  refine ⟨_, _, a1.dp _ _ (nc_shaped h1), a2.dp _ _ (nc_shaped h2), h1, h2, ?_⟩
  have e : ((D.map dDep).any fun z => PyData.eqv z (dDep p)) = decide (p ∈ D) := by
    rw [List.any_map]
    have e2 : ((fun z => PyData.eqv z (dDep p)) ∘ dDep) = fun q => decide (q = p) := funext fun q => eqv_Dep q p
    rw [e2]
    by_cases c : p ∈ D
    · rw [decide_eq_true c]
      exact List.any_eq_true.mpr ⟨p, c, decide_eq_true rfl⟩
    · rw [decide_eq_false c]
      exact List.any_eq_false.mpr fun q hq => by
        rw [decide_eq_true_eq]
        rintro rfl
        exact c hq
  rw [e]
  exact k _ H (Ex.refl H) (.bl _)
end inT

/-! ### isinstance -/
def tyN : PyData → String
  | .none => "NoneType"
  | .bool _ => "bool"
  | .int _ => "int"
  | .str _ => "str"
  | .list _ => "list"
  | .tuple _ => "tuple"
  | .dict _ => "dict"
def isDict : PyData → Bool
  | .dict _ => true
  | _ => false
section isi
variable {X : Cx} {ds : DS} {e : Expr} {d : PyData} {pos p q : Pos}
theorem tyX_of {K : PySem.W.Frag} {H : Hp} {v : V} {d : PyData} (h : Dq H v d) (n : isDict d = false) : TyX K H v (.type (tyN d)) := by
  cases h with
  | non => exact .base .non
  | bl b => exact .base (.bl b)
  | int i => exact .base (.int i)
  | str x => exact .base (.str x)
  | lst a1 a2 => exact .base (.lst a1)
  | tup a1 a2 => exact .base (.tup a1)
  | cup a => cases n
theorem Ed.isi {T : Str} {n : String} {b : Bool} (hm : X.mg "isinstance" = none) (hT : X.mg T = none) (h : Ed X e ds d) (hk : kitB (tyN d) n = some b) (hnd : isDict d = false := by rfl) (hv : bootBuiltins T = some (.type n) := by decide +kernel) (hg : Gl X "isinstance" := by rfl) (hgT : Gl X T := by rfl) (hn : T ≠ "__name__" := by decide) (hd : (T == ("__debug__" : Str)) = false := by decide)
    (he : starEach (e :: [.Name T q]) X.env = (false, eval e X.env) :: starEach [.Name T q] X.env := by rfl) (he2 : starEach (Expr.Name T q :: []) X.env = (false, eval (.Name T q) X.env) :: starEach [] X.env := by rfl) (hpl : (backTo pos (starEach [Expr.Name T q] X.env)).any (·.1) = false := by rfl) :
    Ed X (.Call (.Name "isinstance" p) [e, .Name T q] [] pos) ds (.bool b) := fun σ H Q hs k =>
  wE.of (pe_callB (r := rIsi X.K) call_isi hg hm (by decide +kernel) (pa_cons wE.pe (pa_cons (pe_bltn (v := .ty n) hgT hT hv rfl hn hd) pa_nil he2) he) (by decide) (by decide) he hpl)
    (h σ H _ hs fun v H1 e1 h1 => ⟨v, .ty n, _, _, b, rfl, .ty n, tyX_of h1 hnd, kit_ty hk, k _ H1 e1 (.bl b)⟩)
end isi
end Pb

set_option Elab.async false
set_option linter.all false
set_option maxRecDepth 100000
set_option maxHeartbeats 4000000
namespace Pb
open PySem PySem.Spec PyProof.Rows L2
open Evl (Ex)

/-- the set's order can be told -/
def Ld (w : World) (t : SetTable) : Prop := w.params.followText "set-order" = true ∨ t.led = true
/-- the set at a: its values, in some order -/
def SetC (w : World) (h : Heap) (a : Addr) (vs : List Value) : Prop :=
  ∃ o es ep t, h.get? a = some o ∧ o.ExactSet ∧ o.data = .set es ep t ∧ (es.toList.map (·.2)).Perm vs ∧ t.fits es.size = true ∧ Ris t.place.toList ∧ Ld w t ∧ vs.length < 64

/-! ### a set of texts and ints, by scans -/
section flat
variable {P : Program} {w : World} {A : Around} {E : Value → Shared → Prop} {s : Shared}
def rowK (P : Program) (w : World) (p : Value × Key) : Int × Value := ((mixKind P w).hash p.2, p.1)
structure FlatS (P : Program) (w : World) (h : Heap) (a : Addr) (L : List (Value × Key)) : Prop where
  ex : ∃ o es ep t, h.get? a = some o ∧ o.ExactSet ∧ o.data = .set es ep t ∧ es.toList.Perm (L.map (rowK P w)) ∧ t.fits es.size = true ∧ Ris t.place.toList ∧ Ld w t
  is : ∀ p ∈ L, keyIs p.2 p.1 = true
  nd : (L.map (·.2)).Nodup
  few : L.length < 64
theorem keyIs_scan {k : Key} {v : Value} (h : keyIs k v = true) : v.scannable = true := by
  rcases keyIs_shape h with ⟨i, t, _, rfl⟩ | ⟨x, t, _, rfl⟩ <;> rfl
theorem keyIs_inj {k k' : Key} {v : Value} (h : keyIs k v = true) (h' : keyIs k' v = true) : k = k' := by
  rcases keyIs_shape h with ⟨i, t, rfl, rfl⟩ | ⟨x, t, rfl, rfl⟩
  · rcases keyIs_shape h' with ⟨j, u, rfl, e⟩ | ⟨y, u, rfl, e⟩
    · cases e
      rfl
    · cases e
  · rcases keyIs_shape h' with ⟨j, u, rfl, e⟩ | ⟨y, u, rfl, e⟩
    · cases e
    · cases e
      rfl
theorem FlatS.elems {h : Heap} {a : Addr} {L : List (Value × Key)} (is : ∀ p ∈ L, keyIs p.2 p.1 = true) {es : List (Int × Value)} (pm : es.Perm (L.map (rowK P w))) : ElemsOf (mixKind P w) es := fun e he => by
  obtain ⟨p, hp, rfl⟩ := List.mem_map.mp (pm.mem_iff.mp he)
  exact ⟨⟨p.2, is p hp, rfl⟩, keyIs_scan (is p hp)⟩
theorem flat_tail {a : Addr} {o : Obj} {es : Array (Int × Value)} {ep : Nat} {t : SetTable} (ho : s.heap.get? a = some o) (hex : o.ExactSet) (hd : o.data = .set es ep t) {L : List (Value × Key)} (is : ∀ p ∈ L, keyIs p.2 p.1 = true) (nd : (L.map (·.2)).Nodup) (few : L.length < 64)
    {es1 : Array (Int × Value)} {t2 : SetTable} (pm : es1.toList.Perm (L.map (rowK P w))) (hf : t2.fits es1.size = true) (hr : Ris t2.place.toList) (hl : Ld w t2) {wd : Bool} {R : Option Bool → Shared → Prop} {g : Bool → Sem Unit}
    (hg : ∀ (b : Bool) (s₁ : Shared) (Q' : Unit → Shared → Prop), Q' () s₁ → wpAny (model P w) A (g b) Q' E s₁) (hR : ∀ h', Heap.SameBut a s.heap h' → FlatS P w h' a L → R (some true) { s with heap := h' }) :
    wpAny (model P w) A (do
        storeSet a es1 t2
        if (!wd && t2.tooFull) = true then do
            g (relayAll t2 es1 (SetTable.grown es1.size)).2.2
            storeSet a (relayAll t2 es1 (SetTable.grown es1.size)).1 (relayAll t2 es1 (SetTable.grown es1.size)).2.1
            pure (some true)
          else pure (some true)) R E s := by
  have hsz : es1.size = L.length := by rw [← Array.length_toList, pm.length_eq, List.length_map]
  refine wpAny_bind (wpAny_storeSet_of ho hd ?_ (by rw [hsz, sizeLine_eq]; omega))
  have ho1 := store_at (es' := es1) (t' := t2) ho hd
  have sb := Heap.SameBut.update s.heap a (Obj.putSet es1 t2)
  split
  · have q1 := relayAll_perm t2 es1 (SetTable.grown es1.size)
    have q2 := relayAll_fits t2 es1 (SetTable.grown es1.size)
    have q3 := relayAll_ris t2 es1 (SetTable.grown es1.size)
    have q4 := relayAll_led t2 es1 (SetTable.grown es1.size)
    generalize relayAll t2 es1 (SetTable.grown es1.size) = Z at q1 q2 q3 q4 ⊢
    obtain ⟨es2, t3, gv⟩ := Z
    dsimp only at q1 q2 q3 q4 ⊢
    have hs2 : es2.size = L.length := by rw [← Array.length_toList, q1.length_eq, Array.length_toList, hsz]
    refine wpAny_bind (hg _ _ _ ?_)
    refine wpAny_bind (wpAny_storeSet_of ho1 rfl ?_ (by rw [hs2, sizeLine_eq]; omega))
    refine wpAny_pure (hR _ (sb.trans (Heap.SameBut.update _ a _)) ⟨⟨_, es2, _, t3, store_at ho1 rfl, hex, rfl, q1.trans pm, q2, q3, ?_⟩, is, nd, few⟩)
    rcases hl with z | z
    · exact .inl z
    · exact .inr (q4.trans z)
  · exact wpAny_pure (hR _ sb ⟨⟨_, es1, _, t2, ho1, hex, rfl, pm, hf, hr, hl⟩, is, nd, few⟩)
/-- one more item -/
theorem flat_add {a : Addr} {L : List (Value × Key)} {v : Value} {k : Key} {Q : Bool → Shared → Prop} (F : FlatS P w s.heap a L) (hk : keyIs k v = true) (few : L.length + 1 < 64)
    (hQ : ∀ b h' L', Heap.SameBut a s.heap h' → FlatS P w h' a L' → (L' = L ∧ k ∈ L.map (·.2)) ∨ (L' = (v, k) :: L ∧ k ∉ L.map (·.2)) → Q b { s with heap := h' }) : wpAny (model P w) A (setAddHashed a v ((mixKind P w).hash k)) Q E s := by
  obtain ⟨o, es, ep, t, ho, hex, hd, pm, hf, hr, hl⟩ := F.ex
  have hsc := keyIs_scan hk
  have hel : ElemsOf (mixKind P w) es.toList := FlatS.elems (h := s.heap) (a := a) F.is pm
  have hsz : es.size = L.length := by rw [← Array.length_toList, pm.length_eq, List.length_map]
  have hb : es.size < scanBound := by rw [hsz]; unfold scanBound; omega
  have mem : ∀ e ∈ es.toList, (mixKind P w).is k e.2 = true ↔ ∃ p ∈ L, rowK P w p = e ∧ p.2 = k := fun e he => by
    obtain ⟨p, hp, rfl⟩ := List.mem_map.mp (pm.mem_iff.mp he)
    constructor
    · intro z
      exact ⟨p, hp, rfl, keyIs_inj (F.is p hp) z⟩
    · rintro ⟨p', hp', e', rfl⟩
      have e1 : p'.1 = p.1 := congrArg Prod.snd e'
      show keyIs p'.2 p.1 = true
      rw [← e1]
      exact F.is p' hp'
  unfold setAddHashed setAddHashedIn
  refine wpAny_holding (wpAny_bind (wpAny_setState_of ho hd hf ?_))
  dsimp only
  rw [byScan_of hsc hb hel]
  simp only [↓reduceIte]
  unfold setAddByScan
  refine wpAny_bind (wpAny_bind (wpAny_rule (wpAny_bind (wpAny_setScan_of (knd := mixKind P w) hk ho hd hf hel ?_))))
  cases hfi : List.findIdx? (fun e => (mixKind P w).is k e.2) es.toList with
  | some j =>
    dsimp only
    obtain ⟨hj, pj, _⟩ := List.findIdx?_eq_some_iff_getElem.mp hfi
    obtain ⟨p, hp, _, e2⟩ := (mem _ (List.getElem_mem hj)).mp pj
    exact wpAny_pure (wpAny_pure (hQ false s.heap L (Heap.SameBut.refl a s.heap) F (.inl ⟨rfl, List.mem_map.mpr ⟨p, hp, e2⟩⟩)))
  | none =>
    dsimp only
    have hnk : k ∉ L.map (·.2) := fun z => by
      obtain ⟨p, hp, e⟩ := List.mem_map.mp z
      have he : rowK P w p ∈ es.toList := pm.mem_iff.mpr (List.mem_map.mpr ⟨p, hp, rfl⟩)
      have c := List.findIdx?_eq_none_iff.mp hfi _ he
      rw [(mem _ he).mpr ⟨p, hp, rfl, e⟩] at c
      cases c
    have hgw : ∀ (b : Bool) {s₁ : Shared} {Q' : Unit → Shared → Prop}, Q' () s₁ → wpAny (model P w) A (match b with | true => rule "set.scan.the-table-gave-way" | false => pure ()) Q' E s₁ := fun b s₁ Q' q => by
      cases b
      · exact wpAny_pure q
      · exact wpAny_rule q
    have q1 := layNew_perm t es ((mixKind P w).hash k) v
    have q2 := layNew_fits t es ((mixKind P w).hash k) v
    have q3 := layNew_ris t es ((mixKind P w).hash k) v hr
    have q4 := layNew_led t es ((mixKind P w).hash k) v
    generalize layNew t es ((mixKind P w).hash k) v = Z at q1 q2 q3 q4 ⊢
    obtain ⟨es1, t1, wd, gv⟩ := Z
    dsimp only at q1 q2 q3 q4 ⊢
    rw [Array.toList_push] at q1
    have pm1 : es1.toList.Perm (((v, k) :: L).map (rowK P w)) := (q1.trans (List.perm_append_singleton _ _)).trans (pm.cons _)
    have is1 : ∀ p ∈ (v, k) :: L, keyIs p.2 p.1 = true := fun p hp => by
      rcases List.mem_cons.mp hp with z | z
      · rw [z]; exact hk
      · exact F.is p z
    have nd1 : (((v, k) :: L).map (·.2)).Nodup := List.nodup_cons.mpr ⟨hnk, F.nd⟩
    have hled : Ld w t1 := hl.imp id fun z => q4.trans z
    have fin : ∀ h', Heap.SameBut a s.heap h' → FlatS P w h' a ((v, k) :: L) → Q true { s with heap := h' } := fun h' sb r => hQ true h' _ sb r (.inr ⟨rfl, hnk⟩)
    refine wpAny_bind (hgw _ ?_)
    split
    · refine wpAny_bind ?_
      rw [hashByValue_scannable 8 hsc]
      refine wpAny_pure ?_
      refine flat_tail ho hex hd is1 nd1 few pm1 ?_ ?_ ?_ (fun b s₁ Q' q => ?_) fun h' sb r => ?_
      · split
        · exact q2
        · exact SetTable.fits_plain_off q2
      · split <;> exact q3
      · split <;> exact hled
      · cases b
        · exact wpAny_pure q
        · exact wpAny_rule q
      · dsimp only
        exact wpAny_pure (fin h' sb r)
    · refine wpAny_bind (wpAny_pure ?_)
      simp only [↓reduceIte]
      refine flat_tail ho hex hd is1 nd1 few pm1 q2 q3 hled (fun b s₁ Q' q => ?_) fun h' sb r => ?_
      · cases b
        · exact wpAny_pure q
        · exact wpAny_rule q
      · dsimp only
        exact wpAny_pure (fin h' sb r)
theorem FlatS.keep {h h' : Heap} {a : Addr} {L : List (Value × Key)} (F : FlatS P w h a L) (k : ∀ o, h.get? a = some o → h'.get? a = some o) : FlatS P w h' a L := by
  obtain ⟨o, es, ep, t, ho, r⟩ := F.ex
  exact ⟨⟨o, es, ep, t, k o ho, r⟩, F.is, F.nd, F.few⟩
theorem FlatS.toC {h : Heap} {a : Addr} {L : List (Value × Key)} (F : FlatS P w h a L) : SetC w h a (L.map (·.1)) := by
  obtain ⟨o, es, ep, t, ho, hex, hd, pm, r1, r2, r3⟩ := F.ex
  refine ⟨o, es, ep, t, ho, hex, hd, ?_, r1, r2, r3, by rw [List.length_map]; exact F.few⟩
  have q := pm.map (·.2)
  rw [List.map_map] at q
  exact q
end flat
end Pb

set_option Elab.async false
set_option linter.all false
set_option maxRecDepth 100000
set_option maxHeartbeats 4000000
namespace Pb
open PySem PySem.Spec PyProof.Rows L2
open Evl (Ex)

section ask
variable {P : Program} {w : World}
/-- v is of no class statement; its hash by value or not is told without a change -/
def NoCls (P : Program) (w : World) (n : Nat) (s : Shared) (v : Value) : Prop := ∀ (A : Around) (E : Value → Shared → Prop) (Q : Bool → Shared → Prop), Q false s → wpAny (model P w) A (ofAClassStatement n v) Q E s
def ByVal (P : Program) (w : World) (n : Nat) (s : Shared) (v : Value) : Prop := ∀ (A : Around) (E : Value → Shared → Prop) (Q : Bool → Shared → Prop), (∀ b, Q b s) → wpAny (model P w) A (hashByValue n v) Q E s
theorem noCls_pure {n : Nat} {s : Shared} {v : Value} (h : ofAClassStatement n v = pure false) : NoCls P w n s v := fun A E Q q => by
  rw [h]
  exact wpAny_pure q
theorem byVal_pure {n : Nat} {s : Shared} {v : Value} {b : Bool} (h : hashByValue n v = pure b) : ByVal P w n s v := fun A E Q q => by
  rw [h]
  exact wpAny_pure (q b)
theorem noCls_tup {n : Nat} {s : Shared} {a : Addr} {o : Obj} {vs : Array Value} {m : Nat} (ho : s.heap.get? a = some o) (hc : o.cls = .type "tuple") (hd : o.data = .seq vs m) (hq : ∀ v ∈ vs.toList, NoCls P w n s v) : NoCls P w (n + 1) s (.ref a) := fun A E Q h => by
  have hT : s.TypeIs (.ref a) "tuple" := ⟨o, ho, hc⟩
  unfold ofAClassStatement
  refine wpAny_bind (wpAny_typeOf hT ?_)
  dsimp only
  have e : (("tuple" : String) == "tuple") = true := by decide
  simp only [e, if_true, Bool.not_true, Bool.false_eq_true, if_false]
  try refine wpAny_bind (wpAny_pure ?_)
  try simp only [Bool.not_true, Bool.false_eq_true, if_false]
  show wpAny _ _ (seqItems? (.ref a) >>= _) _ _ s
  refine wpAny_bind (wpAny_seqItems ho hd ?_)
  dsimp only
  refine wpAny_bind ?_
  show wpAny _ _ (forIn vs _ _) _ _ s
  rw [← Array.forIn_toList]
  refine wpAny_forIn_list _ (fun left r s' => r.1 = none ∧ s' = s ∧ ∀ v ∈ left, NoCls P w n s v) _ ?_ ?_ _ _ ⟨rfl, rfl, hq⟩
  · rintro v left r s' ⟨_, rfl, all⟩
    refine wpAny_bind (all v List.mem_cons_self _ _ _ ?_)
    simp only [Bool.false_eq_true, if_false]
    exact wpAny_pure ⟨rfl, rfl, fun u hu => all u (List.mem_cons_of_mem _ hu)⟩
  · rintro ⟨r1, r2⟩ s' ⟨hr, rfl, _⟩
    simp only at hr
    subst hr
    exact wpAny_pure h
theorem byVal_tup {n : Nat} {s : Shared} {a : Addr} {o : Obj} {vs : Array Value} {m : Nat} (ho : s.heap.get? a = some o) (hc : o.cls = .type "tuple") (hd : o.data = .seq vs m) (hq : ∀ v ∈ vs.toList, ByVal P w n s v) : ByVal P w (n + 1) s (.ref a) := fun A E Q h => by
  have hT : s.TypeIs (.ref a) "tuple" := ⟨o, ho, hc⟩
  unfold hashByValue
  refine wpAny_bind (wpAny_specialOf hT F.slot_tuple_hash.lookup ?_)
  show wpAny _ _ (seqItems? (.ref a) >>= _) _ _ s
  refine wpAny_bind (wpAny_seqItems ho hd ?_)
  refine wpAny_bind ?_
  show wpAny _ _ (forIn vs _ _) _ _ s
  rw [← Array.forIn_toList]
  refine wpAny_forIn_list _ (fun left r s' => s' = s ∧ (r.1 = none ∨ r.1 = some false) ∧ ∀ v ∈ left, ByVal P w n s v) _ ?_ ?_ _ _ ⟨rfl, .inl rfl, hq⟩
  · rintro v left r s' ⟨rfl, hr, all⟩
    refine wpAny_bind (all v List.mem_cons_self _ _ _ fun b => ?_)
    cases b with
    | true =>
      simp only [Bool.not_true, Bool.false_eq_true, if_false]
      exact wpAny_pure ⟨rfl, .inl rfl, fun u hu => all u (List.mem_cons_of_mem _ hu)⟩
    | false =>
      simp only [Bool.not_false, if_true]
      exact wpAny_pure (wpAny_pure (h false))
  · rintro ⟨r1, r2⟩ s' ⟨rfl, hr, _⟩
    simp only at hr
    rcases hr with hr | hr
    · subst hr
      exact wpAny_pure (h true)
    · subst hr
      exact wpAny_pure (h false)
mutual
theorem noCls_key : ∀ (k : NestedKey) (v : Value) (n : Nat) (s : Shared), NestedIs s.heap k v → k.depth ≤ n → NoCls P w n s v
  | .none, _, n, s, x, _ => by
    cases x
    exact noCls_pure (by cases n <;> rfl)
  | .num i, _, n, s, x, _ => by
    cases x <;> exact noCls_pure (by cases n <;> rfl)
  | .text y, _, n, s, x, _ => by
    cases x
    exact noCls_pure (by cases n <;> rfl)
  | .tup ks, _, n, s, x, hn => by
    cases x with
    | tup hg hc hd hk =>
      simp only [NestedKey.depth] at hn
      cases n with
      | zero => omega
      | succ n => exact noCls_tup hg hc hd (noCls_keys ks _ n s hk (by omega))
theorem noCls_keys : ∀ (ks : List NestedKey) (vs : List Value) (n : Nat) (s : Shared), NestedAll s.heap ks vs → NestedKey.depthAll ks ≤ n → ∀ v ∈ vs, NoCls P w n s v
  | [], _, n, s, x, _, v, hv => by cases x; cases hv
  | k :: ks, _, n, s, x, hn, v, hv => by
    cases x with
    | cons x1 x2 =>
      simp only [NestedKey.depthAll] at hn
      rcases List.mem_cons.mp hv with e | hv
      · rw [e]
        exact noCls_key k _ n s x1 (by omega)
      · exact noCls_keys ks _ n s x2 (by omega) v hv
end
mutual
theorem byVal_key : ∀ (k : NestedKey) (v : Value) (n : Nat) (s : Shared), NestedIs s.heap k v → k.depth ≤ n → ByVal P w n s v
  | .none, _, n, s, x, _ => by
    cases x
    exact byVal_pure (b := true) (by cases n <;> rfl)
  | .num i, _, n, s, x, _ => by
    cases x <;> exact byVal_pure (b := true) (by cases n <;> rfl)
  | .text y, _, n, s, x, _ => by
    cases x
    exact byVal_pure (b := false) (by cases n <;> rfl)
  | .tup ks, _, n, s, x, hn => by
    cases x with
    | tup hg hc hd hk =>
      simp only [NestedKey.depth] at hn
      cases n with
      | zero => omega
      | succ n => exact byVal_tup hg hc hd (byVal_keys ks _ n s hk (by omega))
theorem byVal_keys : ∀ (ks : List NestedKey) (vs : List Value) (n : Nat) (s : Shared), NestedAll s.heap ks vs → NestedKey.depthAll ks ≤ n → ∀ v ∈ vs, ByVal P w n s v
  | [], _, n, s, x, _, v, hv => by cases x; cases hv
  | k :: ks, _, n, s, x, hn, v, hv => by
    cases x with
    | cons x1 x2 =>
      simp only [NestedKey.depthAll] at hn
      rcases List.mem_cons.mp hv with e | hv
      · rw [e]
        exact byVal_key k _ n s x1 (by omega)
      · exact byVal_keys ks _ n s x2 (by omega) v hv
end
end ask

/-! ### a set of few tuples, by its table -/
section tups
variable {P : Program} {w : World} {A : Around} {E : Value → Shared → Prop} {s : Shared}
abbrev NT (h : Heap) (k : NestedKey) (a : Addr) : Prop := NestedIs h k (.ref a) ∧ k.depth ≤ 8
def rowN (w : World) (p : Addr × NestedKey) : Int × Value := (p.2.hash w, .ref p.1)
abbrev hashesOf (w : World) (L : List (Addr × NestedKey)) : List Int := L.map fun p => p.2.hash w
structure TupS (w : World) (h : Heap) (a : Addr) (L : List (Addr × NestedKey)) : Prop where
  ex : ∃ o es ep t, h.get? a = some o ∧ o.ExactSet ∧ o.data = .set es ep t ∧ es.toList = L.map (rowN w) ∧ TabOk t (hashesOf w L) ∧ t.mask = 7 ∧ Ld w t
  is : ∀ p ∈ L, NT h p.2 p.1
  nd : (L.map (·.2)).Nodup
  few : L.length ≤ 4
/-- asking tells nothing -/
theorem quiet_search {k : NestedKey} {b : Addr} {Q : Bool → Shared → Prop} (hk : NT s.heap k b) {ys : List Value} (hy : ∀ y ∈ ys, ∃ k' c, y = Value.ref c ∧ NT s.heap k' c) (h : Q false s) : wpAny (model P w) A (searchCouldBeSeen (.ref b) ys) Q E s := by
  unfold searchCouldBeSeen
  refine wpAny_bind ?_
  refine wpAny_forIn_list _ (fun left r s' => r.1 = none ∧ s' = s ∧ ∀ y ∈ left, ∃ k' c, y = Value.ref c ∧ NT s.heap k' c) _ ?_ ?_ _ _ ⟨rfl, rfl, hy⟩
  · rintro v left r s' ⟨_, rfl, all⟩
    obtain ⟨k', c, rfl, hc⟩ := all v List.mem_cons_self
    have next : ∀ y ∈ left, ∃ k' c, y = Value.ref c ∧ NT s'.heap k' c := fun u hu => all u (List.mem_cons_of_mem _ hu)
    dsimp only
    by_cases hv : (b == c || (carriedByValue (.ref b) && carriedByValue (.ref c))) = true
    · exact wp_if_pos hv (wpAny_pure ⟨rfl, rfl, next⟩)
    · refine wp_if_neg hv ?_
      refine wpAny_bind (quiet_key k _ 8 s' hk.1 hk.2 _ _ _ ?_)
      simp only [Bool.not_true, Bool.false_eq_true, if_false]
      refine wpAny_bind (quiet_key k' _ 8 s' hc.1 hc.2 _ _ _ ?_)
      simp only [Bool.not_true, Bool.false_eq_true, if_false]
      refine wpAny_bind (noCls_key k _ 8 s' hk.1 hk.2 _ _ _ ?_)
      simp only [Bool.false_eq_true, if_false]
      refine wpAny_bind (noCls_key k' _ 8 s' hc.1 hc.2 _ _ _ ?_)
      simp only [Bool.false_eq_true, if_false]
      exact wpAny_pure ⟨rfl, rfl, next⟩
  · rintro ⟨r1, r2⟩ s' ⟨hr, rfl, _⟩
    simp only at hr
    subst hr
    exact wpAny_pure h
/-- the probe behind c steps -/
abbrev stp (m : Nat) (h : Int) (c : Nat) : SetTable.Probe := nth m (runAt m (SetTable.bits h % (m + 1)) (SetTable.bits h)) c
theorem stp_dummy (m : Nat) (h : Int) (c : Nat) : (stp m h c).dummy = none := by
  have key : ∀ (n : Nat) (p : SetTable.Probe), p.dummy = none → (nth m p n).dummy = none := by
    intro n
    induction n with
    | zero => intro p hp; exact hp
    | succ n ih =>
      intro p hp
      refine ih (adv m p) ?_
      unfold adv
      split <;> exact hp
  exact key c _ rfl
theorem stp_add (m : Nat) (h : Int) (c q : Nat) : nth m (stp m h c) q = stp m h (c + q) := (nth_add m c _ q).symm
theorem tup_search {a : Addr} {L : List (Addr × NestedKey)} {o : Obj} {es : Array (Int × Value)} {ep : Nat} {t : SetTable} {x : Addr} {k : NestedKey} (ho : s.heap.get? a = some o) (hd : o.data = .set es ep t) (rows : es.toList = L.map (rowN w)) (T : TabOk t (hashesOf w L)) (hm : t.mask = 7) (is : ∀ p ∈ L, NT s.heap p.2 p.1) (few : L.length ≤ 4)
    (hx : NT s.heap k x) (hu : A.units + 8 < cLine) {K : Nat} (hKf : K < 10 * SetTable.turns t.mask) (hK : way t.mask (k.hash w) K ∉ t.place.toList) (hKb : ∀ c, c < K → way t.mask (k.hash w) c ∈ t.place.toList) {Q : SetFound → Shared → Prop}
    (hin : k ∈ L.map (·.2) → Q (.there none) s) (hout : k ∉ L.map (·.2) → Q (.free (way t.mask (k.hash w) K) false) s) :
    ∀ (f c : Nat) (st : Option SetTable.Probe), st.getD (t.probeStart (k.hash w)) = stp t.mask (k.hash w) c → c ≤ K → K - c < f →
      (∀ (i : Nat) p, L[i]? = some p → p.2 = k → ∃ c', c ≤ c' ∧ c' < K ∧ t.place.toList[i]? = some (way t.mask (k.hash w) c')) →
      wpAny (model P w) A (setSearchFrom a (.ref x) (k.hash w) true f st) Q E s
  | 0, c, st, _, _, hf, _ => absurd hf (Nat.not_lt_zero _)
  | f + 1, c, st, hst, hc, hf, hre => by
    have hsz : es.size = L.length := by rw [← Array.length_toList, rows, List.length_map]
    have fits : t.fits es.size = true := by
      have h1 := T.sz
      rw [List.length_map] at h1
      unfold SetTable.fits SetTable.fill
      rw [T.dm, Bool.and_eq_true, beq_iff_eq, decide_eq_true_eq, hm]
      show t.place.size = es.size ∧ t.place.size + 0 ≤ 7
      omega
    have entry : ∀ (i : Nat) p, L[i]? = some p → es[i]? = some (p.2.hash w, Value.ref p.1) := fun i p hp => by
      rw [← Array.getElem?_toList, rows, List.getElem?_map, hp]
      rfl
    have hashAt : ∀ (i : Nat) p, L[i]? = some p → (es[i]?.map (·.1)).getD 0 = p.2.hash w := fun i p hp => by rw [entry i p hp]; rfl
    have gw : ¬ t.gaveWay = true := by
      unfold SetTable.gaveWay
      rw [hm]
      decide
    have ej : ∀ q, (nth t.mask (stp t.mask (k.hash w) c) q).j = way t.mask (k.hash w) (c + q) := fun q => congrArg SetTable.Probe.j (stp_add _ _ c q)
    rw [setSearchFrom_succ]
    refine wpAny_bind (wpAny_setState_of ho hd fits ?_)
    dsimp only
    refine wp_if_neg gw ?_
    try refine wpAny_bind (wpAny_pure ?_)
    have spec := go_spec t T.ris T.dm (fun i => (es[i]?.map (·.1)).getD 0) (k.hash w) (10 * SetTable.turns t.mask) (K - c) (stp t.mask (k.hash w) c) (stp_dummy _ _ c) (by omega)
      (fun q hq => by rw [ej]; exact hKb (c + q) (by omega)) (by rw [ej, show c + (K - c) = K by omega]; exact hK)
    rcases spec with ⟨q, i, hq, hi, _, hno, hpr⟩ | ⟨hno, hpr⟩
    · have hpr' : t.probe (fun i => (es[i]?.map (·.1)).getD 0) (k.hash w) (st.getD (t.probeStart (k.hash w))) = some (.candidate (way t.mask (k.hash w) (c + q)) i (stp t.mask (k.hash w) (c + (q + 1)))) := by
        rw [hst, ← ej, ← stp_add]
        exact hpr
      rw [hpr']
      dsimp only
      rw [ej] at hi
      have hil : i < L.length := by
        have h1 := (List.getElem?_eq_some_iff.mp hi).1
        have h2 := T.sz
        rw [List.length_map] at h2
        rw [Array.length_toList] at h1
        omega
      have hp : L[i]? = some L[i] := List.getElem?_eq_getElem hil
      generalize L[i] = p at hp
      have hmem : p ∈ L := List.mem_of_getElem? hp
      have after : wpAny (model P w) A (searchRest a (.ref x) (k.hash w) true f es t (way t.mask (k.hash w) (c + q)) i (stp t.mask (k.hash w) (c + (q + 1)))) Q E s := by
        unfold searchRest
        rw [entry i p hp]
        dsimp only
        refine wpAny_bind (wpAny_holding ((nestedKind P w).eqBool (x := p.2) (y := k) hu (is p hmem) hx ?_))
        refine wpAny_bind (wpAny_setState_of ho hd fits ?_)
        dsimp only
        by_cases hkk : p.2 = k
        · refine wp_if_pos (by simp [hkk]) ?_
          exact wpAny_pure (hin (List.mem_map.mpr ⟨p, hmem, hkk⟩))
        · refine wp_if_neg (by simp [hkk]) ?_
          try refine wpAny_bind (wpAny_pure ?_)
          rw [sameMem]
          dsimp only
          have hsl : t.slot (way t.mask (k.hash w) (c + q)) = .live i := slot_live T.ris hi
          simp only [if_true, hsl, entry i p hp]
          refine wpAny_bind (wpAny_isSame_ref_self (wpAny_bind (wpAny_pure ?_)))
          simp only [if_true]
          refine wp_if_neg (by simp [hkk]) ?_
          refine tup_search ho hd rows T hm is few hx hu hKf hK hKb hin hout f (c + (q + 1)) _ rfl (by omega) (by omega) fun i0 p0 h0 hk0 => ?_
          obtain ⟨c', a1, a2, a3⟩ := hre i0 p0 h0 hk0
          refine ⟨c', ?_, a2, a3⟩
          rcases Nat.lt_trichotomy c' (c + q) with z | z | z
          · refine absurd ((hashAt i0 p0 h0).trans (by rw [hk0])) (hno (c' - c) i0 (by omega) ?_)
            rw [ej, show c + (c' - c) = c' by omega]
            exact a3
          · exfalso
            rw [z] at a3
            have s0 := slot_live T.ris a3
            rw [hsl] at s0
            injection s0 with s0
            rw [← s0, hp] at h0
            cases h0
            exact hkk hk0
          · omega
      by_cases hl : t.led = true
      · refine wp_if_neg (by simp [hl]) ?_
        try refine wpAny_bind (wpAny_pure ?_)
        exact after
      · refine wp_if_pos (by simp [hl]) ?_
        refine wpAny_bind (quiet_search hx (fun y hy => ?_) ?_)
        · obtain ⟨e, he, ee⟩ := List.mem_map.mp hy
          have he1 : e ∈ es ∧ e.1 = k.hash w := by simpa using he
          have he2 : e ∈ es.toList := by simpa using he1.1
          rw [rows] at he2
          obtain ⟨p2, hp2, e2⟩ := List.mem_map.mp he2
          exact ⟨p2.2, p2.1, by rw [← ee, ← e2]; rfl, is p2 hp2⟩
        · refine wp_if_neg (by decide) ?_
          try refine wpAny_bind (wpAny_pure ?_)
          exact after
    · have hpr' : t.probe (fun i => (es[i]?.map (·.1)).getD 0) (k.hash w) (st.getD (t.probeStart (k.hash w))) = some (.empty (way t.mask (k.hash w) K) none) := by
        have e2 : way t.mask (k.hash w) K = (nth t.mask (stp t.mask (k.hash w) c) (K - c)).j := by rw [ej, show c + (K - c) = K by omega]
        rw [hst, e2]
        exact hpr
      rw [hpr']
      dsimp only
      refine wpAny_pure (hout fun hm' => ?_)
      obtain ⟨p0, h0, hk0⟩ := List.mem_map.mp hm'
      obtain ⟨i0, hi0, e0⟩ := List.getElem_of_mem h0
      have h00 : L[i0]? = some p0 := by rw [List.getElem?_eq_getElem hi0, e0]
      obtain ⟨c', a1, a2, a3⟩ := hre i0 p0 h00 hk0
      refine absurd ((hashAt i0 p0 h00).trans (by rw [hk0])) (hno (c' - c) i0 (by omega) ?_)
      rw [ej, show c + (c' - c) = c' by omega]
      exact a3
theorem nt_same {h h' : Heap} {k : NestedKey} {b a : Addr} {o : Obj} {es : Array (Int × Value)} {ep : Nat} {t : SetTable} (hb : NT h k b) (ho : h.get? a = some o) (hd : o.data = .set es ep t) (hs : Heap.SameBut a h h') : NT h' k b :=
  ⟨NestedIs.at (fun c ob vs n hc hv => by
    refine (hs.2 c fun e => ?_).trans hc
    subst e
    rw [ho] at hc
    cases hc
    rw [hd] at hv
    cases hv) k _ hb.1, hb.2⟩
theorem nt_keep {h h' : Heap} {k : NestedKey} {b : Addr} (x : NT h k b) (hk : ∀ c o, h.get? c = some o → h'.get? c = some o) : NT h' k b := ⟨NestedIs.at (fun c o vs n hc _ => hk c o hc) k _ x.1, x.2⟩
/-- one more tuple -/
theorem tup_add {a : Addr} {L : List (Addr × NestedKey)} {x : Addr} {k : NestedKey} {Q : Bool → Shared → Prop} (R : TupS w s.heap a L) (hx : NT s.heap k x) (hu : A.units + 8 < cLine) (few : L.length + 1 ≤ 4)
    (hQ : ∀ b h' L', Heap.SameBut a s.heap h' → TupS w h' a L' → (L' = L ∧ k ∈ L.map (·.2)) ∨ (L'.Perm ((x, k) :: L) ∧ k ∉ L.map (·.2)) → Q b { s with heap := h' }) : wpAny (model P w) A (setAddHashed a (.ref x) (k.hash w)) Q E s := by
  obtain ⟨o, es, ep, t, ho, hex, hd, rows, T, hm, hl⟩ := R.ex
  have hsz : es.size = L.length := by rw [← Array.length_toList, rows, List.length_map]
  have fits : t.fits es.size = true := by
    have h1 := T.sz
    rw [List.length_map] at h1
    unfold SetTable.fits SetTable.fill
    rw [T.dm, Bool.and_eq_true, beq_iff_eq, decide_eq_true_eq, hm]
    show t.place.size = es.size ∧ t.place.size + 0 ≤ 7
    omega
  obtain ⟨K, hKf, hK, hKb⟩ := T.first (by rw [List.length_map, hm]; omega) (k.hash w)
  have big : K < 100000 := by
    rw [hm] at hKf
    have e : SetTable.turns 7 = 22 := rfl
    rw [e] at hKf
    omega
  unfold setAddHashed
  refine wpAny_holding ?_
  rw [show (100000 : Nat) = 99999 + 1 from rfl, setAddHashedIn_succ]
  refine wpAny_bind (wpAny_setState_of ho hd fits ?_)
  dsimp only
  refine wp_if_neg (by simp [byScan, Value.scannable]) ?_
  try refine wpAny_bind (wpAny_pure ?_)
  unfold setSearch
  refine wpAny_bind (tup_search ho hd rows T hm R.is R.few hx hu hKf hK hKb (fun hin => ?_) (fun hout => ?_) 100000 0 none rfl (Nat.zero_le _) (by omega) fun i p hp hk => ?_)
  · dsimp only
    exact wpAny_pure (hQ false s.heap L (Heap.SameBut.refl a s.heap) R (.inl ⟨rfl, hin⟩))
  · dsimp only
    refine wpAny_bind (wpAny_setState_of ho hd fits ?_)
    dsimp only
    obtain ⟨q1, q2, q3, q4, q5, q6, q7, q8, q9⟩ := T.put hK hKb
    generalize t.put (way t.mask (k.hash w) K) = pt at q1 q3 q4 q5 q6 q7 q8 q9 ⊢
    obtain ⟨t1, p⟩ := pt
    dsimp only at q1 q3 q4 q5 q6 q7 q8 q9 ⊢
    subst q1
    rw [List.length_map] at q2 q9
    generalize SetTable.below t.place (way t.mask (k.hash w) K) = p at q2 q3 ⊢
    have rows1 : (SetTable.insertAt es p (k.hash w, Value.ref x)).toList = (L.take p ++ (x, k) :: L.drop p).map (rowN w) := by
      rw [SetTable.toList_insertAt, rows, List.map_append, List.map_cons, List.map_take, List.map_drop]
      rfl
    have pm := put_perm L p (x, k)
    have hh : hashesOf w (L.take p ++ (x, k) :: L.drop p) = (hashesOf w L).take p ++ k.hash w :: (hashesOf w L).drop p := by
      simp only [hashesOf, List.map_append, List.map_cons, List.map_take, List.map_drop]
    rw [← hh] at q3
    generalize L.take p ++ (x, k) :: L.drop p = L1 at rows1 pm q3
    generalize SetTable.insertAt es p (k.hash w, Value.ref x) = es1 at rows1
    have hsz1 : es1.size = L.length + 1 := by rw [← Array.length_toList, rows1, List.length_map, pm.length_eq, List.length_cons]
    have nd1 : (L1.map (·.2)).Nodup := (pm.map (·.2)).nodup_iff.mpr (List.nodup_cons.mpr ⟨hout, R.nd⟩)
    have fin : ∀ t2 : SetTable, t2.place = t1.place → t2.dummies = t1.dummies → t2.mask = t1.mask → t2.led = t1.led → t2.fill = t1.fill →
        wpAny (model P w) A (do
          storeSet a es1 t2
          if (!false && t2.tooFull) = true then setRelay a (SetTable.grown (es.size + 1))
          return true) Q E s := fun t2 e1 e2 e3 e4 e5 => by
      have ntf : t2.tooFull = false := by
        unfold SetTable.tooFull
        rw [e5, q9, e3, q4, hm]
        exact decide_eq_false (by omega)
      refine wpAny_bind (wpAny_storeSet_of ho hd ?_ (by rw [hsz1, sizeLine_eq]; omega))
      have ho1 := store_at (es' := es1) (t' := t2) ho hd
      have sb : Heap.SameBut a s.heap (s.heap.update a (Obj.putSet es1 t2)) := Heap.SameBut.update ..
      generalize s.heap.update a (Obj.putSet es1 t2) = h1 at sb ho1 ⊢
      rw [ntf]
      simp only [Bool.not_false, Bool.and_false, Bool.false_eq_true, if_false]
      try refine wpAny_bind (wpAny_pure ?_)
      refine wpAny_pure (hQ true h1 L1 sb ⟨⟨_, es1, _, t2, ho1, ⟨hex.1, hex.2.1, hex.2.2⟩, rfl, rows1, ?_, e3.trans (q4.trans hm), ?_⟩, fun p hp => ?_, nd1, by rw [pm.length_eq, List.length_cons]; exact few⟩ (.inr ⟨pm, hout⟩))
      · exact ⟨by rw [e1]; exact q3.ris, by rw [e2]; exact q3.dm, by rw [e1]; exact q3.sz, by rw [e3]; exact q3.mok, by rw [e1, e3]; exact q3.bd, by rw [e1, e3]; exact q3.reach⟩
      · rcases hl with z | z
        · exact .inl z
        · exact .inr ((e4.trans q5).trans z)
      · rcases List.mem_cons.mp (pm.mem_iff.mp hp) with e | hp
        · rw [e]
          exact nt_same hx ho hd sb
        · exact nt_same (R.is p hp) ho hd sb
    by_cases hp1 : t1.plain = true
    · first
        | (refine wpAny_bind ?_; refine wp_if_pos hp1 ?_; refine byVal_key k _ 8 s hx.1 hx.2 _ _ _ fun b => ?_)
        | refine wp_if_pos hp1 (wpAny_bind (byVal_key k _ 8 s hx.1 hx.2 _ _ _ fun b => ?_))
      cases b with
      | true =>
        simp only [if_true]
        exact fin t1 rfl rfl rfl rfl rfl
      | false =>
        simp only [Bool.false_eq_true, if_false]
        exact fin { t1 with plain := false } rfl rfl rfl rfl rfl
    · first
        | (refine wpAny_bind ?_; refine wp_if_neg hp1 ?_; refine wpAny_pure ?_)
        | refine wp_if_neg hp1 ?_
      try refine wpAny_bind (wpAny_pure ?_)
      simp only [if_true]
      exact fin t1 rfl rfl rfl rfl rfl
  · have hi : (hashesOf w L)[i]? = some (k.hash w) := by
      rw [List.getElem?_map, hp, ← hk]
      rfl
    have hil : i < t.place.toList.length := by
      have h1 := (List.getElem?_eq_some_iff.mp hp).1
      have h2 := T.sz
      rw [List.length_map] at h2
      rw [Array.length_toList]
      omega
    have hj := List.getElem?_eq_getElem hil
    obtain ⟨c, hc, e⟩ := T.before hK hi hj
    exact ⟨c, Nat.zero_le _, hc, by rw [hj, e]⟩
theorem TupS.keep {h h' : Heap} {a : Addr} {L : List (Addr × NestedKey)} (R : TupS w h a L) (ha : ∀ o, h.get? a = some o → h'.get? a = some o) (ht : ∀ p ∈ L, NT h' p.2 p.1) : TupS w h' a L := by
  obtain ⟨o, es, ep, t, ho, r⟩ := R.ex
  exact ⟨⟨o, es, ep, t, ha o ho, r⟩, ht, R.nd, R.few⟩
theorem TupS.toC {h : Heap} {a : Addr} {L : List (Addr × NestedKey)} (R : TupS w h a L) : SetC w h a (L.map fun p => Value.ref p.1) := by
  obtain ⟨o, es, ep, t, ho, hex, hd, rows, T, hm, hl⟩ := R.ex
  have hf := R.few
  refine ⟨o, es, ep, t, ho, hex, hd, ?_, ?_, T.ris, hl, by rw [List.length_map]; omega⟩
  · rw [rows, List.map_map]
    exact List.Perm.refl _
  · have h1 := T.sz
    have hsz : es.size = L.length := by rw [← Array.length_toList, rows, List.length_map]
    rw [List.length_map] at h1
    unfold SetTable.fits SetTable.fill
    rw [T.dm, Bool.and_eq_true, beq_iff_eq, decide_eq_true_eq, hm]
    show t.place.size = es.size ∧ t.place.size + 0 ≤ 7
    omega
end tups
end Pb

set_option Elab.async false
set_option linter.all false
set_option maxRecDepth 100000
set_option maxHeartbeats 4000000
namespace Pb
open PySem PySem.Spec PyProof.Rows L2
open Evl (Ex)

section fill
variable {P : Program} {w : World} {A : Around} {E : Value → Shared → Prop} {s : Shared}
/-- what is true of the set at S behind i items: G i; it leans on the set's own object and on what stood in h0 -/
structure Fills (P : Program) (w : World) (A : Around) (S : Addr) (h0 : Heap) (items : Array Value) (G : Nat → Heap → Prop) : Prop where
  keep : ∀ i h h', G i h → (∀ o, h.get? S = some o → h'.get? S = some o) → (∀ b o, h0.get? b = some o → h'.get? b = some o) → G i h'
  add : ∀ (i : Nat) (v : Value) (s : Shared) (E : Value → Shared → Prop) (R : Bool → Shared → Prop), items[i]? = some v → G i s.heap → (∀ b o, h0.get? b = some o → s.heap.get? b = some o) →
    (∀ b h' tk, s.toks ≤ tk → Heap.SameBut S s.heap h' → G (i + 1) h' → R b { s with heap := h', toks := tk }) → wpAny (model P w) A (setAdd S v) R E s
theorem set_loop {I : Addr} {fp wr : List Addr} {Gn : Array GenState → Array GenState → Prop} {n : Nat} {St : Nat → Shared → Prop} {R : Result → Shared → Prop} {S : Addr} {h0 : Heap} {items : Array Value} {G : Nat → Heap → Prop}
    (W : WalksS P w A.in1 I fp wr Gn n (fun i v => items[i]? = some v) St) (Fi : Fills P w A.in1 S h0 items G) (hSf : S ∉ fp) (hS0 : h0.get? S = none) (hw0 : ∀ b ∈ wr, h0.get? b = none) :
    ∀ (k i : Nat) (s : Shared), n - i = k → i ≤ n → St i s → (∀ b o, h0.get? b = some o → s.heap.get? b = some o) → G i s.heap →
      (∀ s', Moved (S :: wr) Gn s s' → G n s'.heap → (∀ b o, h0.get? b = some o → s'.heap.get? b = some o) → R (.ok (.ret .none)) s') → codeAny (model P w) A (.builtin "set.update.loop" ⟨[.ref S, .ref I], []⟩) R s := by
  have hSw : S ∉ wr := fun h => hSf (W.sub _ h)
  have sub : ∀ b ∈ wr, b ∈ S :: wr := fun b hb => List.mem_cons_of_mem _ hb
  have stay : ∀ {s s' : Shared}, Moved wr Gn s s' → (∀ b o, h0.get? b = some o → s.heap.get? b = some o) → ∀ b o, h0.get? b = some o → s'.heap.get? b = some o := fun hm hk b o e =>
    hm.heap b o (fun hb => by rw [hw0 b hb] at e; cases e) (hk b o e)
  intro k
  induction k with
  | zero =>
    intro i s hk hi hst hkp hG hR
    obtain rfl : i = n := by omega
    refine codeAny_builtin F.entry_set_update_loop ?_
    rw [Around.under_plainId F.plain_set_update_loop _]
    show wpAny _ A.in1 (pyNext (.ref I) >>= _) _ _ s
    refine wpAny_bind (W.done s _ _ hst fun s' hm => ?_)
    show wpAny _ A.in1 (ret Value.none) _ _ s'
    exact wpAny_pure (hR s' (hm.mono sub) (Fi.keep _ _ _ hG (fun o e => hm.heap S o hSw e) (stay hm hkp)) (stay hm hkp))
  | succ k ih =>
    intro i s hk hi hst hkp hG hR
    have hlt : i < n := by omega
    refine codeAny_builtin F.entry_set_update_loop ?_
    rw [Around.under_plainId F.plain_set_update_loop _]
    show wpAny _ A.in1 (pyNext (.ref I) >>= _) _ _ s
    refine wpAny_bind (W.item i s _ _ hlt hst fun v s' hv hst' hm => ?_)
    show wpAny _ A.in1 (holding [v] (setAdd S v) >>= _) _ _ s'
    refine wpAny_bind (wpAny_holding ?_)
    refine Fi.add i v s' _ _ hv (Fi.keep _ _ _ hG (fun o e => hm.heap S o hSw e) (stay hm hkp)) (stay hm hkp) fun b h' tk htk sb hG' => ?_
    refine wpAny_pure ⟨plainId_quiet F.plain_set_update_loop _, ih (i + 1) _ (by omega) hlt (W.frame _ s' _ _ hst' htk fun c hc o e => ?_) (fun c o e => ?_) hG' fun s'' hm' hG'' hk'' => ?_⟩
    · rw [sb.2 c (fun z => hSf (by rw [← z]; exact hc))]
      exact e
    · exact (sb.2 c (fun z => by rw [z, hS0] at e; cases e)).trans (stay hm hkp c o e)
    · refine hR s'' (Moved.trans W.gtrans ((hm.mono sub).then_heap htk fun c o hc e => ?_) hm') hG'' hk''
      rw [sb.2 c (fun z => hc (by rw [z]; exact List.mem_cons_self))]
      exact e

abbrev setOb (w : World) : Obj := { cls := .type "set", dict := none, data := .set #[] 0 (.fresh 0 0 (!w.params.followText "set-order")) }
set_option maxHeartbeats 6400000 in
/-- set(xs) of a list or a tuple -/
theorem call_set_gen {l : Addr} {items : Array Value} {G : Nat → Heap → Prop} {Q : Value → Shared → Prop} (hh : A.handled = none) (hl : s.heap.IsList l items ∨ s.heap.IsTuple l items)
    (G0 : ∀ h, h.get? s.heap.objs.size = some (setOb w) → (∀ b o, s.heap.get? b = some o → h.get? b = some o) → G 0 h) (Fi : Fills P w A.in1.in1.in1 s.heap.objs.size s.heap items G)
    (h : ∀ (h' : Heap) (tk : Nat), G items.size h' → (∀ b o, s.heap.get? b = some o → h'.get? b = some o) → Q (.ref s.heap.objs.size) { s with heap := h', toks := tk }) :
    wpAny (model P w) A (call (.type "set") [.ref l]) Q E s := by
  obtain ⟨c, tl, hmro⟩ := F.called_set.mro
  have hmade := F.called_set.made
  have hsub := F.called_set.sub
  have old : ∀ b, s.heap.objs.size ≤ b → s.heap.get? b = none := fun b hb => Heap.get?_none_of_le hb
  refine wpAny_call (codeAny_of_tree ?_)
  show wpAny _ _ (callAny (.type "set") _) _ _ _
  refine wpAny_pure ⟨Code.quiet_builtin _ (by decide +kernel), codeAny_builtin F.entry_type_call ?_⟩
  rw [Around.under_plain (weight_type_call_type "set" [.ref l] []) rfl]
  have h1 := F.called_set.notType
  have h2 := F.called_set.canCreate
  have hct := F.typeCall_set_1 (.ref l)
  repeat (any_goals (first | assumption | wp_step))
  refine codeAny_mono (code_set_led1 (.ref l) (E := E) (Q₁ := fun ob s₁ => ob = .ref s.heap.objs.size ∧ s₁ = { s with heap := s.heap.push (setOb w) }) ⟨rfl, rfl⟩) fun r s₁ hr => ?_
  cases r with
  | error e => exact hr
  | ok fl =>
    cases fl with
    | ret ob =>
      obtain ⟨rfl, rfl⟩ := hr
      have hS : (s.heap.push (setOb w)).get? s.heap.objs.size = some (setOb w) := Heap.get?_push_size _ rfl
      have hT : Shared.TypeIs { s with heap := s.heap.push (setOb w) } (.ref s.heap.objs.size) "set" := ⟨_, hS, rfl⟩
      have hli := F.called_set.init.lookup
      have hbi := F.called_set.init.bind (.ref s.heap.objs.size)
      repeat (any_goals (first | assumption | wp_step))
      refine codeAny_mono (codeAny_call_builtin (R := wants (fun r s₂ => r = .none ∧ ∃ h' tk, s₂ = { s with heap := h', toks := tk } ∧ G items.size h' ∧ ∀ b o, s.heap.get? b = some o → h'.get? b = some o) E) F.called_set.init.plain F.entry_set_init (check_set_init_1 hT ?_)) fun r₂ s₂ hr₂ => ?_
      · have hz1 : (s.heap.push (setOb w)).objs.size = s.heap.objs.size + 1 := Heap.size_push ..
        have hh3 : A.in1.in1.in1.handled = none := by simp [hh]
        rcases hl with hl | hl
        · obtain ⟨ol, hol, hcl, nl, hdl⟩ := hl
          obtain ⟨ocls, odict, odata, oslots⟩ := ol
          simp only at hcl hdl
          subst hcl; subst hdl
          have hol' : (s.heap.push (setOb w)).get? l = some { cls := .type "list", dict := odict, data := .seq items nl, slots := oslots } := Heap.get?_push_of_some _ hol
          have hsls := F.sub_list_set
          have hslf := F.sub_list_frozenset
          have hne : (Value.type "list" == Value.type "dict") = false := by decide
          have hl1 : (s.heap.push (setOb w)).IsList l items := ⟨_, hol', rfl, nl, rfl⟩
          have hlS : l < s.heap.objs.size := Heap.lt_size hol
          unfold Builtin.«set.__init__» noKeywords Builtin.Frozenset.updateFrom
          generalize hPI : pyIter = PI
          wp_walk
          subst hPI
          refine wpAny_pyIter_list hl1 ?_
          refine wpAny_bind (wpAny_runValue ?_)
          refine set_loop ((Walks.list hh3 (s.heap.push (setOb w)).objs.size l (by rw [hz1]; exact Nat.ne_of_lt (Nat.lt_succ_of_lt hlS)) items).toS) Fi
            (by rw [hz1]; simp only [List.mem_cons, List.not_mem_nil, or_false, not_or]; exact ⟨Nat.ne_of_lt (Nat.lt_succ_self _), Nat.ne_of_gt hlS⟩) (old _ (Nat.le_refl _))
            (fun b hb => old b (by rw [List.mem_singleton.mp hb, hz1]; exact Nat.le_succ _)) (items.size - 0) 0 _ (by omega) (Nat.zero_le _) ⟨⟨_, Heap.get?_push_size _ rfl, rfl, rfl⟩, hl1.push _⟩
            (fun b o e => Heap.get?_push_of_some _ (Heap.get?_push_of_some _ e)) (G0 _ (Heap.get?_push_of_some _ hS) fun b o e => Heap.get?_push_of_some _ (Heap.get?_push_of_some _ e)) fun s' hm hG hk => ?_
          obtain ⟨h', g2, d', tk', os'⟩ := s'
          have eg : g2 = s.gens := hm.gens
          have ed : d' = s.drawn := hm.drawn
          have eo : os' = s.os := hm.os
          subst eg ed eo
          show wpAny _ _ _ _ _ _
          refine wpAny_pure ?_
          show wpAny _ _ (ret Value.none) _ _ _
          exact wpAny_pure ⟨rfl, h', tk', rfl, hG, hk⟩
        · obtain ⟨ol, hol, hcl, nl, hdl⟩ := hl
          obtain ⟨ocls, odict, odata, oslots⟩ := ol
          simp only at hcl hdl
          subst hcl; subst hdl
          have hol' : (s.heap.push (setOb w)).get? l = some { cls := .type "tuple", dict := odict, data := .seq items nl, slots := oslots } := Heap.get?_push_of_some _ hol
          have hsls := F.sub_tuple_set
          have hslf := F.sub_tuple_frozenset
          have hne : (Value.type "tuple" == Value.type "dict") = false := by decide
          have hl1 : (s.heap.push (setOb w)).IsTuple l items := ⟨_, hol', rfl, nl, rfl⟩
          have hlS : l < s.heap.objs.size := Heap.lt_size hol
          unfold Builtin.«set.__init__» noKeywords Builtin.Frozenset.updateFrom
          generalize hPI : pyIter = PI
          wp_walk
          subst hPI
          refine wpAny_pyIter_tuple hl1 ?_
          refine wpAny_bind (wpAny_runValue ?_)
          refine set_loop ((Walks.tuple hh3 (s.heap.push (setOb w)).objs.size l (by rw [hz1]; exact Nat.ne_of_lt (Nat.lt_succ_of_lt hlS)) items).toS) Fi
            (by rw [hz1]; simp only [List.mem_cons, List.not_mem_nil, or_false, not_or]; exact ⟨Nat.ne_of_lt (Nat.lt_succ_self _), Nat.ne_of_gt hlS⟩) (old _ (Nat.le_refl _))
            (fun b hb => old b (by rw [List.mem_singleton.mp hb, hz1]; exact Nat.le_succ _)) (items.size - 0) 0 _ (by omega) (Nat.zero_le _) ⟨⟨_, Heap.get?_push_size _ rfl, rfl, rfl⟩, hl1.push _⟩
            (fun b o e => Heap.get?_push_of_some _ (Heap.get?_push_of_some _ e)) (G0 _ (Heap.get?_push_of_some _ hS) fun b o e => Heap.get?_push_of_some _ (Heap.get?_push_of_some _ e)) fun s' hm hG hk => ?_
          obtain ⟨h', g2, d', tk', os'⟩ := s'
          have eg : g2 = s.gens := hm.gens
          have ed : d' = s.drawn := hm.drawn
          have eo : os' = s.os := hm.os
          subst eg ed eo
          show wpAny _ _ _ _ _ _
          refine wpAny_pure ?_
          show wpAny _ _ (ret Value.none) _ _ _
          exact wpAny_pure ⟨rfl, h', tk', rfl, hG, hk⟩
      · cases r₂ with
        | error e => exact hr₂
        | ok fl₂ =>
          cases fl₂ with
          | ret r =>
            obtain ⟨rfl, h', tk, rfl, hG, hk⟩ := hr₂
            repeat (any_goals (first | assumption | wp_step))
            exact h h' tk hG hk
          | _ => exact hr₂.elim
    | _ => exact hr.elim
end fill
end Pb

set_option Elab.async false
set_option linter.all false
set_option maxRecDepth 100000
set_option maxHeartbeats 4000000
namespace Pb
open PySem PySem.Spec PyProof.Rows L2
open Evl (Ex)

/-- the set object at a, its values L in some order -/
def SetV (w : World) (a : Addr) (L : List V) : HO := .ext fun h => ∃ vs, Vals L vs ∧ SetC w h a vs
theorem setC_keep {w : World} {h h' : Heap} {a : Addr} {vs : List Value} (R : SetC w h a vs) (k : ∀ o, h.get? a = some o → h'.get? a = some o) : SetC w h' a vs := by
  obtain ⟨o, es, ep, t, ho, r⟩ := R
  exact ⟨o, es, ep, t, k o ho, r⟩
theorem setV_ok {P : Program} {w : World} {H : Hp} {h : Heap} {a : Addr} {L : List V} {vs : List Value} (r : Vals L vs) (R : SetC w h a vs) : ObjOk P w H h a (SetV w a L) := by
  refine ⟨⟨vs, r, R⟩, ?_, fun h1 h2 ⟨us, r', R'⟩ k => ⟨us, r', setC_keep R' k⟩⟩
  obtain ⟨o, es, ep, t, ho, _⟩ := R
  exact ⟨o, ho⟩
section
variable {X : Cx} {pins : List (Addr × Obj)} {σ : L2.St} {H : Hp} {s : Shared}
theorem setV_get {a : Addr} {L : List V} (I : Inv X pins σ H s) (ha : H a = some (SetV X.w a L)) : ∃ vs, Vals L vs ∧ SetC X.w s.heap a vs := (I.hok a _ ha).1
theorem key_of_rel {k : Key} {u : Value} (r : RelV (kV k) u) : keyIs k u = true := by
  cases k with
  | inl i =>
    obtain ⟨t, rfl⟩ := r
    exact keyIs_int i t
  | inr x =>
    obtain ⟨t, rfl⟩ := r
    exact keyIs_str x t
theorem vals_at : ∀ {xs : List V} {us : List Value} {i : Nat} {u : Value}, Vals xs us → us[i]? = some u → ∃ x, xs[i]? = some x ∧ RelV x u
  | _, _, _, _, .nil, e => by simp at e
  | _, _, 0, _, .cons r _, e => by
    simp only [List.getElem?_cons_zero, Option.some.injEq] at e
    subst e
    exact ⟨_, rfl, r⟩
  | _, _, i + 1, _, .cons _ t, e => by
    simp only [List.getElem?_cons_succ] at e
    obtain ⟨x, h1, h2⟩ := vals_at t e
    exact ⟨x, by simpa using h1, h2⟩
def GF (P : Program) (w : World) (S : Addr) (ks : List Key) (i : Nat) (h : Heap) : Prop := ∃ L : List (Value × Key), FlatS P w h S L ∧ L.length ≤ i ∧ ∀ k : Key, k ∈ L.map (fun p : Value × Key => p.2) ↔ k ∈ ks.take i
/-- set(xs) of texts and ints -/
def rSetF (w : World) : List V → Hp → VK → Prop := fun vs H Q => ∃ (l : Addr) (ks : List Key), vs = [V.ref l] ∧ (H l = some (.lst (ks.map kV)) ∨ H l = some (.tup (ks.map kV))) ∧ ks.length < 63 ∧
  ∀ a (ks' : List Key), H a = none → ks'.Nodup → (∀ k, k ∈ ks' ↔ k ∈ ks) → ks'.length < 64 → Q (.ref a) (upd H a (SetV w a (ks'.map kV)))
theorem cr_setF (hc : X.calm = true) : CallR X (.type "set") (rSetF X.w) := by
  intro pins s σ H xs us Q I r h
  obtain ⟨l, ks, rfl, hl, hf, q⟩ := h
  rw [Vals.ref1 r]
  have hl' : ∃ its : List Value, Vals (ks.map kV) its ∧ (s.heap.IsList l its.toArray ∨ s.heap.IsTuple l its.toArray) := by
    rcases hl with hl | hl
    · obtain ⟨its, rv, pl, _⟩ := I.list (.of hl)
      exact ⟨its, rv, .inl pl.isList⟩
    · obtain ⟨its, rv, pl, _⟩ := I.tuple (.of hl)
      exact ⟨its, rv, .inr pl⟩
  obtain ⟨its, rv, hl2⟩ := hl'
  have hlen : its.length = ks.length := by
    have e := rv.length
    rw [List.length_map] at e
    exact e.symm
  refine call_set_gen (I.ok.hd hc) hl2 (G := GF X.prog X.w s.heap.objs.size ks) (fun h e _ => ⟨[], ⟨⟨_, _, _, _, e, ⟨rfl, rfl, rfl⟩, rfl, .refl _, by rfl, List.Pairwise.nil, ?_⟩, fun p hp => (by cases hp), List.nodup_nil, by decide⟩, Nat.le_refl _, fun k => by simp⟩) ⟨fun i h h' ⟨L, F, g1, g2⟩ k1 _ => ⟨L, F.keep k1, g1, g2⟩, fun i v s' E R hv ⟨L, F, g1, g2⟩ k1 hR => ?_⟩ fun h' tk ⟨L, F, g1, g2⟩ k1 => ?_
  · show _ ∨ (!X.w.params.followText "set-order") = true
    cases X.w.params.followText "set-order"
    · exact .inr rfl
    · exact .inl rfl
  · have hv' : its[i]? = some v := by simpa using hv
    obtain ⟨x, e1, r1⟩ := vals_at rv hv'
    rw [List.getElem?_map] at e1
    cases e2 : ks[i]? with
    | none => rw [e2] at e1; cases e1
    | some k =>
      rw [e2] at e1
      cases e1
      have hi : i < ks.length := (List.getElem?_eq_some_iff.mp e2).1
      have hk := key_of_rel r1
      unfold setAdd
      refine wpAny_holding (wpAny_bind ((mixKind X.prog X.w).pyHash (k := k) hk ?_))
      refine flat_add (s := { s' with toks := s'.toks + 1 }) F hk (by omega) fun b h' L' sb F' alt => hR b h' _ (Nat.le_succ _) sb ⟨L', F', ?_, fun k0 => ?_⟩
      · rcases alt with ⟨rfl, _⟩ | ⟨rfl, _⟩
        · exact Nat.le_succ_of_le g1
        · exact Nat.succ_le_succ g1
      · rw [List.take_add_one, e2, List.mem_append, ← g2 k0]
        rcases alt with ⟨rfl, hm⟩ | ⟨rfl, hm⟩
        · constructor
          · exact .inl
          · rintro (z | z)
            · exact z
            · have z : k0 = k := by simpa using z
              rw [z]
              exact hm
        · rw [List.map_cons, List.mem_cons]
          simp only [Option.toList_some, List.mem_singleton]
          exact Or.comm
  · have hsz : its.toArray.size = ks.length := by rw [List.size_toArray, hlen]
    rw [hsz, List.take_length] at g2
    rw [hsz] at g1
    have rV : Vals ((L.map (·.2)).map kV) (L.map (·.1)) := by
      have key : ∀ M : List (Value × Key), (∀ p ∈ M, keyIs p.2 p.1 = true) → Vals ((M.map (·.2)).map kV) (M.map (·.1)) := by
        intro M
        induction M with
        | nil => intro _; exact .nil
        | cons p M ih => intro hM; exact .cons (relV_key (hM p List.mem_cons_self)) (ih fun q hq => hM q (List.mem_cons_of_mem _ hq))
      exact key L F.is
    have hn : H s.heap.objs.size = none := I.hok.fresh (Nat.le_refl _)
    refine ⟨.ref s.heap.objs.size, _, I.laid (t' := tk) k1 (Nat.le_refl _) (setV_ok rV F.toC), rfl, q _ _ hn F.nd g2 (by rw [List.length_map]; exact F.few)⟩

/-! ### nested keys of data -/
mutual
def keyD : PyData → NestedKey
  | .none => .none
  | .bool b => .num (if b = true then 1 else 0)
  | .int i => .num i
  | .str x => .text x
  | .tuple ds => .tup (keyDs ds)
  | .list _ => .none
  | .dict _ => .none
def keyDs : List PyData → List NestedKey
  | [] => []
  | d :: ds => keyD d :: keyDs ds
end
mutual
/-- ints, texts and tuples of these -/
def keyOk : PyData → Bool
  | .int _ => true
  | .str _ => true
  | .tuple ds => keyOks ds
  | .none => false
  | .bool _ => false
  | .list _ => false
  | .dict _ => false
def keyOks : List PyData → Bool
  | [] => true
  | d :: ds => keyOk d && keyOks ds
end
mutual
theorem keyD_inj : ∀ d e : PyData, keyOk d = true → keyOk e = true → keyD d = keyD e → d = e
  | .int i, e, _, h, q => by
    cases e <;> simp_all [keyD, keyOk]
  | .str x, e, _, h, q => by
    cases e <;> simp_all [keyD, keyOk]
  | .tuple ds, e, h0, h, q => by
    cases e with
    | tuple es =>
      rw [keyD, keyD] at q
      injection q with q
      rw [keyOk] at h0 h
      rw [keyDs_inj ds es h0 h q]
    | int _ => rw [keyD, keyD] at q; cases q
    | str _ => rw [keyD, keyD] at q; cases q
    | none => rw [keyOk] at h; cases h
    | bool _ => rw [keyOk] at h; cases h
    | list _ => rw [keyOk] at h; cases h
    | dict _ => rw [keyOk] at h; cases h
  | .none, _, h, _, _ => by rw [keyOk] at h; cases h
  | .bool _, _, h, _, _ => by rw [keyOk] at h; cases h
  | .list _, _, h, _, _ => by rw [keyOk] at h; cases h
  | .dict _, _, h, _, _ => by rw [keyOk] at h; cases h
theorem keyDs_inj : ∀ ds es : List PyData, keyOks ds = true → keyOks es = true → keyDs ds = keyDs es → ds = es
  | [], [], _, _, _ => rfl
  | [], _ :: _, _, _, q => by rw [keyDs, keyDs] at q; cases q
  | _ :: _, [], _, _, q => by rw [keyDs, keyDs] at q; cases q
  | d :: ds, e :: es, h, h', q => by
    rw [keyDs, keyDs] at q
    injection q with q1 q2
    rw [keyOks, Bool.and_eq_true] at h h'
    rw [keyD_inj d e h.1 h'.1 q1, keyDs_inj ds es h.2 h'.2 q2]
end
mutual
theorem keyD_is (I : Inv X pins σ H s) : ∀ (d : PyData) (v : V) (u : Value), keyOk d = true → Dq H v d → RelV v u → NestedIs s.heap (keyD d) u
  | .int i, _, _, _, h, r => by
    cases h
    obtain ⟨t, rfl⟩ := r
    rw [keyD]
    exact .int i t
  | .str x, _, _, _, h, r => by
    cases h
    obtain ⟨t, rfl⟩ := r
    rw [keyD]
    exact .text x t
  | .tuple ds, _, _, k, h, r => by
    cases h with
    | tup h1 h2 =>
      obtain rfl := r
      rw [keyOk] at k
      rw [keyD]
      obtain ⟨its, rv, ⟨o, ho, hc, n, hd⟩, _⟩ := I.tuple (.of h1)
      exact .tup ho hc hd (by simpa using keyDs_is I ds _ _ k h2 rv)
  | .none, _, _, k, _, _ => by rw [keyOk] at k; cases k
  | .bool _, _, _, k, _, _ => by rw [keyOk] at k; cases k
  | .list _, _, _, k, _, _ => by rw [keyOk] at k; cases k
  | .dict _, _, _, k, _, _ => by rw [keyOk] at k; cases k
theorem keyDs_is (I : Inv X pins σ H s) : ∀ (ds : List PyData) (vs : List V) (us : List Value), keyOks ds = true → DqAll H vs ds → Vals vs us → NestedAll s.heap (keyDs ds) us
  | [], _, _, _, h, r => by
    cases h
    cases r
    rw [keyDs]
    exact .nil
  | d :: ds, _, _, k, h, r => by
    rw [keyOks, Bool.and_eq_true] at k
    cases h with
    | cons h1 h2 =>
      cases r with
      | cons r1 r2 =>
        rw [keyDs]
        exact .cons (keyD_is I d _ _ k.1 h1 r1) (keyDs_is I ds _ _ k.2 h2 r2)
end
mutual
theorem keyD_depth : ∀ d : PyData, (keyD d).depth ≤ d.depth
  | .none => by simp [keyD, NestedKey.depth]
  | .bool _ => by simp [keyD, NestedKey.depth]
  | .int _ => by simp [keyD, NestedKey.depth]
  | .str _ => by simp [keyD, NestedKey.depth]
  | .list _ => by simp [keyD, NestedKey.depth]
  | .dict _ => by simp [keyD, NestedKey.depth]
  | .tuple ds => by
    rw [keyD, NestedKey.depth, PyData.depth]
    have h := keyDs_depth ds
    omega
theorem keyDs_depth : ∀ ds : List PyData, NestedKey.depthAll (keyDs ds) ≤ PyData.depthAll ds
  | [] => Nat.le_refl _
  | d :: ds => by
    rw [keyDs, NestedKey.depthAll, PyData.depthAll]
    have h1 := keyD_depth d
    have h2 := keyDs_depth ds
    omega
end
theorem perm_map_ex {α β : Type} {f : α → β} : ∀ {l : List β} {m : List β}, l.Perm m → ∀ M : List α, m = M.map f → ∃ M' : List α, M'.Perm M ∧ l = M'.map f := by
  intro l m h
  induction h with
  | nil => intro M e; exact ⟨M, .refl _, e⟩
  | @cons x l1 l2 h ih =>
    intro M e
    cases M with
    | nil => cases e
    | cons a M =>
      rw [List.map_cons] at e
      injection e with e1 e2
      obtain ⟨M', p, q⟩ := ih M e2
      exact ⟨a :: M', p.cons a, by rw [List.map_cons, ← q, e1]⟩
  | swap x y l =>
    intro M e
    match M, e with
    | a :: b :: M, e =>
      simp only [List.map_cons, List.cons.injEq] at e
      obtain ⟨e1, e2, e3⟩ := e
      exact ⟨b :: a :: M, List.Perm.swap .., by rw [List.map_cons, List.map_cons, e1, e2, e3]⟩
  | trans h1 h2 ih1 ih2 =>
    intro M e
    obtain ⟨M1, p1, q1⟩ := ih2 M e
    obtain ⟨M2, p2, q2⟩ := ih1 M1 q1
    exact ⟨M2, p2.trans p1, q2⟩
def GT (w : World) (S : Addr) (H : Hp) (ds : List PyData) (i : Nat) (h : Heap) : Prop :=
  ∃ M : List (Addr × PyData), TupS w h S (M.map fun p : Addr × PyData => (p.1, keyD p.2)) ∧ M.length ≤ i ∧ (∀ p ∈ M, p.2 ∈ ds.take i ∧ Dq H (V.ref p.1) p.2 ∧ keyOk p.2 = true) ∧ ∀ d ∈ ds.take i, d ∈ M.map (fun p : Addr × PyData => p.2)
/-- set(xs) of few nested tuples -/
def rSetT (w : World) : List V → Hp → VK → Prop := fun vs H Q => ∃ (l : Addr) (xs : List V) (ds : List PyData), vs = [V.ref l] ∧ (H l = some (.lst xs) ∨ H l = some (.tup xs)) ∧ DqAll H xs ds ∧ (∀ d ∈ ds, keyOk d = true ∧ d.depth ≤ 8 ∧ ∃ es, d = .tuple es) ∧ ds.length ≤ 4 ∧
  ∀ a L es, H a = none → DqAll H L es → es.Nodup → (∀ d, d ∈ es ↔ d ∈ ds) → Q (.ref a) (upd H a (SetV w a L))
theorem dq_ref {v : V} {es : List PyData} (h : Dq H v (.tuple es)) : ∃ a, v = .ref a := by
  cases h
  exact ⟨_, rfl⟩
theorem cr_setT (hc : X.calm = true) (hu : X.A.units + 64 < cLine) : CallR X (.type "set") (rSetT X.w) := by
  intro pins s σ H xs0 us Q I r h
  obtain ⟨l, xs, ds, rfl, hl, hq, hok, hf, q⟩ := h
  rw [Vals.ref1 r]
  have hl' : ∃ its : List Value, Vals xs its ∧ (s.heap.IsList l its.toArray ∨ s.heap.IsTuple l its.toArray) := by
    rcases hl with hl | hl
    · obtain ⟨its, rv, pl, _⟩ := I.list (.of hl)
      exact ⟨its, rv, .inl pl.isList⟩
    · obtain ⟨its, rv, pl, _⟩ := I.tuple (.of hl)
      exact ⟨its, rv, .inr pl⟩
  obtain ⟨its, rv, hl2⟩ := hl'
  have hxl := dpAll_len hq
  -- each item: its address and its datum
  have hrow : ∀ (i : Nat) (v : Value), its[i]? = some v → ∃ (a : Addr) (d : PyData), v = Value.ref a ∧ ds[i]? = some d ∧ NT s.heap (keyD d) a ∧ Dq H (V.ref a) d ∧ keyOk d = true := fun i v hv => by
    obtain ⟨x, e1, r1⟩ := vals_at rv hv
    have hi : i < ds.length := by rw [← hxl]; exact (List.getElem?_eq_some_iff.mp e1).1
    obtain ⟨x', e2, h2⟩ := dpAll_get hq (List.getElem?_eq_getElem hi)
    rw [e1] at e2
    cases e2
    have hm : ds[i] ∈ ds := List.getElem_mem hi
    obtain ⟨k1, k2, es, k3⟩ := hok _ hm
    have h2' := h2
    rw [k3] at h2'
    obtain ⟨a, rfl⟩ := dq_ref h2'
    obtain rfl : v = .ref a := r1
    exact ⟨a, ds[i], rfl, List.getElem?_eq_getElem hi, ⟨keyD_is I _ _ _ k1 h2 rfl, Nat.le_trans (keyD_depth _) k2⟩, h2, k1⟩
  have hlen : its.length = ds.length := by rw [← rv.length, hxl]
  refine call_set_gen (I.ok.hd hc) hl2 (G := GT X.w s.heap.objs.size H ds)
    (fun h e _ => ⟨[], ⟨⟨_, _, _, _, e, ⟨rfl, rfl, rfl⟩, rfl, rfl, ⟨List.Pairwise.nil, rfl, rfl, .inl rfl, fun x hx => (by cases hx), fun i h j hi => (by simp at hi)⟩, rfl, ?_⟩, fun p hp => (by cases hp), List.nodup_nil, Nat.zero_le _⟩, Nat.le_refl _, fun p hp => (by cases hp), fun d hd => (by simp at hd)⟩)
    ⟨fun i h h' ⟨M, T, g1, g2, g3⟩ k1 k2 => ⟨M, T.keep k1 fun p hp => ?_, g1, g2, g3⟩, fun i v s' E R hv ⟨M, T, g1, g2, g3⟩ k1 hR => ?_⟩ fun h' tk ⟨M, T, g1, g2, g3⟩ k1 => ?_
  · show _ ∨ (!X.w.params.followText "set-order") = true
    cases X.w.params.followText "set-order"
    · exact .inr rfl
    · exact .inl rfl
  · obtain ⟨p', hp', rfl⟩ := List.mem_map.mp hp
    obtain ⟨a1, a2, a3⟩ := g2 p' hp'
    refine nt_keep ⟨keyD_is I _ _ _ a3 a2 rfl, ?_⟩ k2
    exact Nat.le_trans (keyD_depth _) (hok _ (List.mem_of_mem_take a1)).2.1
  · have hv' : its[i]? = some v := by simpa using hv
    obtain ⟨a, d, rfl, ed, hnt, hdq, hk⟩ := hrow i v hv'
    have hi : i < ds.length := (List.getElem?_eq_some_iff.mp ed).1
    have hnt' : NT s'.heap (keyD d) a := nt_keep hnt k1
    unfold setAdd
    refine wpAny_holding (wpAny_bind ((nestedKind X.prog X.w).pyHash (A := X.A.in1.in1.in1) (k := keyD d) (show X.A.in1.in1.in1.units + 8 < cLine from by show X.A.units + 1 + 1 + 1 + 8 < cLine; omega) hnt' ?_))
    refine tup_add (s := { s' with toks := s'.toks + (keyD d).draws }) T hnt' (by show X.A.units + 1 + 1 + 1 + 8 < cLine; omega) (by rw [List.length_map]; omega) fun b h' L' sb T' alt => hR b h' _ (Nat.le_add_right _ _) sb ?_
    have htk : ds.take (i + 1) = ds.take i ++ [d] := by rw [List.take_add_one, ed]; rfl
    rcases alt with ⟨rfl, hm⟩ | ⟨pm, hm⟩
    · refine ⟨M, T', Nat.le_succ_of_le g1, fun p hp => ?_, fun d0 hd0 => ?_⟩
      · obtain ⟨a1, a2⟩ := g2 p hp
        exact ⟨by rw [htk]; exact List.mem_append_left _ a1, a2⟩
      · rw [htk, List.mem_append, List.mem_singleton] at hd0
        rcases hd0 with z | rfl
        · exact g3 d0 z
        · obtain ⟨p, hp, e⟩ := List.mem_map.mp hm
          obtain ⟨p', hp', rfl⟩ := List.mem_map.mp hp
          exact List.mem_map.mpr ⟨p', hp', keyD_inj _ _ (g2 p' hp').2.2 hk e⟩
    · obtain ⟨M', pM, rfl⟩ := perm_map_ex (f := fun p : Addr × PyData => (p.1, keyD p.2)) pm ((a, d) :: M) rfl
      refine ⟨M', T', ?_, fun p hp => ?_, fun d0 hd0 => ?_⟩
      · rw [pM.length_eq, List.length_cons]
        exact Nat.succ_le_succ g1
      · rcases List.mem_cons.mp (pM.mem_iff.mp hp) with e | hp
        · rw [e, htk]
          exact ⟨List.mem_append_right _ List.mem_cons_self, hdq, hk⟩
        · obtain ⟨a1, a2⟩ := g2 p hp
          exact ⟨by rw [htk]; exact List.mem_append_left _ a1, a2⟩
      · rw [htk, List.mem_append, List.mem_singleton] at hd0
        refine (pM.map (·.2)).mem_iff.mpr ?_
        rw [List.map_cons, List.mem_cons]
        rcases hd0 with z | rfl
        · exact .inr (g3 d0 z)
        · exact .inl rfl
  · have hsz : its.toArray.size = ds.length := by rw [List.size_toArray, hlen]
    rw [hsz, List.take_length] at g2 g3
    have hn : H s.heap.objs.size = none := I.hok.fresh (Nat.le_refl _)
    have rV : Vals (M.map fun p => V.ref p.1) ((M.map fun p => (p.1, keyD p.2)).map fun p => Value.ref p.1) := by
      have key : ∀ N : List (Addr × PyData), Vals (N.map fun p => V.ref p.1) ((N.map fun p => (p.1, keyD p.2)).map fun p => Value.ref p.1) := by
        intro N
        induction N with
        | nil => exact .nil
        | cons p N ih => exact .cons rfl ih
      exact key M
    have dV : DqAll H (M.map fun p => V.ref p.1) (M.map (·.2)) := by
      have key : ∀ N : List (Addr × PyData), (∀ p ∈ N, Dq H (.ref p.1) p.2) → DqAll H (N.map fun p => V.ref p.1) (N.map (·.2)) := by
        intro N
        induction N with
        | nil => intro _; exact .nil
        | cons p N ih => intro hN; exact .cons (hN p List.mem_cons_self) (ih fun q hq => hN q (List.mem_cons_of_mem _ hq))
      exact key M fun p hp => (g2 p hp).2.1
    have nd : (M.map (·.2)).Nodup := by
      have e : (M.map fun p => (p.1, keyD p.2)).map (·.2) = (M.map (·.2)).map keyD := by rw [List.map_map, List.map_map]; rfl
      have n1 := T.nd
      rw [e] at n1
      exact nodup_of_map n1
    refine ⟨.ref s.heap.objs.size, _, I.laid (t' := tk) k1 (Nat.le_refl _) (setV_ok rV T.toC), rfl, q _ _ _ hn dV nd fun d => ⟨fun hd => ?_, g3 d⟩⟩
    obtain ⟨p, hp, rfl⟩ := List.mem_map.mp hd
    exact (g2 p hp).1
/-- len(a set) -/
def rLenV (w : World) : List V → Hp → VK → Prop := fun vs H Q => ∃ a L, vs = [V.ref a] ∧ H a = some (SetV w a L) ∧ Q (.int L.length) H
theorem cr_lenV : CallR X (.builtin "len") (rLenV X.w) := by
  intro pins s σ H xs us Q I r h
  obtain ⟨a, L, rfl, ha, q⟩ := h
  rw [Vals.ref1 r]
  obtain ⟨vs, rv, o, es, ep, t, ho, hex, hd, pm, hf, _, _, few⟩ := setV_get I ha
  have hsz : es.size = L.length := by
    have e := pm.length_eq
    rw [List.length_map, Array.length_toList] at e
    rw [e, rv.length]
  refine call_len_set ho hex hd hf (by rw [hsz, rv.length]; omega) ⟨.int L.length, H, (I.tok _).tok _, ⟨_, by rw [hsz]⟩, q⟩
end

/-! ### an expression that is worth a set -/
/-- es: the set's items, each once -/
def Eset (X : Cx) (e : Expr) (ds : DS) (xs : List PyData) : Prop := ∀ (σ : L2.St) (H : Hp) (Q : VK), Slots H σ ds →
  (∀ a L es H', Ex H H' → H' a = some (SetV X.w a L) → DqAll H' L es → es.Nodup → (∀ d, d ∈ es ↔ d ∈ xs) → L.length < 64 → Q (.ref a) H') → wE X e σ H Q
section
variable {X : Cx} {ds : DS} {e : Expr} {pos p : Pos} {xs : List PyData}
def kD : Key → PyData
  | .inl i => .int i
  | .inr x => .str x
theorem kD_inj {k k' : Key} (h : kD k = kD k') : k = k' := by
  cases k <;> cases k' <;> simp_all [kD]
theorem dq_kD {H : Hp} {v : V} {k : Key} (h : Dq H v (kD k)) : v = kV k := by
  cases k <;> (cases h; rfl)
theorem dpAll_kD {H : Hp} : ∀ {ks : List Key} {vs : List V}, DqAll H vs (ks.map kD) → vs = ks.map kV
  | [], _, h => by cases h; rfl
  | k :: ks, _, h => by
    cases h with
    | cons h1 h2 => rw [dq_kD h1, dpAll_kD h2]; rfl
theorem dpAll_ofK {H : Hp} : ∀ (ks : List Key), DqAll H (ks.map kV) (ks.map kD)
  | [] => .nil
  | .inl i :: ks => .cons (.int i) (dpAll_ofK ks)
  | .inr x :: ks => .cons (.str x) (dpAll_ofK ks)
theorem Eset.flat {d : PyData} {ks : List Key} (hm : X.mg "set" = none) (h : Ed X e ds d) (hd : d = .list (ks.map kD) ∨ d = .tuple (ks.map kD)) (hf : ks.length < 63) (hc : X.calm = true := by rfl) (hg : Gl X "set" := by rfl)
    (he : starEach (e :: []) X.env = (false, eval e X.env) :: starEach [] X.env := by rfl) (hpl : (backTo pos (starEach [] X.env)).any (·.1) = false := by rfl) : Eset X (.Call (.Name "set" p) [e] [] pos) ds (ks.map kD) := fun σ H Q hs k =>
  wE.of (pe_callTy (cr_setF hc) hg hm (by decide +kernel) (pa_cons wE.pe pa_nil he) (by decide) (by decide) he hpl) (h σ H _ hs fun v H1 e1 h1 => by
    have fin : ∀ a (ks' : List Key), H1 a = none → ks'.Nodup → (∀ k, k ∈ ks' ↔ k ∈ ks) → ks'.length < 64 → Q (.ref a) (upd H1 a (SetV X.w a (ks'.map kV))) := fun a ks' ha hn hmem hl => by
      refine k a _ (ks'.map kD) _ (e1.trans (Ex.new ha)) upd_same (dpAll_ofK ks') ?_ (fun d => ?_) (by rw [List.length_map]; exact hl)
      · exact List.pairwise_map.mpr (List.Pairwise.imp (fun hne h => hne (kD_inj h)) hn)
      · rw [List.mem_map, List.mem_map]
        exact ⟨fun ⟨k, h1, h2⟩ => ⟨k, (hmem k).mp h1, h2⟩, fun ⟨k, h1, h2⟩ => ⟨k, (hmem k).mpr h1, h2⟩⟩
    rcases hd with rfl | rfl
    · cases h1 with
      | lst a1 a2 =>
        rw [dpAll_kD a2] at a1
        exact ⟨_, ks, rfl, .inl a1, hf, fin⟩
    · cases h1 with
      | tup a1 a2 =>
        rw [dpAll_kD a2] at a1
        exact ⟨_, ks, rfl, .inr a1, hf, fin⟩)
theorem Eset.tups {d : PyData} {j : Nat} (hr : Room j X.A) (hm : X.mg "set" = none) (h : Ed X e ds d) (hd : d = .list xs ∨ d = .tuple xs) (hk : ∀ d ∈ xs, keyOk d = true ∧ d.depth ≤ 8 ∧ ∃ es, d = .tuple es) (hf : xs.length ≤ 4) (hc : X.calm = true := by rfl) (hg : Gl X "set" := by rfl)
    (he : starEach (e :: []) X.env = (false, eval e X.env) :: starEach [] X.env := by rfl) (hpl : (backTo pos (starEach [] X.env)).any (·.1) = false := by rfl) : Eset X (.Call (.Name "set" p) [e] [] pos) ds xs := fun σ H Q hs k =>
  wE.of (pe_callTy (cr_setT hc hr.units) hg hm (by decide +kernel) (pa_cons wE.pe pa_nil he) (by decide) (by decide) he hpl) (h σ H _ hs fun v H1 e1 h1 => by
    have fin : ∀ a L es, H1 a = none → DqAll H1 L es → es.Nodup → (∀ d, d ∈ es ↔ d ∈ xs) → Q (.ref a) (upd H1 a (SetV X.w a L)) := fun a L es ha hq hn hmem => by
      refine k a L es _ (e1.trans (Ex.new ha)) upd_same (dpAll_mono (Ex.new ha) _ _ hq) hn hmem ?_
      have hl : es.length ≤ xs.length := by
        have key : ∀ (l m : List PyData), l.Nodup → (∀ d ∈ l, d ∈ m) → l.length ≤ m.length := by
          intro l
          induction l with
          | nil => intro m _ _; exact Nat.zero_le _
          | cons y l ih =>
            intro m hn hs
            obtain ⟨u, v, rfl⟩ := List.append_of_mem (hs y List.mem_cons_self)
            obtain ⟨n1, n2⟩ := List.nodup_cons.mp hn
            have h2 := ih (u ++ v) n2 fun z hz => by
              rcases List.mem_append.mp (hs z (List.mem_cons_of_mem _ hz)) with q | q
              · exact List.mem_append_left _ q
              · rcases List.mem_cons.mp q with q | q
                · exact absurd (q ▸ hz) n1
                · exact List.mem_append_right _ q
            rw [List.length_append] at h2
            rw [List.length_append, List.length_cons, List.length_cons]
            omega
        exact key es xs hn fun d hd => (hmem d).mp hd
      rw [dpAll_len hq]
      omega
    rcases hd with rfl | rfl
    · cases h1 with
      | lst a1 a2 => exact ⟨_, _, xs, rfl, .inl a1, a2, hk, hf, fin⟩
    · cases h1 with
      | tup a1 a2 => exact ⟨_, _, xs, rfl, .inr a1, a2, hk, hf, fin⟩)
/-- len(set(..)): whatever the set holds, n tells its number -/
theorem Ed.lenSet {n : Nat} (hm : X.mg "len" = none) (h : Eset X e ds xs) (hn : ∀ es : List PyData, es.Nodup → (∀ d, d ∈ es ↔ d ∈ xs) → es.length = n) (hg : Gl X "len" := by rfl)
    (he : starEach (e :: []) X.env = (false, eval e X.env) :: starEach [] X.env := by rfl) (hpl : (backTo pos (starEach [] X.env)).any (·.1) = false := by rfl) : Ed X (.Call (.Name "len" p) [e] [] pos) ds (.int (n : Nat)) := fun σ H Q hs k =>
  wE.of (pe_callB cr_lenV hg hm (by decide +kernel) (pa_cons wE.pe pa_nil he) (by decide) (by decide) he hpl) (h σ H _ hs fun a L es H1 e1 ha hq hnd hmem hl => by
    refine ⟨a, L, rfl, ha, ?_⟩
    rw [dpAll_len hq, hn es hnd hmem]
    exact k _ H1 e1 (.int _))
end
end Pb

set_option Elab.async false
set_option linter.all false
set_option maxRecDepth 100000
set_option maxHeartbeats 4000000
namespace Pb
open PySem PySem.Spec PyProof.Rows L2 PySem.W PySem.SeqAt
open Evl (Ex)

section raw
variable {prog : Program} {w : World} {A : Around} {E : Value → Shared → Prop} {s : Shared}
/-- two tuples as one-typed sorting compares them -/
theorem oneLt_tups {xs ys : List PyData} {a b : Value} {as bs : List Addr} {Q : Bool → Shared → Prop} (ra : Reads s.heap a (.tuple xs) as) (rb : Reads s.heap b (.tuple ys) bs) (h : alikeAll xs ys = true) (hu : A.units + min (PyData.tuple xs).depth (PyData.tuple ys).depth < cLine)
    (hq : Q (dataLt (.tuple xs) (.tuple ys)) s) : wpAny (model prog w) A (oneLt' true a b) Q E s := by
  cases ra with
  | @tuple l o vs n _ as₁ h1 h2 h3 h4 =>
    cases rb with
    | @tuple l' o' vs' n' _ bs₁ k1 k2 k3 k4 =>
      have n1 : vs.size = xs.length := by simpa using ReadsAll.length _ _ _ h4
      have n2 : vs'.size = ys.length := by simpa using ReadsAll.length _ _ _ k4
      rw [dataLt_tuple, ← firstLt_toks xs ys h, ← n1, ← n2] at hq
      obtain ⟨c1, d1, da1, s1⟩ := o
      obtain ⟨c2, d2, da2, s2⟩ := o'
      simp only at h2 h3 k2 k3
      subst h2 h3 k2 k3
      rw [oneLt'_eq]
      simp only [if_true]
      refine wpAny_bind (wpAny_cRoomFor (room_here hu) ?_)
      refine wpAny_bind (wpAny_callSpecialIfBound?_slot (T := "tuple") ⟨_, h1, rfl⟩ F.slot_tuple_lt (call_meets F.slot_tuple_lt ⟨_, h1, rfl⟩ F.entry_tuple_lt (F.args_tuple_lt_2 _ _)
        (PySem.SeqAt.tuple_ltAt l l' vs vs' n n' d1 d2 s1 s2 (pairEq xs ys) (fun j => dataLt (xs.getD j .none) (ys.getD j .none))) ⟨h1, k1, fun j j1 j2 => ?_, fun j j1 j2 hj => ?_, wpAny_truthy_bool hq⟩))
      · have := eqAt_alikeAll xs ys A.in1 s vs.toList vs'.toList _ _ h4 k4 h (room_in hu) j (by simpa using j1) (by simpa using j2)
        simpa using this
      · have := rcLt_alikeAll xs ys A.in1 s vs.toList vs'.toList _ _ h4 k4 h (room_in hu) j (by simpa using j1) (by simpa using j2) hj
        simpa using this
theorem mapM_each {α β : Type} {f : α → Sem β} : ∀ {vs : List α} {rs : List β} {Q : List β → Shared → Prop}, EachIs (fun v r => ∀ (Q : β → Shared → Prop), Q r s → wpAny (model prog w) A (f v) Q E s) vs rs → Q rs s → wpAny (model prog w) A (vs.mapM f) Q E s
  | [], _, Q, .nil, h => by
    rw [List.mapM_nil]
    exact wpAny_pure h
  | v :: vs, r :: rs, Q, .cons h1 t, h => by
    rw [List.mapM_cons]
    refine wpAny_bind (h1 _ ?_)
    exact wpAny_bind (mapM_each (Q := fun bs s' => wpAny (model prog w) A (pure (r :: bs)) Q E s') t (wpAny_pure h))
theorem each_ex {α β : Type} {R : α → β → Prop} : ∀ {vs : List α}, (∀ v ∈ vs, ∃ r, R v r) → ∃ rs, EachIs R vs rs
  | [], _ => ⟨[], .nil⟩
  | v :: vs, h => by
    obtain ⟨r, hr⟩ := h v List.mem_cons_self
    obtain ⟨rs, hrs⟩ := each_ex fun u hu => h u (List.mem_cons_of_mem _ hu)
    exact ⟨r :: rs, .cons hr hrs⟩
theorem first_tup {a : Value} {xs : List PyData} {as : List Addr} (r : Reads s.heap a (.tuple xs) as) : ∃ o : Option Value, (xs = [] → o = none) ∧ ∀ (Q : Option Value → Shared → Prop), Q o s → wpAny (model prog w) A (firstOfTuple' a) Q E s := by
  cases r with
  | @tuple l o vs n _ as₁ h1 h2 h3 h4 =>
    refine ⟨vs[0]?, fun e => ?_, fun Q hq => ?_⟩
    · subst e
      have n1 : vs.size = 0 := by simpa using ReadsAll.length _ _ _ h4
      exact Array.getElem?_eq_none (by omega)
    · rw [kas_first_eq]
      refine wpAny_bind (Looks.here (show Looks (model prog w) s.heap (typeOf (.ref l)) o.cls from (Looks.ld h1).andThen .now) ?_)
      rw [h2, if_neg (by first | decide | simp)]
      exact wpAny_bind (listItems_at h1 h3 (wpAny_pure hq))
/-- tuples of which the first is empty are sorted as of one type -/
theorem kind_tup0 {v₁ v₂ : Value} {vs : List Value} {ds : List PyData} {Q : SortKind → Shared → Prop} (e : EachIs (fun v d => ∃ as, Reads s.heap v d as) (v₁ :: v₂ :: vs) (.tuple [] :: ds)) (ht : ∀ d ∈ ds, ∃ xs, d = .tuple xs) (hq : Q oneType' s) :
    wpAny (model prog w) A (keyKind' (v₁ :: v₂ :: vs).toArray) Q E s := by
  have all : ∀ v ∈ v₁ :: v₂ :: vs, ∃ xs as, Reads s.heap v (.tuple xs) as := fun v hv => by
    obtain ⟨d, hd, as, r⟩ := e.left v hv
    rcases List.mem_cons.mp hd with z | z
    · rw [z] at r
      exact ⟨_, _, r⟩
    · obtain ⟨xs, rfl⟩ := ht d z
      exact ⟨_, _, r⟩
  have ty : ∀ v ∈ v₁ :: v₂ :: vs, Looks (model prog w) s.heap (typeOf v) (.type "tuple") := fun v hv => by
    obtain ⟨xs, as, r⟩ := all v hv
    exact looks_reads r
  obtain ⟨o2, ho2⟩ : ∃ rs, EachIs (fun v r => ∀ (Q : Option Value → Shared → Prop), Q r s → wpAny (model prog w) A (firstOfTuple' v) Q E s) (v₂ :: vs) rs := each_ex fun v hv => by
    obtain ⟨xs, as, r⟩ := all v (List.mem_cons_of_mem _ hv)
    obtain ⟨o, _, h⟩ := first_tup (prog := prog) (w := w) (A := A) (E := E) r
    exact ⟨o, h⟩
  obtain ⟨o1, e1, h1⟩ : ∃ o : Option Value, o = none ∧ ∀ (Q : Option Value → Shared → Prop), Q o s → wpAny (model prog w) A (firstOfTuple' v₁) Q E s := by
    cases e with
    | cons r _ =>
      obtain ⟨as, r⟩ := r
      obtain ⟨o, h0, h⟩ := first_tup (prog := prog) (w := w) (A := A) (E := E) r
      exact ⟨o, h0 rfl, h⟩
  subst e1
  rw [keyKind'_eq, List.mapM_toArray, map_eq_pure_bind]
  refine wpAny_bind (wpAny_bind (mapM_each (.cons h1 ho2) (wpAny_pure ?_)))
  rw [if_neg (by simp), if_neg (by simp)]
  rw [oneTypeOnly'_eq, List.mapM_toArray, map_eq_pure_bind]
  refine wpAny_bind (wpAny_bind (wpAny_bind (kas_mapM (r := Value.type "tuple") _ (fun v hv Q' hq => (ty v hv).here hq) (wpAny_pure ?_))))
  have hall : ((List.map (fun _ => Value.type "tuple") (v₁ :: v₂ :: vs)).toArray.all fun x => x == Value.type "tuple") = true := by
    simp only [List.all_toArray, List.all_map, List.all_eq_true]
    intro _ _
    rfl
  have h0 : (List.map (fun _ => Value.type "tuple") (v₁ :: v₂ :: vs)).toArray[0]? = some (Value.type "tuple") := by simp
  rw [h0]
  simp only [hall, if_true]
  exact wpAny_pure (wpAny_pure hq)
/-- what can be sorted here -/
def SortOk (ds : List PyData) : Prop := Sortable ds ∨ ((∀ d ∈ ds, ∃ xs, d = .tuple xs) ∧ ∃ r, ds = .tuple [] :: r)
theorem sortsAt_any {vs : List Value} {ds : List PyData} (e : EachIs (fun v d => ∃ as, Reads s.heap v d as) vs ds) (hal : AllAlike ds) (hk : SortOk ds) (hu : ∀ d, d ∈ ds → A.units + d.depth < cLine) : SortsAt prog w A s (dataKind s.heap ds) vs := by
  rcases hk with hk | ⟨ht, r, rfl⟩
  · exact SortsAt.data e hal hk hu
  · refine ⟨fun v hv => ?_, oneType', fun E x y a b Q ha hb hq => ?_, fun h2 E Q hq => ?_⟩
    · obtain ⟨d, hd, as, rd⟩ := e.left v hv
      exact ⟨_, dataKind_some hal hd rd⟩
    · obtain ⟨d, as, hd, ra, rfl⟩ := dataKind_inv ha
      obtain ⟨d', as', hd', rb, rfl⟩ := dataKind_inv hb
      have hdd := hal d hd d' hd'
      have hroom : A.units + min d.depth d'.depth < cLine := Nat.lt_of_le_of_lt (Nat.add_le_add_left (Nat.min_le_left _ _) _) (hu d hd)
      obtain ⟨xs, rfl⟩ := ht d hd
      obtain ⟨ys, rfl⟩ := ht d' hd'
      rw [keyLt'_oneType]
      exact oneLt_tups ra rb (by simpa [alike] using hdd) hroom hq
    · match vs, h2, e with
      | v₁ :: v₂ :: vs, _, e => exact kind_tup0 e (fun d hd => ht d (List.mem_cons_of_mem _ hd)) hq
end raw

section
variable {X : Cx} {pins : List (Addr × Obj)} {σ : L2.St} {H : Hp} {s : Shared} {β : Type} {enc : β → PyData}
/-- a value stands for an item -/
def Stands (H : Hp) (enc : β → PyData) (u : Value) (b : β) : Prop := ∃ x : V, RelV x u ∧ Dq H x (enc b)
theorem stands_of : ∀ {bs : List β} {xs : List V} {us : List Value}, DqAll H xs (bs.map enc) → Vals xs us → EachIs (Stands H enc) us bs
  | [], _, _, h, r => by
    cases h
    cases r
    exact .nil
  | b :: bs, _, _, h, r => by
    cases h with
    | cons h1 h2 =>
      cases r with
      | cons r1 r2 => exact .cons ⟨_, r1, h1⟩ (stands_of h2 r2)
theorem of_stands : ∀ {bs : List β} {us : List Value}, EachIs (Stands H enc) us bs → ∃ xs : List V, Vals xs us ∧ DqAll H xs (bs.map enc)
  | [], _, .nil => ⟨[], .nil, .nil⟩
  | b :: bs, _, .cons ⟨x, h1, h2⟩ t => by
    obtain ⟨xs, h3, h4⟩ := of_stands t
    exact ⟨x :: xs, .cons h1 h3, .cons h2 h4⟩
mutual
theorem nc_alike : ∀ d : PyData, alike d d = true → nc d = true
  | .none, _ => by rw [nc]
  | .bool _, _ => by rw [nc]
  | .int _, _ => by rw [nc]
  | .str _, _ => by rw [nc]
  | .list xs, h => by
    rw [nc]
    exact ncs_alike xs (by simpa [alike] using h)
  | .tuple xs, h => by
    rw [nc]
    exact ncs_alike xs (by simpa [alike] using h)
  | .dict _, h => by simp [alike] at h
theorem ncs_alike : ∀ d : List PyData, alikeAll d d = true → ncs d = true
  | [], _ => by rw [ncs]
  | x :: xs, h => by
    rw [alikeAll, Bool.and_eq_true] at h
    rw [ncs, nc_alike x h.1, ncs_alike xs h.2]
    rfl
end
theorem stands_reads (I : Inv X pins σ H s) {us : List Value} {bs : List β} (hal : AllAlike (bs.map enc)) (e : EachIs (Stands H enc) us bs) : EachIs (fun v b => ∃ as, Reads s.heap v (enc b) as) us bs := (each_mem e).mono fun u b ⟨⟨x, h1, h2⟩, hb⟩ =>
  Dp.reads I (enc b) x u (h2.dp _ _ (nc_alike _ (hal _ (List.mem_map.mpr ⟨b, hb, rfl⟩) _ (List.mem_map.mpr ⟨b, hb, rfl⟩)))) h1
theorem each_enc {R : Value → PyData → Prop} : ∀ {us : List Value} {bs : List β}, EachIs (fun v b => R v (enc b)) us bs → EachIs R us (bs.map enc)
  | _, _, .nil => .nil
  | _, _, .cons h t => .cons h (each_enc t)
/-- sorted(xs) of a list -/
def rSortD (enc : β → PyData) : List V → Hp → VK → Prop := fun vs H Q => ∃ (l : Addr) (xs : List V) (bs : List β), vs = [V.ref l] ∧ H l = some (.lst xs) ∧ DqAll H xs (bs.map enc) ∧ AllAlike (bs.map enc) ∧ SortOk (bs.map enc) ∧ (∀ d ∈ bs.map enc, d.depth ≤ 60) ∧
  ∀ p L, H p = none → DqAll H L ((bs.mergeSort (dataLe false enc)).map enc) → Q (.ref p) (upd H p (.lst L))
theorem cr_sortD (hu : X.A.units + 64 < cLine) : CallR X (.builtin "sorted") (rSortD enc) := by
  intro pins s σ H xs0 us Q I r h
  obtain ⟨l, xs, bs, rfl, hl, hq, hal, hok, hdp, q⟩ := h
  rw [Vals.ref1 r]
  obtain ⟨its, rv, pl, hz⟩ := I.list (.of hl)
  have e := stands_of hq rv
  have er := stands_reads I hal e
  have hn : its.length = bs.length := by
    have e1 := rv.length
    rw [dpAll_len hq, List.length_map] at e1
    exact e1.symm
  have er' : EachIs (fun v b => ∃ as, Reads (sortingHeap (copyHeap s.heap its) (s.heap.objs.size + 1) its) v (enc b) as) its bs := er.mono fun _ _ ⟨as, r⟩ => ⟨as, PyProof.Rows.Reads.keeps (fun _ _ => sorting_copy_old) r⟩
  refine sorted_vals (κ := dataKind (sortingHeap (copyHeap s.heap its) (s.heap.objs.size + 1) its) (bs.map enc)) pl.isList (sortsAt_any (s := { s with heap := sortingHeap (copyHeap s.heap its) (s.heap.objs.size + 1) its }) (each_enc (R := fun v d => ∃ as, Reads (sortingHeap (copyHeap s.heap its) (s.heap.objs.size + 1) its) v d as) er') hal hok fun d hd => ?_) (by rw [← rv.length]; exact hz) ?_
  · have h1 := hdp d hd
    show X.A.units + 1 + 1 + d.depth < cLine
    omega
  · have eo := sortVals_data (R := Stands H enc) false e er' hal
    obtain ⟨L, r1, r2⟩ := of_stands eo
    obtain ⟨c, hc⟩ := sortedAll_at s.heap its (sortVals (dataKind (sortingHeap (copyHeap s.heap its) (s.heap.objs.size + 1) its) (bs.map enc)) false its its).toArray
    have hf : H (s.heap.objs.size + 1) = none := I.hok.fresh (Nat.le_succ _)
    have hz' : L.length ≤ sizeLine := by
      rw [dpAll_len r2, List.length_map, List.length_mergeSort, ← hn, ← rv.length]
      exact hz
    have I2 := I.laid (t' := s.toks) (o := HO.lst L) (fun b o e => sortedAll_old e) (Nat.le_succ _) ⟨hz', _, c, r1, hc⟩
    exact ⟨.ref (s.heap.objs.size + 1), _, I2, rfl, q _ L hf r2⟩
mutual
/-- no list is read in data without lists -/
theorem reads_noL {h : Heap} : ∀ (d : PyData) (v : Value) (as : List Addr), noL d = true → Reads h v d as → as = []
  | .none, v, as, _, r => by cases r; rfl
  | .bool b, v, as, _, r => by cases r; rfl
  | .int i, v, as, _, r => by cases r; rfl
  | .str x, v, as, _, r => by cases r; rfl
  | .list xs, v, as, n, r => by rw [noL] at n; cases n
  | .dict kvs, v, as, n, r => by rw [noL] at n; cases n
  | .tuple xs, v, as, n, r => by
    rw [noL] at n
    cases r with
    | tuple h1 h2 h3 h4 => exact reads_noLs xs _ _ n h4
theorem reads_noLs {h : Heap} : ∀ (ds : List PyData) (vs : List Value) (as : List Addr), noLs ds = true → ReadsAll h vs ds as → as = []
  | [], vs, as, _, r => by cases r; rfl
  | d :: ds, vs, as, n, r => by
    rw [noLs, Bool.and_eq_true] at n
    cases r with
    | cons r1 r2 =>
      rw [reads_noL d _ _ n.1 r1, reads_noLs ds _ _ n.2 r2]
      rfl
end
theorem each_perm {α γ : Type} {R : α → γ → Prop} {us vs : List α} (p : us.Perm vs) : ∀ {es : List γ}, EachIs R us es → ∃ es' : List γ, es.Perm es' ∧ EachIs R vs es' := by
  induction p with
  | nil => intro es h; cases h; exact ⟨[], .refl _, .nil⟩
  | cons x _ ih =>
    intro es h
    cases h with
    | cons h1 h2 =>
      obtain ⟨es', q, h3⟩ := ih h2
      exact ⟨_ :: es', q.cons _, .cons h1 h3⟩
  | swap x y l =>
    intro es h
    cases h with
    | cons h1 h2 =>
      cases h2 with
      | cons h3 h4 => exact ⟨_, .swap _ _ _, .cons h3 (.cons h1 h4)⟩
  | trans _ _ ih1 ih2 =>
    intro es h
    obtain ⟨e1, q1, h1⟩ := ih1 h
    obtain ⟨e2, q2, h2⟩ := ih2 h1
    exact ⟨e2, q1.trans q2, h2⟩
theorem eq_sorted {α : Type} {le : α → α → Bool} : ∀ (m n : List α), m.Perm n → m.Pairwise (fun a b => le a b = true) → n.Pairwise (fun a b => le a b = true) → (∀ a ∈ m, ∀ b ∈ m, le a b = true → le b a = true → a = b) → m = n
  | [], n, p, _, _, _ => (List.nil_perm.mp p).symm
  | a :: m, [], p, _, _, _ => absurd (p.length_eq) (by simp)
  | a :: m, b :: n, p, h1, h2, h => by
    have hab : a = b := by
      rcases List.mem_cons.mp (p.mem_iff.mp List.mem_cons_self) with z | z
      · exact z
      · rcases List.mem_cons.mp (p.mem_iff.mpr List.mem_cons_self) with y | y
        · exact y.symm
        · exact h a List.mem_cons_self b (List.mem_cons_of_mem _ y) (List.rel_of_pairwise_cons h1 y) (List.rel_of_pairwise_cons h2 z)
    subst hab
    rw [eq_sorted m n p.cons_inv h1.of_cons h2.of_cons fun x hx y hy => h x (List.mem_cons_of_mem _ hx) y (List.mem_cons_of_mem _ hy)]
theorem dataLe_total {γ : Type} (enc : γ → PyData) : TotalLe (dataLe false enc) := sortLe_total _ _ _
/-- sorted(a set) -/
def rSortV (w : World) : List V → Hp → VK → Prop := fun vs H Q => ∃ (a : Addr) (L : List V) (es : List PyData), vs = [V.ref a] ∧ H a = some (SetV w a L) ∧ DqAll H L es ∧ L.length < 64 ∧ AllAlike es ∧ Sortable es ∧ (∀ d ∈ es, d.depth ≤ 60 ∧ noL d = true) ∧
  ∀ p L' out, H p = none → out.Perm es → out.Pairwise (fun a b => dataLe false id a b = true) → DqAll H L' out → Q (.ref p) (upd H p (.lst L'))
theorem kinds_perm {es es' : List PyData} (p : es.Perm es') (h : Sortable es) : Sortable es' := by
  rcases h with h | h
  · exact .inl fun d hd => h d (p.mem_iff.mpr hd)
  · exact .inr fun d hd => h d (p.mem_iff.mpr hd)
theorem cr_sortV (hu : X.A.units + 64 < cLine) (hc : X.calm = true) : CallR X (.builtin "sorted") (rSortV X.w) := by
  intro pins s σ H xs0 us Q I r h
  obtain ⟨a, L, es, rfl, ha, hq, few, hal, hok, hdp, q⟩ := h
  rw [Vals.ref1 r]
  obtain ⟨its, rv, o, ees, ep, t, ho, hex, hd, pm, hf, hris, hld, _⟩ := setV_get I ha
  have hn : its.length = L.length := rv.length.symm
  have hsz : ees.size = its.length := by
    have e := pm.length_eq
    rw [List.length_map, Array.length_toList] at e
    exact e
  have eS : EachIs (Stands H (id : PyData → PyData)) its es := stands_of (enc := id) (by rw [List.map_id]; exact hq) rv
  refine Calls.call_function_entry kind_sorted plain_sorted entry_sorted (args_sorted1 _) ?_
  unfold Builtin.«sorted»
  refine wpAny_bind (m := checkCount "sorted" 1 1 _) (wpAny_pure ?_)
  refine wpAny_bind (collect_set (A := X.A.in1) (I.ok.hd hc) ⟨o, ho, hex.1, hd⟩ hf (by unfold scanBound; omega) hris hld fun s1 vs k1 hz g1 o1 pm1 => ?_)
  have pm2 : vs.Perm its := pm1.trans pm
  have hvl : vs.length < 64 := by rw [pm2.length_eq, hn]; exact few
  obtain ⟨es', pe, eV⟩ := each_perm pm2.symm eS
  have hal' : AllAlike (es'.map id) := by
    rw [List.map_id]
    exact fun d hd e he => hal d (pe.mem_iff.mpr hd) e (pe.mem_iff.mpr he)
  have er := stands_reads I hal' eV
  refine wpAny_bind (wpAny_newList ?_ (by rw [sizeLine_eq]; omega))
  have hoL : (s1.heap.push (seqObj "list" vs.toArray 0)).get? s1.heap.objs.size = some (seqObj "list" vs.toArray 0) := Heap.get?_push_size _ rfl
  have er' : EachIs (fun v b => ∃ as, Reads (s1.heap.push (seqObj "list" vs.toArray 0)) v (id b) as ∧ s1.heap.objs.size ∉ as) vs es' := (each_mem er).mono fun v b ⟨⟨as, rd⟩, hb⟩ => by
    have h0 : as = [] := reads_noL _ _ _ (hdp b (pe.mem_iff.mpr (by
      obtain ⟨_, hb2⟩ := id (And.intro True.intro hb)
      exact hb2))).2 rd
    subst h0
    exact ⟨[], PyProof.Rows.Reads.keeps (fun b u e => Heap.get?_push_of_some _ (k1 b u e)) rd, by simp⟩
  refine wpAny_bind (wpAny_holding (list_sort_data (s := { s1 with heap := s1.heap.push (seqObj "list" vs.toArray 0) }) hoL eV er' hal' (by rw [List.map_id]; exact kinds_perm pe hok) (by rw [← pe.length_eq, ← dpAll_len hq, sizeLine_eq]; omega) (fun b hb => ?_) fun out ol eo => ?_))
  · have := (hdp b (pe.mem_iff.mpr hb)).1
    show X.A.units + 1 + 1 + b.depth < cLine
    omega
  · obtain ⟨c, hc2⟩ := sortedHeap_at (vs := vs) (out := out.toArray) hoL
    obtain ⟨L2, r1, r2⟩ := of_stands eo
    rw [List.map_id] at r2
    have hf0 : H s1.heap.objs.size = none := I.hok.fresh hz
    have hlen : L2.length ≤ sizeLine := by
      rw [dpAll_len r2, List.length_mergeSort, ← pe.length_eq, ← dpAll_len hq, sizeLine_eq]
      omega
    have k : ∀ b u, s.heap.get? b = some u → (sortedHeap (s1.heap.push (seqObj "list" vs.toArray 0)) s1.heap.objs.size vs out.toArray).get? b = some u := fun b u e => by
      have q := k1 b u e
      have hlt := Heap.lt_size q
      rw [sortedHeap_old (Nat.ne_of_lt hlt) (by rw [size_push']; exact Nat.lt_succ_of_lt hlt)]
      exact Heap.get?_push_of_some _ q
    have J : Inv X pins σ (upd H s1.heap.objs.size (.lst L2)) { s with heap := sortedHeap (s1.heap.push (seqObj "list" vs.toArray 0)) s1.heap.objs.size vs out.toArray, gens := s1.gens, drawn := s1.drawn, toks := s1.toks } :=
      I.call (ch := []) (Un.laid k hz hf0) (I.hok.laid k hz ⟨hlen, _, c, r1, hc2⟩) (by rw [g1]; exact I.bare) (fun _ z => nomatch z)
    have e : { s1 with heap := sortedHeap (s1.heap.push (seqObj "list" vs.toArray 0)) s1.heap.objs.size vs out.toArray } = { s with heap := sortedHeap (s1.heap.push (seqObj "list" vs.toArray 0)) s1.heap.objs.size vs out.toArray, gens := s1.gens, drawn := s1.drawn, toks := s1.toks } := by
      cases s1
      cases s
      cases o1
      rfl
    refine wpAny_pure ⟨_, rfl, ?_⟩
    show ∃ _, _
    rw [e]
    exact ⟨.ref s1.heap.objs.size, _, J, rfl, q _ L2 _ hf0 ((List.mergeSort_perm _ _).trans pe.symm) (sort_pairwise (dataLe_total id) _) r2⟩
end
section
variable {X : Cx} {ds : DS} {e : Expr} {pos p : Pos} {xs : List PyData} {β : Type} {enc : β → PyData}
/-- sorted(a list) -/
theorem Ed.sortL {bs : List β} {j : Nat} (hr : Room j X.A) (hm : X.mg "sorted" = none) (h : Ed X e ds (.list (bs.map enc))) (hal : AllAlike (bs.map enc)) (hk : SortOk (bs.map enc)) (hd : ∀ d ∈ bs.map enc, d.depth ≤ 60) (hg : Gl X "sorted" := by rfl)
    (he : starEach (e :: []) X.env = (false, eval e X.env) :: starEach [] X.env := by rfl) (hpl : (backTo pos (starEach [] X.env)).any (·.1) = false := by rfl) : Ed X (.Call (.Name "sorted" p) [e] [] pos) ds (.list ((bs.mergeSort (dataLe false enc)).map enc)) := fun σ H Q hs k =>
  wE.of (pe_callB (cr_sortD (enc := enc) hr.units) hg hm (by decide +kernel) (pa_cons wE.pe pa_nil he) (by decide) (by decide) he hpl) (h σ H _ hs fun v H1 e1 h1 => by
    cases h1 with
    | lst a1 a2 => exact ⟨_, _, bs, rfl, a1, a2, hal, hk, hd, fun p L hp hq => k _ _ (e1.trans (Ex.new hp)) (.lst upd_same (dpAll_mono (Ex.new hp) _ _ hq))⟩)
/-- sorted(a set): whatever stands sorted and once is cs -/
theorem Ed.sortV {cs : List PyData} {j : Nat} (hr : Room j X.A) (hm : X.mg "sorted" = none) (h : Eset X e ds xs) (hcs : cs.Nodup) (hx : ∀ d, d ∈ xs ↔ d ∈ cs) (hp : cs.Pairwise (fun a b => dataLe false id a b = true)) (han : ∀ a ∈ cs, ∀ b ∈ cs, dataLe false id a b = true → dataLe false id b a = true → a = b)
    (hal : AllAlike cs) (hk : Sortable cs) (hd : ∀ d ∈ cs, d.depth ≤ 60 ∧ noL d = true) (hc : X.calm = true := by rfl) (hg : Gl X "sorted" := by rfl)
    (he : starEach (e :: []) X.env = (false, eval e X.env) :: starEach [] X.env := by rfl) (hpl : (backTo pos (starEach [] X.env)).any (·.1) = false := by rfl) : Ed X (.Call (.Name "sorted" p) [e] [] pos) ds (.list cs) := fun σ H Q hs k =>
  wE.of (pe_callB (cr_sortV hr.units hc) hg hm (by decide +kernel) (pa_cons wE.pe pa_nil he) (by decide) (by decide) he hpl) (h σ H _ hs fun a L es H1 e1 ha hq hnd hmem hl => by
    have pe : es.Perm cs := (List.perm_ext_iff_of_nodup hnd hcs).mpr fun d => (hmem d).trans (hx d)
    refine ⟨a, L, es, rfl, ha, hq, hl, fun d h1 e h2 => hal d (pe.mem_iff.mp h1) e (pe.mem_iff.mp h2), kinds_perm pe.symm hk, fun d h1 => hd d (pe.mem_iff.mp h1), fun p L' out hp0 po pw hq' => ?_⟩
    have ho : out = cs := eq_sorted out cs (po.trans pe) pw hp fun a ha b hb => han a ((po.trans pe).mem_iff.mp ha) b ((po.trans pe).mem_iff.mp hb)
    subst ho
    exact k _ _ (e1.trans (Ex.new hp0)) (.lst upd_same (dpAll_mono (Ex.new hp0) _ _ hq')))
end
end Pb

set_option Elab.async false
set_option linter.all false
set_option maxRecDepth 100000
set_option maxHeartbeats 4000000
namespace PySem
open Sem (wp)
/-- enumerate's new cells, whatever v's iterator is -/
theorem pb_enumNew {v : Value} {o : Obj} {H : Heap → Prop} (B : Begins v o H) :
    Meets (Builtin.«enumerate.__new__» ⟨[.type "enumerate", v], []⟩) (fun _ R s => H s.heap ∧
      R (.ok (.ret (.ref (s.heap.push o).objs.size))) { s with heap := (s.heap.push o).push { cls := .type "enumerate", data := .fields #[.none, .bool false, .ref s.heap.objs.size, rawInt 0, .none, .none] } }) :=
  .of_wp fun prog w A R s h => by
    obtain ⟨hp, g, d, tk, os⟩ := s; obtain ⟨h1, h⟩ := h
    have hsub := sub_enumerate
    have q1 : ∀ {A' : Around} {E : Value → Shared → Prop} {Q : Value → Shared → Prop}, Q (.ref hp.objs.size) ⟨hp.push o, g, d, tk, os⟩ → wpAny (model prog w) A' (pyIter v) Q E ⟨hp, g, d, tk, os⟩ :=
      fun q => B.iter prog w _ _ ⟨hp, g, d, tk, os⟩ _ h1 q
    wp_walk using q1
    refine wpAny_stack_any fun st => wpAny_pure ?_
    split
    · rename_i c _ _ _ _ _
      cases (c == Value.type "enumerate")
      · wp_walk using q1
        exact ⟨_, rfl, h⟩
      · wp_walk using q1
        exact ⟨_, rfl, h⟩
    · wp_walk using q1
      exact ⟨_, rfl, h⟩
theorem pb_enum {prog : Program} {w : World} {A : Around} {E : Value → Shared → Prop} {s : Shared} {v : Value} {o : Obj} {H : Heap → Prop} {Q : Value → Shared → Prop} (B : Begins v o H) (h1 : H s.heap)
    (h : ∀ h', IsEnum h' (s.heap.objs.size + 1) s.heap.objs.size 0 .none → h'.get? s.heap.objs.size = some o → h'.objs.size = s.heap.objs.size + 2 →
      (∀ b o, s.heap.get? b = some o → h'.get? b = some o) → Q (.ref (s.heap.objs.size + 1)) { s with heap := h' }) :
    wpAny (model prog w) A (call (.type "enumerate") [v]) Q E s := by
  refine callType_new F.called_enumerate (by decide) (F.typeCall_enumerate_1 _) (F.newCall_enumerate_1 _) (fun obj => F.args_object_init_2 obj _) F.entry_enumerate_new
    (pb_enumNew B) ⟨h1, ?_⟩
  have hz : (s.heap.push o).objs.size = s.heap.objs.size + 1 := Heap.size_push ..
  show _ ∧ _
  rw [hz]
  have he : IsEnum ((s.heap.push o).push { cls := .type "enumerate", data := .fields #[.none, .bool false, .ref s.heap.objs.size, rawInt 0, .none, .none] }) (s.heap.objs.size + 1) s.heap.objs.size 0 .none := by
    have := Heap.get?_push_size (s.heap.push o) (o := { cls := .type "enumerate", data := .fields #[.none, .bool false, .ref s.heap.objs.size, rawInt 0, .none, .none] }) rfl
    rw [hz] at this; exact this
  refine ⟨⟨_, he, rfl⟩, h _ he (Heap.get?_push_of_some _ (Heap.get?_push_size _ B.free)) (by rw [Heap.size_push, hz]) fun b o x => Heap.get?_push_of_some _ (Heap.get?_push_of_some _ x)⟩
end PySem

namespace Pb
open PySem PySem.Spec PyProof.Rows L2
open Evl (Ex)
/-- the tuple at a, each item in a new pair -/
def Iten (K : PySem.W.Frag) (a : Addr) : It :=
  ⟨fun i H => ∃ (xs : List V) (x : V), SqT K H a xs ∧ xs[i]? = some x, fun i H v H' => ∃ T x, v = .ref T ∧ H T = none ∧ H' = upd H T (.tup [.int (i : Nat), x]) ∧ ∀ xs, SqT K H a xs → xs[i]? = some x, fun i H => ∃ xs : List V, SqT K H a xs ∧ xs.length = i⟩
theorem turn_enumT {P : Program} {w : World} {K : PySem.W.Frag} {elts : List Expr} {kk : Nat} {tpos : Pos} (a e it : Addr) :
    Turn P w K (.Tuple elts kk tpos) (Iten K a) [e, it] e (fun i h => (∃ old, IsEnum h e it ((i : Nat) : Int) old) ∧ h.IsTupleIter it a i ∧ e ≠ it ∧ it < e ∧ a < it) where
  mem := by simp
  obj := fun i h st b hb => by
    obtain ⟨⟨old, he⟩, ⟨o, ho, hc, hd⟩, _⟩ := st
    have e' : b = e ∨ b = it := by simpa using hb
    rcases e' with z | z
    · rw [z]; exact ⟨_, he, fun v q => nomatch q⟩
    · rw [z]; exact ⟨o, ho, fun v q => by rw [hd] at q; cases q⟩
  keep := fun i h h' st k => let ⟨⟨old, he⟩, hi, hne⟩ := st; ⟨⟨old, k e (by simp) _ he⟩, hi.at fun o q => k it (by simp) o q, hne⟩
  item := by
    intro X hP hw hK hc i pins s σ H E I hf st hg
    subst hP hw hK
    obtain ⟨⟨old, he⟩, hit, hne, hl1, hl2⟩ := st
    obtain ⟨xs, x, hq, hx⟩ := hg
    obtain ⟨its, rv, p, hz⟩ := I.tuple hq
    obtain ⟨u, hu, ru⟩ := rv.get hx
    have hel : e < s.heap.objs.size := Heap.lt_size he
    have hil : it < s.heap.objs.size := by obtain ⟨_, q, _⟩ := hit; exact Heap.lt_size q
    have p' : s.heap.IsTuple a its.toArray := p
    have hlt : i < its.length := by
      have := List.getElem?_eq_some_iff.mp hu
      exact this.1
    have hh : X.A.in1.handled = none := I.ok.hd hc
    have hef : e ∉ [it, a] := by
      simp only [List.mem_cons, List.mem_nil_iff, or_false, not_or]
      exact ⟨hne, Nat.ne_of_gt (Nat.lt_trans hl2 hl1)⟩
    have D := Draws.tuple (prog := X.prog) (w := X.w) (A := X.A.in1) hh it a (Nat.ne_of_lt hl2) its.toArray
    refine wpAny_pyNext_enum_itemC D he ⟨hit, p'⟩ (by simpa using hlt) hne hef fun x' h' tk hP ho hst hT hsz hk => ?_
    have ex : x' = u := by
      have h1 : its[i]? = some x' := by simpa using hP
      exact Option.some.inj (h1.symm.trans hu)
    subst ex
    have hit' := hst.1
    refine ⟨_, rfl, wpAny_letOwnedTupleGo_enum (s := { s with heap := h', toks := tk + 1 }) ho fun h'' he' sb => ?_⟩
    have hT2 : h''.get? s.heap.objs.size = some { cls := .type "tuple", data := .seq #[.int i tk, x'] } := (sb.2 _ (Nat.ne_of_gt hel)).trans hT
    have new : ObjOk X.prog X.w (upd H s.heap.objs.size (.tup [.int (i : Nat), x])) h'' s.heap.objs.size (.tup [.int (i : Nat), x]) :=
      ⟨by show 2 ≤ sizeLine; decide, [.int i tk, x'], .cons ⟨_, rfl⟩ (.cons ru .nil), ⟨_, hT2, rfl, _, rfl⟩⟩
    have I1 : Inv X pins σ (upd H s.heap.objs.size (.tup [.int (i : Nat), x])) { s with heap := h'', toks := tk + 1 } :=
      I.turnedNew (ch := [e, it]) (fun b ob hb q => (sb.2 b (fun z => hb (by simp [z]))).trans (hk b ob (fun z => hb (by simp [z])) (fun z => hb (by simp [z])) q)) hf (Nat.le_refl _) new
    refine ⟨.ref s.heap.objs.size, _, I1, rfl, ⟨_, x, rfl, I.hok.fresh (Nat.le_refl _), rfl, fun ys hy => by rw [I.tuple_inj hy hq]; exact hx⟩, ⟨⟨x', ?_⟩, hit'.at fun o q => (sb.2 it (Ne.symm hne)).trans q, hne, hl1, hl2⟩, fun b hb => ?_⟩
    · have e1 : ((i + 1 : Nat) : Int) = (i : Int) + 1 := by omega
      rw [e1]; exact he'
    · have hb' : b < s.heap.objs.size := by
        have e' : b = e ∨ b = it := by simpa using hb
        rcases e' with z | z
        · rw [z]; exact hel
        · rw [z]; exact hil
      rw [upd_ne (Nat.ne_of_lt hb')]
      exact (hf b hb).1
  done := by
    intro X hP hw hK hc i pins s σ H E I hf st hg
    subst hP hw hK
    obtain ⟨⟨old, he⟩, hit, hne, hl1, hl2⟩ := st
    obtain ⟨xs, hq, hx⟩ := hg
    obtain ⟨its, rv, p, hz⟩ := I.tuple hq
    have p' : s.heap.IsTuple a its.toArray := p
    obtain ⟨f0, f1, f2, f3, f4, f5⟩ := hf it (by simp)
    have hl := rv.length
    have hh : X.A.in1.handled = none := I.ok.hd hc
    have ei : its.toArray.size = i := by
      rw [List.size_toArray]
      omega
    subst ei
    exact wpAny_pyNext_enum_endD (Draws.tuple (prog := X.prog) (w := X.w) (A := X.A.in1) hh it a (Nat.ne_of_lt hl2) its.toArray) he ⟨hit, p'⟩ fun h' eb => ⟨rfl, I.turned (t' := s.toks) (fun b o hb e => eb b o hb e) f0 f1 f3 f4 f5⟩
  self := fun A i s Q E st h => let ⟨⟨_, he⟩, _⟩ := st; wpAny_pyIter_enum he h
theorem pi_enumT {X : Cx} {e : Expr} {ta : TA} {p pos tpos : Pos} {elts : List Expr} {kk : Nat} (hg : Gl X "enumerate") (hm : X.mg "enumerate" = none) (ha : PA X [e] ta) (hs : starEach [e] X.env = [(false, eval e X.env)] := by rfl) :
    PI X (.Tuple elts kk tpos) (.Call (.Name "enumerate" p) [e] [] pos) (fun σ H R => ta σ H fun vs H1 => ∃ a xs, vs = [.ref a] ∧ SqT X.K H1 a xs ∧ R (Iten X.K a) H1) := by
  refine ⟨fun pins s σ H R I h => ?_⟩
  refine Call_ (ld_blt I hg hm boot_enumerate (PyProof.Rows.callWith_type1 (thn (ha.run pos pins s σ H _ I h) fun us s1 ⟨vs, H1, I1, r1, q1⟩ => ?_) hs rfl))
  obtain ⟨a, xs, ex, hq, q⟩ := q1
  subst ex
  cases r1 with
  | cons r rr =>
    cases rr
    cases r
    obtain ⟨its, rv, p', hz⟩ := I1.tuple hq
    have p2 : s1.heap.IsTuple a its.toArray := p'
    have hal : a < s1.heap.objs.size := by obtain ⟨o, ho, _⟩ := p2; exact Heap.lt_size ho
    refine pb_enum (begins_tuple a its.toArray) p2 fun h' he hit hsz hk => wpAny_pyIter_enum he ?_
    have I2 : Inv X pins σ H1 { s1 with heap := h' } := I1.kept (t' := s1.toks) hk
    refine ⟨s1.heap.objs.size + 1, [s1.heap.objs.size + 1, s1.heap.objs.size], _, _, H1, rfl, I2, turn_enumT a (s1.heap.objs.size + 1) s1.heap.objs.size, ⟨⟨.none, he⟩, ⟨_, hit, rfl, rfl⟩, Nat.succ_ne_self _, Nat.lt_succ_self _, hal⟩, fun b hb => ?_, q⟩
    have e' : b = s1.heap.objs.size + 1 ∨ b = s1.heap.objs.size := by simpa using hb
    have hle : s1.heap.objs.size ≤ b := by
      rcases e' with z | z
      · rw [z]; exact Nat.le_add_right _ _
      · rw [z]; exact Nat.le_refl _
    exact I1.fpOk hle (I1.hok.fresh hle)
/-- the items with their places -/
def numbered : Nat → List PyData → List PyData
  | _, [] => []
  | n, x :: xs => .tuple [.int (n : Nat), x] :: numbered (n + 1) xs
theorem numbered_get : ∀ (xs : List PyData) (n i : Nat), (numbered n xs)[i]? = (xs[i]?).map fun x => .tuple [.int ((n + i : Nat) : Int), x]
  | [], _, _ => by simp [numbered]
  | x :: xs, n, 0 => by simp [numbered]
  | x :: xs, n, i + 1 => by
    show (numbered (n + 1) xs)[i]? = (xs[i]?).map _
    rw [numbered_get xs (n + 1) i]
    have e : n + 1 + i = n + (i + 1) := by omega
    rw [e]
theorem numbered_len : ∀ (xs : List PyData) (n : Nat), (numbered n xs).length = xs.length
  | [], _ => rfl
  | x :: xs, n => by rw [numbered, List.length_cons, List.length_cons, numbered_len xs]
section
variable {X : Cx} {e : Expr} {ds : DS} {xs : List PyData} {pos p tpos : Pos} {elts : List Expr} {kk : Nat}
theorem Id.enumT (hm : X.mg "enumerate" = none) (h : Ed X e ds (.tuple xs)) (hg : Gl X "enumerate" := by rfl) (he : starEach (e :: []) X.env = (false, eval e X.env) :: starEach [] X.env := by rfl) (hs1 : starEach [e] X.env = [(false, eval e X.env)] := by rfl) :
    Id X (.Tuple elts kk tpos) (.Call (.Name "enumerate" p) [e] [] pos) ds (numbered 0 xs) := by
  refine ⟨_, pi_enumT hg hm (pa_cons wE.pe pa_nil he) hs1, fun σ H R hs k => h σ H _ hs fun v H1 e1 h1 => ?_⟩
  cases h1 with
  | tup g1 g2 =>
    refine ⟨_, _, rfl, .of g1, k _ H1 e1 ⟨fun i H2 e2 hi => ?_, fun H2 e2 => ?_, fun i H2 v H' e2 hy d hd => ?_⟩⟩
    · rw [numbered_len] at hi
      obtain ⟨v, hv, _⟩ := dpAll_get g2 (List.getElem?_eq_getElem hi)
      exact ⟨_, v, SqT.of (e2 _ _ g1), hv⟩
    · exact ⟨_, SqT.of (e2 _ _ g1), by rw [numbered_len, dpAll_len g2]⟩
    · obtain ⟨T, x, rfl, nT, rfl, hx⟩ := hy
      rw [numbered_get] at hd
      cases hxi : xs[i]? with
      | none => rw [hxi] at hd; cases hd
      | some y =>
        rw [hxi] at hd
        obtain ⟨v, hv, hq⟩ := dpAll_get g2 hxi
        have ev : x = v := Option.some.inj ((hx _ (SqT.of (e2 _ _ g1))).symm.trans hv)
        subst ev
        cases hd
        rw [Nat.zero_add]
        exact ⟨Ex.new nT, .tup upd_same (.cons (.int _) (.cons (dp_mono (e2.trans (Ex.new nT)) _ _ hq) .nil))⟩
/-- t[:i] -/
theorem Ed.cutT {b : Expr} {i : Nat} {p2 : Pos} (h : Ed X e ds (.tuple xs)) (hb : Ed X b ds (.int (i : Nat))) (hi : i < xs.length) : Ed X (.Subscript e (.Slice none (some b) none p2) pos) ds (.tuple (xs.take i)) := fun σ H Q hs k =>
  wE.of (pe_slice sl_tupA wE.pe po_none (po_some wE.pe)) (h σ H _ hs fun v H1 e1 h1 => by
    refine hb σ H1 _ (slots_mono e1 hs) fun u H2 e2 h2 => ?_
    cases h2
    cases h1 with
    | tup a1 a2 =>
      rename_i ad xs0
      have ln := dpAll_len a2
      refine ⟨_, rfl, _, _, rfl, .of (e2 _ _ a1), fun hw => ?_, fun hw p hp => k _ _ ((e1.trans e2).trans (Ex.new hp)) (.tup upd_same ?_)⟩
      · have e3 := hw.2
        rw [HT.sIx_nat] at e3
        omega
      · have e3 : cutV xs0 none (some ((i : Nat) : Int)) = xs0.take i := by
          unfold cutV
          rw [HT.sIx_none, HT.sIx_nat, List.drop_zero, Nat.sub_zero, Nat.min_eq_left (by omega)]
        rw [e3]
        exact dpAll_mono (e2.trans (Ex.new hp)) _ _ (dpAll_take i a2))
end
end Pb

set_option Elab.async false
set_option linter.all false
set_option maxRecDepth 100000
set_option maxHeartbeats 1000000
namespace Pb
open PySem PySem.Spec PyProof.Rows L2 PySem.W PySem.SeqAt
open Evl (Ex)
/-! ### the text -/
def topS (i : Nat) : Stmt := PySem.Challenge.pw_puttingback_k36_whole_closures_of_lots.main.body.getD i (.Pass ⟨0, 0, 0, 0⟩)
/-! ### the defs -/
abbrev s_is_whole : Stmt := topS 8
theorem sc_is_whole : FnScope ["value", "low", "high"] ["value", "low", "high"] (defScope s_is_whole) := ⟨rfl, rfl, rfl, by decide +kernel, rfl, by decide +kernel, by decide +kernel⟩
abbrev s_is_row_of : Stmt := topS 9
theorem sc_is_row_of : FnScope ["value", "low", "high"] ["value", "low", "high"] (defScope s_is_row_of) := ⟨rfl, rfl, rfl, by decide +kernel, rfl, by decide +kernel, by decide +kernel⟩
abbrev s_fits_word : Stmt := topS 10
theorem sc_fits_word : FnScope ["value", "letter"] ["value"] (defScope s_fits_word) := ⟨rfl, rfl, rfl, by decide +kernel, rfl, by decide +kernel, by decide +kernel⟩
abbrev s_are_unlike : Stmt := topS 11
theorem sc_are_unlike : FnScope ["items"] ["items"] (defScope s_are_unlike) := ⟨rfl, rfl, rfl, by decide +kernel, rfl, by decide +kernel, by decide +kernel⟩
abbrev s_fits_columns : Stmt := topS 17
theorem sc_fits_columns : FnScope ["value", "word"] ["value"] (defScope s_fits_columns) := ⟨rfl, rfl, rfl, by decide +kernel, rfl, by decide +kernel, by decide +kernel⟩
abbrev s_fits_lot : Stmt := topS 18
theorem sc_fits_lot : FnScope ["columns", "value", "word"] ["columns", "value"] (defScope s_fits_lot) := ⟨rfl, rfl, rfl, by decide +kernel, rfl, by decide +kernel, by decide +kernel⟩
abbrev s_fits_dependency : Stmt := topS 19
theorem sc_fits_dependency : FnScope ["columns", "value"] ["columns", "value"] (defScope s_fits_dependency) := ⟨rfl, rfl, rfl, by decide +kernel, rfl, by decide +kernel, by decide +kernel⟩
abbrev s_fits_frame : Stmt := topS 20
theorem sc_fits_frame : FnScope ["value", "item"] ["value"] (defScope s_fits_frame) := ⟨rfl, rfl, rfl, by decide +kernel, rfl, by decide +kernel, by decide +kernel⟩
abbrev s_fits_rows : Stmt := topS 21
theorem sc_fits_rows : FnScope ["columns", "value", "most", "row", "item"] ["columns", "value", "most"] (defScope s_fits_rows) := ⟨rfl, rfl, rfl, by decide +kernel, rfl, by decide +kernel, by decide +kernel⟩
abbrev s_cut_row : Stmt := topS 22
theorem sc_cut_row : FnScope ["columns", "lot", "row", "word", "item"] ["columns", "lot", "row"] (defScope s_cut_row) := ⟨rfl, rfl, rfl, by decide +kernel, rfl, by decide +kernel, by decide +kernel⟩
abbrev s_are_alike : Stmt := topS 23
theorem sc_are_alike : FnScope ["columns", "lot", "row", "other"] ["columns", "lot", "row", "other"] (defScope s_are_alike) := ⟨rfl, rfl, rfl, by decide +kernel, rfl, by decide +kernel, by decide +kernel⟩
abbrev s_keeps : Stmt := topS 24
theorem sc_keeps : FnScope ["columns", "dependencies", "rows", "at", "row", "other", "lot", "column"] ["columns", "dependencies", "rows"] (defScope s_keeps) := ⟨rfl, rfl, rfl, by decide +kernel, rfl, by decide +kernel, by decide +kernel⟩
abbrev s_fits_sheet : Stmt := topS 25
theorem sc_fits_sheet : FnScope ["frame", "value", "most"] ["frame", "value", "most"] (defScope s_fits_sheet) := ⟨rfl, rfl, rfl, by decide +kernel, rfl, by decide +kernel, by decide +kernel⟩
abbrev s_closure_in : Stmt := topS 26
theorem sc_closure_in : FnScope ["dependencies", "lot", "found", "before", "some", "ahead", "column", "word"] ["dependencies", "lot"] (defScope s_closure_in) := ⟨rfl, rfl, rfl, by decide +kernel, rfl, by decide +kernel, by decide +kernel⟩
abbrev s_lots_in : Stmt := topS 27
theorem sc_lots_in : FnScope ["columns", "found", "word", "lot"] ["columns"] (defScope s_lots_in) := ⟨rfl, rfl, rfl, by decide +kernel, rfl, by decide +kernel, by decide +kernel⟩
abbrev s_telling_in : Stmt := topS 28
theorem sc_telling_in : FnScope ["dependencies", "lot", "column", "known", "found", "some", "at", "item", "word"] ["dependencies", "lot", "column"] (defScope s_telling_in) := ⟨rfl, rfl, rfl, by decide +kernel, rfl, by decide +kernel, by decide +kernel⟩
abbrev s_two_rows : Stmt := topS 29
theorem sc_two_rows : FnScope ["columns", "lot", "word"] ["columns", "lot"] (defScope s_two_rows) := ⟨rfl, rfl, rfl, by decide +kernel, rfl, by decide +kernel, by decide +kernel⟩
abbrev s_need_frame : Stmt := topS 30
theorem sc_need_frame : FnScope ["value"] ["value"] (defScope s_need_frame) := ⟨rfl, rfl, rfl, by decide +kernel, rfl, by decide +kernel, by decide +kernel⟩
abbrev s_need_lot : Stmt := topS 31
theorem sc_need_lot : FnScope ["frame", "value"] ["frame", "value"] (defScope s_need_lot) := ⟨rfl, rfl, rfl, by decide +kernel, rfl, by decide +kernel, by decide +kernel⟩
abbrev s_need_column : Stmt := topS 32
theorem sc_need_column : FnScope ["frame", "value"] ["frame", "value"] (defScope s_need_column) := ⟨rfl, rfl, rfl, by decide +kernel, rfl, by decide +kernel, by decide +kernel⟩
abbrev s_is_frame : Stmt := topS 33
theorem sc_is_frame : FnScope ["value"] ["value"] (defScope s_is_frame) := ⟨rfl, rfl, rfl, by decide +kernel, rfl, by decide +kernel, by decide +kernel⟩
abbrev s_is_sheet : Stmt := topS 34
theorem sc_is_sheet : FnScope ["frame", "value"] ["frame", "value"] (defScope s_is_sheet) := ⟨rfl, rfl, rfl, by decide +kernel, rfl, by decide +kernel, by decide +kernel⟩
abbrev s_closure_of : Stmt := topS 35
theorem sc_closure_of : FnScope ["frame", "lot"] ["frame", "lot"] (defScope s_closure_of) := ⟨rfl, rfl, rfl, by decide +kernel, rfl, by decide +kernel, by decide +kernel⟩
abbrev s_closed_lots : Stmt := topS 36
theorem sc_closed_lots : FnScope ["frame", "lot"] ["frame"] (defScope s_closed_lots) := ⟨rfl, rfl, rfl, by decide +kernel, rfl, by decide +kernel, by decide +kernel⟩
abbrev s_telling_row : Stmt := topS 37
theorem sc_telling_row : FnScope ["frame", "lot", "column"] ["frame", "lot", "column"] (defScope s_telling_row) := ⟨rfl, rfl, rfl, by decide +kernel, rfl, by decide +kernel, by decide +kernel⟩
abbrev s_untold_sheet : Stmt := topS 38
theorem sc_untold_sheet : FnScope ["frame", "lot", "column", "closure"] ["frame", "lot", "column"] (defScope s_untold_sheet) := ⟨rfl, rfl, rfl, by decide +kernel, rfl, by decide +kernel, by decide +kernel⟩
abbrev s_law_cup : Stmt := topS 40
theorem sc_law_cup : FnScope ["_law_script", "_law_cell"] ["_law_script"] (defScope s_law_cup) := ⟨rfl, rfl, rfl, by decide +kernel, rfl, by decide +kernel, by decide +kernel⟩
abbrev s_law_roll : Stmt := topS 41
theorem sc_law_roll : FnScope ["_law_cup_here", "_law_many", "_law_deep", "_law_found"] ["_law_cup_here", "_law_many"] (defScope s_law_roll) := ⟨rfl, rfl, rfl, by decide +kernel, rfl, by decide +kernel, by decide +kernel⟩
abbrev s_law_some : Stmt := topS 42
theorem sc_law_some : FnScope ["_law_cup_here", "_law_things"] ["_law_cup_here", "_law_things"] (defScope s_law_some) := ⟨rfl, rfl, rfl, by decide +kernel, rfl, by decide +kernel, by decide +kernel⟩
abbrev s_law_lots : Stmt := topS 43
theorem sc_law_lots : FnScope ["_law_columns", "_law_found", "_law_word", "_law_lot"] ["_law_columns"] (defScope s_law_lots) := ⟨rfl, rfl, rfl, by decide +kernel, rfl, by decide +kernel, by decide +kernel⟩
abbrev s_law_has : Stmt := topS 44
theorem sc_law_has : FnScope ["_law_lot", "_law_other", "_law_word"] ["_law_lot", "_law_other"] (defScope s_law_has) := ⟨rfl, rfl, rfl, by decide +kernel, rfl, by decide +kernel, by decide +kernel⟩
abbrev s_law_is_closed : Stmt := topS 45
theorem sc_law_is_closed : FnScope ["_law_dependencies", "_law_lot", "_law_ahead", "_law_column"] ["_law_dependencies", "_law_lot"] (defScope s_law_is_closed) := ⟨rfl, rfl, rfl, by decide +kernel, rfl, by decide +kernel, by decide +kernel⟩
abbrev s_law_closure : Stmt := topS 46
theorem sc_law_closure : FnScope ["_law_columns", "_law_dependencies", "_law_lot", "_law_some_here", "_law_one"] ["_law_columns", "_law_dependencies", "_law_lot"] (defScope s_law_closure) := ⟨rfl, rfl, rfl, by decide +kernel, rfl, by decide +kernel, by decide +kernel⟩
abbrev s_law_same : Stmt := topS 47
theorem sc_law_same : FnScope ["_law_columns", "_law_lot", "_law_row", "_law_other", "_law_at", "_law_word"] ["_law_columns", "_law_lot", "_law_row", "_law_other"] (defScope s_law_same) := ⟨rfl, rfl, rfl, by decide +kernel, rfl, by decide +kernel, by decide +kernel⟩
abbrev s_law_keeps : Stmt := topS 48
theorem sc_law_keeps : FnScope ["_law_columns", "_law_dependencies", "_law_rows", "_law_row", "_law_other", "_law_lot", "_law_column"] ["_law_columns", "_law_dependencies", "_law_rows"] (defScope s_law_keeps) := ⟨rfl, rfl, rfl, by decide +kernel, rfl, by decide +kernel, by decide +kernel⟩
abbrev s_law_is_rows : Stmt := topS 49
theorem sc_law_is_rows : FnScope ["_law_columns", "_law_v", "_law_most", "_law_row", "_law_x"] ["_law_columns", "_law_v", "_law_most"] (defScope s_law_is_rows) := ⟨rfl, rfl, rfl, by decide +kernel, rfl, by decide +kernel, by decide +kernel⟩
abbrev s_law_is_sheet : Stmt := topS 50
theorem sc_law_is_sheet : FnScope ["_law_frame_here", "_law_v", "_law_most"] ["_law_frame_here", "_law_v", "_law_most"] (defScope s_law_is_sheet) := ⟨rfl, rfl, rfl, by decide +kernel, rfl, by decide +kernel, by decide +kernel⟩
abbrev s_law_frame : Stmt := topS 51
theorem sc_law_frame : FnScope ["_law_cup_here", "_law_most", "_law_columns", "_law_found", "_law_turn", "_law_column", "_law_lot", "_law_word"] ["_law_cup_here", "_law_most"] (defScope s_law_frame) := ⟨rfl, rfl, rfl, by decide +kernel, rfl, by decide +kernel, by decide +kernel⟩
abbrev s_law_tells : Stmt := topS 52
theorem sc_law_tells : FnScope ["_law_dependencies", "_law_lot", "_law_column", "_law_row", "_law_known", "_law_at"] ["_law_dependencies", "_law_lot", "_law_column", "_law_row"] (defScope s_law_tells) := ⟨rfl, rfl, rfl, by decide +kernel, rfl, by decide +kernel, by decide +kernel⟩
abbrev s_law_right : Stmt := topS 53
theorem sc_law_right : FnScope ["_law_frame_here", "_law_lot", "_law_column", "_law_closure_here", "_law_columns", "_law_dependencies", "_law_row", "_law_sheet"] ["_law_frame_here", "_law_lot", "_law_column"] (defScope s_law_right) := ⟨rfl, rfl, rfl, by decide +kernel, rfl, by decide +kernel, by decide +kernel⟩
abbrev s_law : Stmt := topS 54
theorem sc_law : FnScope ["_law_script", "_law_cup_here", "_law_turn", "_law_f", "_law_g", "_law_rows", "_law_frame_here", "_law_lot", "_law_column", "_law_again"] ["_law_script"] (defScope s_law) := ⟨rfl, rfl, rfl, by decide +kernel, rfl, by decide +kernel, by decide +kernel⟩
/-- a def of the text as the top has bound it -/
def Df (K : PySem.W.Frag) (mg : Str → Option Value) (x : Str) (st : Stmt) (ps : List Str) : Prop := ∃ (f : Addr) (fd : FuncData), Fun K x x st f fd ∧ mg x = some (.ref f) ∧ Binds K fd ps []
/-- built-ins that the top doesn't bind -/
structure Bi (mg : Str → Option Value) : Prop where
  len : mg "len" = none
  isi : mg "isinstance" = none
  str : mg "str" = none
  int : mg "int" = none
  bool : mg "bool" = none
  tuple : mg "tuple" = none
  list : mg "list" = none
  set : mg "set" = none
  sorted : mg "sorted" = none
  all : mg "all" = none
  zip : mg "zip" = none
  enum : mg "enumerate" = none
  range : mg "range" = none
  abs : mg "abs" = none
theorem callee_df {P : Program} {w : World} {K : PySem.W.Frag} {mg : Str → Option Value} {base : Heap} {x : Str} {st : Stmt} {N ps : List Str} {k : Nat} {R : List PyData → PyData → Prop} (D : Df K mg x st ps) (S : FnScope N ps (defScope st))
    (hl : ∀ as d, R as d → as.length = ps.length)
    (body : ∀ (cdv : Value) (f : Addr) (A : Around) (outer : List Env) (s : Shared) (H : Hp) (E : XK), Room k (A.deeper (envOfC x (defScope st) s.heap.objs.size f cdv)) → ∀ as d, R as d →
      Sd (cxOf CX0 P w K mg base N x (defScope st) f cdv A outer s H E).nox (defBody st) (startD N.length as) { rt := fun d' => d' = d, nx := fun _ => d = .none }) : Callee P w K mg base x (k + 1) R := by
  obtain ⟨f, fd, F, hm, hb⟩ := D
  exact callee_mk F hm hb S hl fun cdv A outer s H E hr => body cdv f A outer s H E hr
/-! ### words and lots -/
def alpha : List Str := ["a", "b", "c", "d", "e", "f", "x"]
theorem alpha_nd : alpha.Nodup := by decide +kernel
theorem alpha_ok : Wds alpha := by
  unfold Wds
  decide +kernel
theorem alpha_pw : alpha.Pairwise (fun a b => dataLt (.str a) (.str b) = true ∧ dataLt (.str b) (.str a) = false) := by
  decide +kernel
def srt (l : List Str) : List Str := alpha.filter fun a => decide (a ∈ l)
def IsLot (l : Lot) : Prop := srt l = l
end Pb

set_option Elab.async false
set_option linter.all false
set_option maxRecDepth 100000
set_option maxHeartbeats 1000000
namespace Pb
open PySem PySem.Spec PyProof.Rows L2 PySem.W PySem.SeqAt
open Evl (Ex)
section
variable {X : Cx} {ds : DS} {d : PyData} {pos : Pos}
theorem vr (i : Nat) {x : Str} (h : ds[i]? = some (some d)) (hN : X.N[i]? = some x := by rfl) (hv : Vis X.env.scope x := by first | exact Or.inl rfl | exact Or.inr (Or.inl rfl) | exact Or.inr (Or.inr rfl)) (hd : (x == ("__debug__" : Str)) = false := by decide)
    (hcd : (x == ("__classdict__" : Str)) = false := by decide) : Ed X (.Name x pos) ds d := Ed.var h hN hv hd hcd
end
section
variable {P : Program} {w : World} {K : PySem.W.Frag} {mg : Str → Option Value} {base : Heap} {k : Nat}
theorem filter_tt {α : Type} (l : List α) : l.filter (fun _ => true) = l := by simp
/-- is_row_of -/
def R_isRow : List PyData → PyData → Prop := fun as d => ∃ (xs : List PyData) (lo hi : Int), as = [.tuple xs, .int lo, .int hi] ∧ lo ≤ xs.length ∧ (xs.length : Int) ≤ hi ∧ d = .bool true
theorem c_isRow (D : Df K mg "is_row_of" s_is_row_of ["value", "low", "high"]) (B : Bi mg) : Callee P w K mg base "is_row_of" (k + 1) R_isRow := callee_df D sc_is_row_of (fun as d h => by obtain ⟨_, _, _, rfl, _⟩ := h; rfl) fun cdv f A outer s H E hr as d h => by
  obtain ⟨xs, lo, hi, rfl, h1, h2, rfl⟩ := h
  refine Sd.ret (d := .bool (true && (true && true))) (Ed.and (Ed.isi (n := "tuple") B.isi B.tuple (vr 0 rfl) rfl) fun _ => .and1 (Ed.chain op_le op_le (vr 1 rfl) (.callB call_len_seq B.len (.cons (vr 0 rfl) .nil) (rc_len (.inr rfl))) (vr 2 rfl) ?_ fun _ => ?_)) rfl
  · have := rd_B0 (g := fun i j => decide (i ≤ j)) (i := lo) (j := xs.length)
    rw [decide_eq_true h1] at this
    exact this
  · have := rd_B0 (g := fun i j => decide (i ≤ j)) (i := xs.length) (j := hi)
    rw [decide_eq_true h2] at this
    exact this
/-- is_whole -/
def R_isWhole : List PyData → PyData → Prop := fun as d => ∃ (x lo hi : Int), as = [.int x, .int lo, .int hi] ∧ lo ≤ x ∧ x ≤ hi ∧ d = .bool true
theorem c_isWhole (D : Df K mg "is_whole" s_is_whole ["value", "low", "high"]) (B : Bi mg) : Callee P w K mg base "is_whole" (k + 1) R_isWhole := callee_df D sc_is_whole (fun as d h => by obtain ⟨_, _, _, rfl, _⟩ := h; rfl) fun cdv f A outer s H E hr as d h => by
  obtain ⟨x, lo, hi, rfl, h1, h2, rfl⟩ := h
  refine Sd.ret (d := .bool (true && (!false && (true && true)))) (Ed.and (Ed.isi (n := "int") B.isi B.int (vr 0 rfl) rfl) fun _ => Ed.and (Ed.not (Ed.isi (n := "bool") B.isi B.bool (vr 0 rfl) rfl)) fun _ => .and1 (Ed.chain op_le op_le (vr 1 rfl) (vr 0 rfl) (vr 2 rfl) ?_ fun _ => ?_)) rfl
  · have := rd_B0 (g := fun i j => decide (i ≤ j)) (i := lo) (j := x)
    rw [decide_eq_true h1] at this
    exact this
  · have := rd_B0 (g := fun i j => decide (i ≤ j)) (i := x) (j := hi)
    rw [decide_eq_true h2] at this
    exact this
/-- fits_word -/
def R_word : List PyData → PyData → Prop := fun as d => ∃ x, as = [.str x] ∧ x ∈ alpha ∧ d = .bool true
theorem alpha_fit : ∀ x ∈ alpha, x.length = 1 ∧ ∀ c ∈ x.cps.toList, c ∈ ("abcdefghijklmnopqrstuvwxyz" : Str).cps.toList := by decide +kernel
theorem c_word {t1 t2 : Tok} (D : Df K mg "fits_word" s_fits_word ["value"]) (B : Bi mg) (g1 : mg "LETTERS" = some (.str "abcdefghijklmnopqrstuvwxyz" t1)) (g2 : mg "WORD" = some (.int 8 t2)) : Callee P w K mg base "fits_word" (k + 1) R_word := callee_df D sc_fits_word (fun as d h => by obtain ⟨_, rfl, _⟩ := h; rfl) fun cdv f A outer s H E hr as d h => by
  obtain ⟨x, rfl, hx, rfl⟩ := h
  obtain ⟨h1, h2⟩ := alpha_fit x hx
  refine Sd.ret (d := .bool (true && ((true && true) && true))) (Ed.and (Ed.isi (n := "str") B.isi B.str (vr 0 rfl) rfl) fun _ => Ed.and (Ed.chain op_le op_le .int (.callB call_len_str B.len (.cons (vr 0 rfl) .nil) (rc_lenS (by omega))) (.globI g2) ?_ fun _ => ?_) fun _ => .and1 ?_) rfl
  · have := rd_B0 (g := fun i j => decide (i ≤ j)) (i := 1) (j := x.length)
    rw [decide_eq_true (by omega)] at this
    exact this
  · have := rd_B0 (g := fun i j => decide (i ≤ j)) (i := x.length) (j := 8)
    rw [decide_eq_true (by omega)] at this
    exact this
  · refine Ed.is (.callB (cr_all rfl) B.all (.cons (Ed.is (Ed.lc (ts := x.cps.toList) (enc := fun c => .str ⟨#[c]⟩) (y := fun c => .bool (decide (c ∈ ("abcdefghijklmnopqrstuvwxyz" : Str).cps.toList))) (b := fun _ => true) (own := [("letter", 1)]) ⟨blkOk_by (N := ["value", "letter"]) (sc := defScope s_fits_word) (by decide +kernel), ⟨[1], fun c => _, by simp, fun s H C cl fp c hc => ⟨.name sc_fits_word.nd, .nil, fun _ => .cmp op_in_sign (vr 1 rfl) (.globS g1) rd_sign⟩⟩, fun c _ _ => noL_bool _, ?_⟩ (.text (vr 0 rfl)) sc_fits_word.nd) ?_) .nil) (rc_all (bs := x.cps.toList.map fun c => decide (c ∈ ("abcdefghijklmnopqrstuvwxyz" : Str).cps.toList)))) ?_
    · have : x.cps.size = 1 := h1
      rw [Array.length_toList]
      omega
    · rw [filter_tt, dBs, List.map_map]
      rfl
    · rw [List.all_eq_true.mpr]
      intro b hb
      obtain ⟨c, hc, rfl⟩ := List.mem_map.mp hb
      exact decide_eq_true (h2 c hc)
/-- are_unlike -/
def R_unlike : List PyData → PyData → Prop := fun as d => ∃ xs : List PyData, as = [.tuple xs] ∧ xs.Nodup ∧ xs.length ≤ 4 ∧ (∀ d ∈ xs, keyOk d = true ∧ d.depth ≤ 8 ∧ ∃ es, d = .tuple es) ∧ d = .bool true
theorem perm_len {es xs : List PyData} (h1 : es.Nodup) (h2 : xs.Nodup) (h : ∀ d, d ∈ es ↔ d ∈ xs) : es.length = xs.length := ((List.perm_ext_iff_of_nodup h1 h2).mpr h).length_eq
theorem c_unlike (D : Df K mg "are_unlike" s_are_unlike ["items"]) (B : Bi mg) : Callee P w K mg base "are_unlike" (k + 1) R_unlike := callee_df D sc_are_unlike (fun as d h => by obtain ⟨_, rfl, _⟩ := h; rfl) fun cdv f A outer s H E hr as d h => by
  obtain ⟨xs, rfl, h1, h2, h3, rfl⟩ := h
  refine Sd.ret (d := .bool (decide ((xs.length : Int) = xs.length))) (.cmp op_eq (.lenSet (n := xs.length) B.len (.tups hr B.set (vr 0 rfl) (.inr rfl) h3 h2) fun es e1 e2 => perm_len e1 h1 e2) (.callB call_len_seq B.len (.cons (vr 0 rfl) .nil) (rc_len (.inr rfl))) rd_eqI) ?_
  rw [decide_eq_true rfl]
/-! ### words sorted -/
theorem mem_srt {l : List Str} {x : Str} : x ∈ srt l ↔ x ∈ alpha ∧ x ∈ l := by
  unfold srt
  rw [List.mem_filter, decide_eq_true_eq]
theorem srt_nd (l : List Str) : (srt l).Nodup := List.Pairwise.filter _ alpha_nd
theorem srt_srt (l : List Str) : IsLot (srt l) := by
  unfold IsLot
  show alpha.filter _ = alpha.filter _
  refine List.filter_congr fun a ha => decide_eq_decide.mpr ?_
  rw [mem_srt]
  exact ⟨fun h => h.2, fun h => ⟨ha, h⟩⟩
theorem srt_pw (l : List Str) : ((srt l).map PyData.str).Pairwise (fun a b => dataLe false id a b = true) := by
  refine List.pairwise_map.mpr ?_
  unfold srt
  have h0 := List.Pairwise.filter (fun a => decide (a ∈ l)) alpha_pw
  exact h0.imp fun h => congrArg Bool.not h.2
theorem alpha_anti : ∀ a ∈ alpha, ∀ b ∈ alpha, dataLe false id (PyData.str a) (PyData.str b) = true → dataLe false id (PyData.str b) (PyData.str a) = true → a = b := by decide +kernel
theorem IsLot.al {l : Lot} (h : IsLot l) : ∀ x ∈ l, x ∈ alpha := fun x hx => by
  have : x ∈ srt l := by rw [h]; exact hx
  exact (mem_srt.mp this).1
theorem IsLot.nd {l : Lot} (h : IsLot l) : l.Nodup := by
  have := srt_nd l
  rw [h] at this
  exact this
theorem IsLot.wds {l : Lot} (h : IsLot l) : Wds l := fun x hx => alpha_ok x (h.al x hx)
theorem wds_al {l : List Str} (h : ∀ x ∈ l, x ∈ alpha) : Wds l := fun x hx => alpha_ok x (h x hx)
theorem srt_len (l : List Str) : (srt l).length ≤ 7 := List.length_filter_le _ _
theorem IsLot.len {l : Lot} (h : IsLot l) : l.length ≤ 7 := by
  have := srt_len l
  rw [h] at this
  exact this
theorem IsLot.ext {l m : Lot} (h : IsLot l) (g : IsLot m) (e : ∀ x, x ∈ l ↔ x ∈ m) : l = m := by
  rw [← h, ← g]
  exact List.filter_congr fun a _ => decide_eq_decide.mpr (e a)
end
section
variable {X : Cx} {ds : DS} {e : Expr} {d : PyData} {l : List Str} {pos p p2 : Pos} {j : Nat}
theorem Eset.words (B : Bi X.mg) (h : Ed X e ds d) (hd : d = dL l ∨ d = dS l) (hf : l.length < 63) (hc : X.calm = true := by rfl) (hg : Gl X "set" := by rfl)
    (he : starEach (e :: []) X.env = (false, eval e X.env) :: starEach [] X.env := by rfl) (hpl : (backTo pos (starEach [] X.env)).any (·.1) = false := by rfl) : Eset X (.Call (.Name "set" p) [e] [] pos) ds (l.map .str) := by
  have e1 : l.map PyData.str = (l.map Sum.inr : List Key).map kD := by rw [List.map_map]; rfl
  rw [e1]
  refine Eset.flat B.set h ?_ (by rw [List.length_map]; exact hf) hc hg he hpl
  rw [← e1]
  exact hd
theorem Ed.sortW (hr : Room j X.A) (B : Bi X.mg) (h : Eset X e ds (l.map .str)) (ha : ∀ x ∈ l, x ∈ alpha) (hc : X.calm = true := by rfl) (hg : Gl X "sorted" := by rfl)
    (he : starEach (e :: []) X.env = (false, eval e X.env) :: starEach [] X.env := by rfl) (hpl : (backTo pos (starEach [] X.env)).any (·.1) = false := by rfl) : Ed X (.Call (.Name "sorted" p) [e] [] pos) ds (dL (srt l)) :=
  Ed.sortV hr B.sorted h (List.pairwise_map.mpr ((srt_nd l).imp fun hne e => hne (by injection e))) (fun d => by
    rw [List.mem_map, List.mem_map]
    exact ⟨fun ⟨x, h1, h2⟩ => ⟨x, mem_srt.mpr ⟨ha x h1, h1⟩, h2⟩, fun ⟨x, h1, h2⟩ => ⟨x, (mem_srt.mp h1).2, h2⟩⟩) (srt_pw l) (fun a ha' b hb' q1 q2 => by
    obtain ⟨x, hx, rfl⟩ := List.mem_map.mp ha'
    obtain ⟨y, hy, rfl⟩ := List.mem_map.mp hb'
    rw [alpha_anti x (mem_srt.mp hx).1 y (mem_srt.mp hy).1 q1 q2]) (fun a ha' b hb' => by
    obtain ⟨x, hx, rfl⟩ := List.mem_map.mp ha'
    obtain ⟨y, hy, rfl⟩ := List.mem_map.mp hb'
    simp [alike]) (.inr fun a ha' => by
    obtain ⟨x, hx, rfl⟩ := List.mem_map.mp ha'
    exact ⟨nofun, nofun⟩) (fun a ha' => by
    obtain ⟨x, hx, rfl⟩ := List.mem_map.mp ha'
    exact ⟨Nat.zero_le _, noL_str x⟩) hc hg he hpl
theorem Id.is {tg : Expr} {xs ys : List PyData} (h : Id X tg e ds xs) (q : xs = ys) : Id X tg e ds ys := q ▸ h
end
section
variable {P : Program} {w : World} {K : PySem.W.Frag} {mg : Str → Option Value} {base : Heap} {k : Nat}
/-- fits_columns -/
def R_cols : List PyData → PyData → Prop := fun as d => ∃ l, as = [dS l] ∧ IsLot l ∧ l.length ≤ 6 ∧ d = .bool true
theorem c_cols {t1 : Tok} (D : Df K mg "fits_columns" s_fits_columns ["value"]) (B : Bi mg) (C1 : Callee P w K mg base "is_row_of" k R_isRow) (C2 : Callee P w K mg base "fits_word" k R_word) (g1 : mg "COLUMNS" = some (.int 6 t1)) : Callee P w K mg base "fits_columns" (k + 1) R_cols := callee_df D sc_fits_columns (fun as d h => by obtain ⟨_, rfl, _⟩ := h; rfl) fun cdv f A outer s H E hr as d h => by
  obtain ⟨l, rfl, h1, h2, rfl⟩ := h
  refine Sd.skip (Et.is (Ew.t (.or (.not (.val (.call C1 hr (Nat.le_refl _) (.cons (vr 0 rfl) (.cons .int (.cons (.globI g1) .nil))) ⟨l.map .str, 0, 6, rfl, by omega, by rw [List.length_map]; omega, rfl⟩))) fun _ => .or1 (.not (.val (.callB (cr_all rfl) B.all (.cons (Ed.is (d' := dBs (l.map fun _ => true)) (.lc (ts := l) (enc := .str) (y := fun _ => .bool true) (b := fun _ => true) (own := [("word", 1)])
    ⟨blkOk_by (N := ["value", "word"]) (sc := defScope s_fits_columns) (by decide +kernel), ⟨[1], fun c => _, by simp, fun s H C cl fp c hc => ⟨.name sc_fits_columns.nd, .nil, fun _ => .call C2 hr (Nat.le_refl _) (.cons (vr 1 rfl) .nil) ⟨c, rfl, h1.al c hc, rfl⟩⟩⟩, fun c _ _ => noL_bool _, by omega⟩ (.tup (vr 0 rfl)) sc_fits_columns.nd) ?_) .nil) (rc_all (bs := l.map fun _ => true))))))) ?_) ?_
  · rw [filter_tt, dBs, List.map_map]
    rfl
  · rw [List.all_eq_true.mpr]
    · rfl
    · intro b hb
      obtain ⟨c, hc, rfl⟩ := List.mem_map.mp hb
      rfl
  · refine Sd.ret (d := .bool true) (.cmp (op_eqD hr.units) (.callTy call_list_of B.list (.cons (vr 0 rfl) .nil) (rc_list (.inr rfl))) (.sortW hr B (.words B (vr 0 rfl) (.inr rfl) (by omega)) h1.al) (rd_eqD ((sh_L h1.wds).ok (by omega)) ((sh_L (srt_srt l).wds).ok (by omega)) ?_)) rfl
    show PyData.eqv (dL l) (dL (srt l)) = true
    rw [eqv_L, h1, decide_eq_true rfl]
end
end Pb

set_option Elab.async false
set_option linter.all false
set_option maxRecDepth 100000
set_option maxHeartbeats 1000000
namespace Pb
open PySem PySem.Spec PyProof.Rows L2 PySem.W PySem.SeqAt
open Evl (Ex)
theorem all_tt {α : Type} (l : List α) : ((l.map fun _ => true).all fun b => b) = true := by
  rw [List.all_eq_true]
  intro b hb
  obtain ⟨c, hc, rfl⟩ := List.mem_map.mp hb
  rfl
theorem dBs_tt {α : Type} (l : List α) : PyData.list ((l.filter fun _ => true).map fun _ => PyData.bool true) = dBs (l.map fun _ => true) := by
  rw [filter_tt, dBs, List.map_map]
  rfl
/-- a lot of a frame -/
structure InC (C l : Lot) : Prop where
  lot : IsLot l
  sub : ∀ x ∈ l, x ∈ C
theorem sub_len {C l : Lot} (h : InC C l) : l.length ≤ C.length := by
  have key : ∀ (l m : List Str), l.Nodup → (∀ d ∈ l, d ∈ m) → l.length ≤ m.length := by
    intro l
    induction l with
    | nil => intro m _ _; exact Nat.zero_le _
    | cons y l ih =>
      intro m hn hs
      obtain ⟨u, v, rfl⟩ := List.append_of_mem (hs y List.mem_cons_self)
      obtain ⟨n1, n2⟩ := List.nodup_cons.mp hn
      have h2 := ih (u ++ v) n2 fun z hz => by
        rcases List.mem_append.mp (hs z (List.mem_cons_of_mem _ hz)) with q | q
        · exact List.mem_append_left _ q
        · rcases List.mem_cons.mp q with q | q
          · exact absurd (q ▸ hz) n1
          · exact List.mem_append_right _ q
      rw [List.length_append] at h2
      rw [List.length_append, List.length_cons, List.length_cons]
      omega
  exact key l C h.lot.nd h.sub
structure Frm (C : Lot) (D : List Dep) : Prop where
  lot : IsLot C
  ne : C ≠ []
  few : C.length ≤ 5
  deps : D.length ≤ 4
  nd : D.Nodup
  ok : ∀ p ∈ D, InC C p.1 ∧ p.2 ∈ C ∧ p.2 ∉ p.1
theorem eqv_nil {l : Lot} : PyData.eqv (dS l) (.tuple []) = decide (l = []) := eqv_S l []
section
variable {P : Program} {w : World} {K : PySem.W.Frag} {mg : Str → Option Value} {base : Heap} {k : Nat}
/-- fits_lot -/
def R_fitsLot : List PyData → PyData → Prop := fun as d => ∃ C l, as = [dS C, dS l] ∧ InC C l ∧ l.length ≤ 6 ∧ d = .bool true
theorem c_fitsLot (D : Df K mg "fits_lot" s_fits_lot ["columns", "value"]) (B : Bi mg) (C1 : Callee P w K mg base "fits_columns" k R_cols) : Callee P w K mg base "fits_lot" (k + 1) R_fitsLot := callee_df D sc_fits_lot (fun as d h => by obtain ⟨_, _, rfl, _⟩ := h; rfl) fun cdv f A outer s H E hr as d h => by
  obtain ⟨C, l, rfl, h1, h2, rfl⟩ := h
  refine Sd.ret (d := .bool (true && true)) (.and (.call C1 hr (Nat.le_refl _) (.cons (vr 1 rfl) .nil) ⟨l, rfl, h1.lot, h2, rfl⟩) fun _ => .and1 (Ed.is (.callB (cr_all rfl) B.all (.cons (Ed.is (.lc (ts := l) (enc := .str) (y := fun _ => .bool true) (b := fun _ => true) (own := [("word", 2)])
    ⟨blkOk_by (N := ["columns", "value", "word"]) (sc := defScope s_fits_lot) (by decide +kernel), ⟨[2], fun c => _, by simp, fun s H C' cl fp c hc => ⟨.name sc_fits_lot.nd, .nil, fun _ => .cmp op_in_seq (vr 2 rfl) (vr 0 rfl) (rd_inS (by
      rw [decide_eq_true (h1.sub c hc)]
      rfl))⟩⟩, fun c _ _ => noL_bool _, by omega⟩ (.tup (vr 1 rfl)) sc_fits_lot.nd) (dBs_tt l)) .nil) (rc_all (bs := l.map fun _ => true))) (by rw [all_tt]))) rfl
/-- fits_dependency -/
def R_fitsDep : List PyData → PyData → Prop := fun as d => ∃ C p, as = [dS C, dDep p] ∧ InC C p.1 ∧ p.1.length ≤ 6 ∧ p.2 ∈ alpha ∧ p.2 ∈ C ∧ p.2 ∉ p.1 ∧ d = .bool true
theorem c_fitsDep (D : Df K mg "fits_dependency" s_fits_dependency ["columns", "value"]) (B : Bi mg) (C1 : Callee P w K mg base "is_row_of" k R_isRow) (C2 : Callee P w K mg base "fits_lot" k R_fitsLot) (C3 : Callee P w K mg base "fits_word" k R_word) : Callee P w K mg base "fits_dependency" (k + 1) R_fitsDep := callee_df D sc_fits_dependency (fun as d h => by obtain ⟨_, _, rfl, _⟩ := h; rfl) fun cdv f A outer s H E hr as d h => by
  obtain ⟨C, p, rfl, h1, h2, h3, h4, h5, rfl⟩ := h
  refine Sd.skip (Et.is (Ew.t (.or (.not (.val (.call C1 hr (Nat.le_refl _) (.cons (vr 1 rfl) (.cons .int (.cons .int .nil))) ⟨[dS p.1, .str p.2], 2, 2, rfl, Int.le_refl 2, Int.le_refl 2, rfl⟩))) fun _ => .or (.not (.val (.call C2 hr (Nat.le_refl _) (.cons (vr 0 rfl) (.cons (.ix ix_tup (vr 1 rfl) .int (rd_ixT (i := 0) rfl)) .nil)) ⟨C, p.1, rfl, h1, h2, rfl⟩))) fun _ => .or1 (.not (.val (.call C3 hr (Nat.le_refl _) (.cons (.ix ix_tup (vr 1 rfl) .int (rd_ixT (i := 1) rfl)) .nil) ⟨p.2, rfl, h3, rfl⟩))))) rfl) ?_
  refine Sd.ret (d := .bool (true && true)) (.and (.cmp op_in_seq (.ix ix_tup (vr 1 rfl) .int (rd_ixT (i := 1) rfl)) (vr 0 rfl) (rd_inS (by
      rw [decide_eq_true h4]
      rfl))) fun _ => .and1 (.cmp op_notIn_seq (.ix ix_tup (vr 1 rfl) .int (rd_ixT (i := 1) rfl)) (.ix ix_tup (vr 1 rfl) .int (rd_ixT (i := 0) rfl)) (rd_inS (by
      rw [decide_eq_false h5]
      rfl)))) rfl
/-- fits_frame -/
def R_frame : List PyData → PyData → Prop := fun as d => ∃ C D, as = [dF C D] ∧ Frm C D ∧ d = .bool true
theorem dep_inj {p q : Dep} (h : dDep p = dDep q) : p = q := by
  have e := eqv_Dep p q
  rw [h] at e
  have e2 := eqv_Dep q q
  rw [e2, decide_eq_true rfl] at e
  exact of_decide_eq_true e.symm
theorem keyOks_all : ∀ {l : List PyData}, (∀ d ∈ l, keyOk d = true) → keyOks l = true
  | [], _ => by rw [keyOks]
  | d :: l, h => by
    rw [keyOks, h d List.mem_cons_self, keyOks_all fun x hx => h x (List.mem_cons_of_mem _ hx)]
    rfl
theorem keyOk_str (x : Str) : keyOk (.str x) = true := by rw [keyOk]
theorem keyOk_int (x : Int) : keyOk (.int x) = true := by rw [keyOk]
theorem keyOk_Dep (p : Dep) (h1 : Wds p.1) (h2 : PyData.strOk p.2 = true) : keyOk (dDep p) = true ∧ (dDep p).depth ≤ 8 ∧ ∃ es, dDep p = .tuple es := by
  refine ⟨?_, Nat.le_trans (sh_Dep h1 h2).2 (by omega), _, rfl⟩
  unfold dDep
  rw [keyOk]
  refine keyOks_all fun d hd => ?_
  rcases List.mem_cons.mp hd with rfl | hd
  · unfold dS
    rw [keyOk]
    refine keyOks_all fun d hd => ?_
    obtain ⟨x, _, rfl⟩ := List.mem_map.mp hd
    exact keyOk_str x
  · rw [List.mem_singleton.mp hd]
    exact keyOk_str _
theorem keyOk_Row (r : List Int) : keyOk (dRow r) = true ∧ (dRow r).depth ≤ 8 ∧ ∃ es, dRow r = .tuple es := by
  refine ⟨?_, Nat.le_trans (sh_Row r).2 (by omega), _, rfl⟩
  unfold dRow
  rw [keyOk]
  refine keyOks_all fun d hd => ?_
  obtain ⟨x, _, rfl⟩ := List.mem_map.mp hd
  exact keyOk_int x
theorem c_frame {t1 t2 : Tok} (D : Df K mg "fits_frame" s_fits_frame ["value"]) (B : Bi mg) (g1 : mg "DEPENDENCIES" = some (.int 8 t1)) (C1 : Callee P w K mg base "is_row_of" k R_isRow) (C2 : Callee P w K mg base "fits_columns" k R_cols) (C3 : Callee P w K mg base "fits_dependency" k R_fitsDep) (C4 : Callee P w K mg base "are_unlike" k R_unlike) : Callee P w K mg base "fits_frame" (k + 1) R_frame := callee_df D sc_fits_frame (fun as d h => by obtain ⟨_, _, rfl, _⟩ := h; rfl) fun cdv f A outer s H E hr as d h => by
  obtain ⟨C, D, rfl, h, rfl⟩ := h
  have hC := h.few
  have hD := h.deps
  refine Sd.skip (Et.is (Ew.t (.or (.not (.val (.call C1 hr (Nat.le_refl _) (.cons (vr 0 rfl) (.cons .int (.cons .int .nil))) ⟨[dS C, dDeps D], 2, 2, rfl, Int.le_refl 2, Int.le_refl 2, rfl⟩))) fun _ => .or (.not (.val (.call C2 hr (Nat.le_refl _) (.cons (.ix ix_tup (vr 0 rfl) .int (rd_ixT (i := 0) rfl)) .nil) ⟨C, rfl, h.lot, by omega, rfl⟩))) fun _ => .or1 (.cmp (op_eqD hr.units) (.ix ix_tup (vr 0 rfl) .int (rd_ixT (i := 0) rfl)) (.tup .nil (by decide)) (rd_eqD ((sh_S h.lot.wds).ok (by omega)) (by decide +kernel) eqv_nil)))) ?_) ?_
  · rw [decide_eq_false h.ne]
    rfl
  refine Sd.skip (Et.is (.not (.val (.call C1 hr (Nat.le_refl _) (.cons (.ix ix_tup (vr 0 rfl) .int (rd_ixT (i := 1) rfl)) (.cons .int (.cons (.globI g1) .nil))) ⟨D.map dDep, 0, 8, rfl, by omega, by rw [List.length_map]; omega, rfl⟩))) rfl) ?_
  refine Sd.ret (d := .bool (true && true)) (.and (Ed.is (.callB (cr_all rfl) B.all (.cons (Ed.is (.lc (ts := D) (enc := dDep) (y := fun _ => .bool true) (b := fun _ => true) (own := [("item", 1)])
    ⟨blkOk_by (N := ["value", "item"]) (sc := defScope s_fits_frame) (by decide +kernel), ⟨[1], fun c => _, by simp, fun s H C' cl fp c hc => ⟨.name sc_fits_frame.nd, .nil, fun _ => .call C3 hr (Nat.le_refl _) (.cons (.ix ix_tup (vr 0 rfl) .int (rd_ixT (i := 0) rfl)) (.cons (vr 1 rfl) .nil)) ⟨C, c, rfl, (h.ok c hc).1, by have := sub_len (h.ok c hc).1; omega, h.lot.al _ (h.ok c hc).2.1, (h.ok c hc).2.1, (h.ok c hc).2.2, rfl⟩⟩⟩, fun c _ _ => noL_bool _, by omega⟩ (.tup (.ix ix_tup (vr 0 rfl) .int (rd_ixT (i := 1) rfl))) sc_fits_frame.nd) (dBs_tt D)) .nil) (rc_all (bs := D.map fun _ => true))) (by rw [all_tt])) fun _ => .and1 (.call C4 hr (Nat.le_refl _) (.cons (.ix ix_tup (vr 0 rfl) .int (rd_ixT (i := 1) rfl)) .nil) ⟨D.map dDep, rfl, List.pairwise_map.mpr (h.nd.imp fun hne e => hne (dep_inj e)), by rw [List.length_map]; exact hD, fun d hd => ?_, rfl⟩)) rfl
  obtain ⟨p, hp, rfl⟩ := List.mem_map.mp hd
  exact keyOk_Dep p (h.ok p hp).1.lot.wds (alpha_ok _ (h.lot.al _ (h.ok p hp).2.1))
end
end Pb

set_option Elab.async false
set_option linter.all false
set_option maxRecDepth 100000
set_option maxHeartbeats 1000000
namespace Pb
open PySem PySem.Spec PyProof.Rows L2 PySem.W PySem.SeqAt
open Evl (Ex)
section
variable {P : Program} {w : World} {K : PySem.W.Frag} {mg : Str → Option Value} {base : Heap} {k : Nat}
/-- fits_rows -/
structure RowsOk (n : Nat) (rs : List (List Int)) : Prop where
  few : rs.length ≤ 2
  pos : 0 < n
  len : ∀ r ∈ rs, r.length = n
  bd : ∀ r ∈ rs, ∀ x ∈ r, -1000000 ≤ x ∧ x ≤ 1000000
  inc : rs.Pairwise fun a b => dataLt (dRow a) (dRow b) = true ∧ dataLt (dRow b) (dRow a) = false
theorem alike_ints : ∀ a b : List Int, alikeAll (a.map .int) (b.map .int) = true
  | [], _ => by simp [alikeAll]
  | _ :: _, [] => by simp [alikeAll]
  | x :: a, y :: b => by simp [alikeAll, alike, alike_ints a b]
theorem rows_anti {n : Nat} {rs : List (List Int)} (h : RowsOk n rs) : ∀ a ∈ rs.map dRow, ∀ b ∈ rs.map dRow, dataLe false id a b = true → dataLe false id b a = true → a = b := by
  have hi := h.inc
  have hf := h.few
  have no : ∀ {a b : PyData}, dataLt b a = true → dataLe false id a b = true → False := fun {a b} h1 h2 => by
    have e : dataLe false id a b = !dataLt b a := rfl
    rw [e, h1] at h2
    cases h2
  match rs, hi, hf with
  | [], _, _ => intro a ha; cases ha
  | [x], _, _ =>
    intro a ha b hb _ _
    rw [List.map_cons, List.map_nil, List.mem_singleton] at ha hb
    rw [ha, hb]
  | [x, y], hi, _ =>
    have h1 := (List.rel_of_pairwise_cons hi (List.mem_singleton.mpr rfl)).1
    intro a ha b hb q1 q2
    simp only [List.map_cons, List.map_nil, List.mem_cons, List.mem_nil_iff, or_false] at ha hb
    rcases ha with rfl | rfl <;> rcases hb with rfl | rfl
    · rfl
    · exact (no h1 q2).elim
    · exact (no h1 q1).elim
    · rfl
  | _ :: _ :: _ :: _, _, hf => simp at hf
theorem sh_Rows {rs : List (List Int)} : Sh 2 (.list (rs.map dRow)) := Sh.lst fun d hd => by
  obtain ⟨r, _, rfl⟩ := List.mem_map.mp hd
  exact sh_Row r
def R_fitsRows : List PyData → PyData → Prop := fun as d => ∃ (C : Lot) (rs : List (List Int)) (m : Int), as = [dS C, dRows rs, .int m] ∧ RowsOk C.length rs ∧ C.length ≤ 7 ∧ (rs.length : Int) ≤ m ∧ d = .bool true
theorem row_inj {p q : List Int} (h : dRow p = dRow q) : p = q := by
  have e := eqv_Row p q
  rw [h] at e
  have e2 := eqv_Row q q
  rw [e2, decide_eq_true rfl] at e
  exact of_decide_eq_true e.symm
theorem rows_nd {n : Nat} {rs : List (List Int)} (h : RowsOk n rs) : (rs.map dRow).Nodup := by
  refine List.pairwise_map.mpr (h.inc.imp fun hne e => ?_)
  rw [e] at hne
  rw [hne.2] at hne
  exact Bool.false_ne_true hne.1
theorem c_fitsRows {t1 : Tok} (D : Df K mg "fits_rows" s_fits_rows ["columns", "value", "most"]) (B : Bi mg) (g1 : mg "AMOUNT" = some (.int 1000000 t1)) (C1 : Callee P w K mg base "is_row_of" k R_isRow) (C2 : Callee P w K mg base "is_whole" k R_isWhole) : Callee P w K mg base "fits_rows" (k + 1) R_fitsRows := callee_df D sc_fits_rows (fun as d h => by obtain ⟨_, _, _, rfl, _⟩ := h; rfl) fun cdv f A outer s H E hr as d h => by
  obtain ⟨C, rs, m, rfl, h, hc, hm, rfl⟩ := h
  have hf := h.few
  refine Sd.skip (Et.is (Ew.t (.or (.not (.val (.call C1 hr (Nat.le_refl _) (.cons (vr 1 rfl) (.cons .int (.cons (vr 2 rfl) .nil))) ⟨rs.map dRow, 0, m, rfl, by omega, by rw [List.length_map]; exact hm, rfl⟩))) fun _ => .or1 (.not (.val (Ed.is (.callB (cr_all rfl) B.all (.cons (Ed.is (.lc (ts := rs) (enc := dRow) (y := fun _ => .bool true) (b := fun _ => true) (own := [("row", 3)])
    ⟨blkOk_by (N := ["columns", "value", "most", "row", "item"]) (sc := defScope s_fits_rows) (by decide +kernel), ⟨[3], fun c => _, by simp, fun s H C' cl fp c hc => ⟨.name sc_fits_rows.nd, .nil, fun _ => .call C1 hr (Nat.le_refl _) (.cons (vr 3 rfl) (.cons (.callB call_len_seq B.len (.cons (vr 0 rfl) .nil) (rc_len (.inr rfl))) (.cons (.callB call_len_seq B.len (.cons (vr 0 rfl) .nil) (rc_len (.inr rfl))) .nil))) ⟨c.map .int, _, _, rfl, by rw [List.length_map, List.length_map, h.len c hc]; exact Int.le_refl _, by rw [List.length_map, List.length_map, h.len c hc]; exact Int.le_refl _, rfl⟩⟩⟩, fun c _ _ => noL_bool _, by omega⟩ (.tup (vr 1 rfl)) sc_fits_rows.nd) (dBs_tt rs)) .nil) (rc_all (bs := rs.map fun _ => true))) (by rw [all_tt])))))) rfl) ?_
  refine Sd.skip (Et.is (.not (.val (Ed.is (.callB (cr_all rfl) B.all (.cons (Ed.is (.lc (ts := rs) (enc := dRow) (y := fun _ => .bool true) (b := fun _ => true) (own := [("row", 3)])
    ⟨blkOk_by (N := ["columns", "value", "most", "row", "item"]) (sc := defScope s_fits_rows) (by decide +kernel), ⟨[3], fun c => _, by simp, fun s H C' cl fp c hc => ⟨.name sc_fits_rows.nd, .nil, fun _ => Ed.is (.callB (cr_all rfl) B.all (.cons (Ed.is (.lc (ts := c) (enc := .int) (y := fun _ => .bool true) (b := fun _ => true) (own := [("item", 4)])
      ⟨blkOk_by (by rfl), ⟨[4], fun c => _, by simp, fun s H C' cl fp x hx => ⟨.name sc_fits_rows.nd, .nil, fun _ => .call C2 hr (Nat.le_refl _) (.cons (vr 4 rfl) (.cons (.neg (.globI g1)) (.cons (.globI g1) .nil))) ⟨x, _, _, rfl, (h.bd c hc x hx).1, (h.bd c hc x hx).2, rfl⟩⟩⟩, fun c _ _ => noL_bool _, by have := h.len c hc; omega⟩ (.tup (vr 3 rfl)) sc_fits_rows.nd) (dBs_tt c)) .nil) (rc_all (bs := c.map fun _ => true))) (by rw [all_tt])⟩⟩, fun c _ _ => noL_bool _, by omega⟩ (.tup (vr 1 rfl)) sc_fits_rows.nd) (dBs_tt rs)) .nil) (rc_all (bs := rs.map fun _ => true))) (by rw [all_tt])))) rfl) ?_
  refine Sd.ret (d := .bool true) (.cmp (op_eqD hr.units) (.callTy call_list_of B.list (.cons (vr 1 rfl) .nil) (rc_list (.inr rfl))) (.sortV (cs := rs.map dRow) hr B.sorted (.tups hr B.set (vr 1 rfl) (.inr rfl) (fun d hd => ?_) (by rw [List.length_map]; omega)) (rows_nd h) (fun d => Iff.rfl) ?_ ?_ ?_ ?_ ?_) (rd_eqD ?_ ?_ ?_)) rfl
  · obtain ⟨r, _, rfl⟩ := List.mem_map.mp hd
    exact keyOk_Row r
  · refine List.pairwise_map.mpr ?_
    have h0 := h.inc
    exact h0.imp fun h => congrArg Bool.not h.2
  · exact rows_anti h
  · intro a ha b hb
    obtain ⟨r, _, rfl⟩ := List.mem_map.mp ha
    obtain ⟨r', _, rfl⟩ := List.mem_map.mp hb
    show alike (.tuple _) (.tuple _) = true
    simp only [alike]
    exact alike_ints r r'
  · refine .inl fun a ha => ?_
    obtain ⟨r, hr', rfl⟩ := List.mem_map.mp ha
    have hl := h.len r hr'
    have hp := h.pos
    match r, hl with
    | [], hl => rw [List.length_nil] at hl; omega
    | x :: r, _ => exact ⟨_, _, rfl⟩
  · intro a ha
    obtain ⟨r, hr', rfl⟩ := List.mem_map.mp ha
    exact ⟨Nat.le_trans (sh_Row r).2 (by omega), noL_Row r⟩
  · exact sh_Rows.ok (by omega)
  · exact sh_Rows.ok (by omega)
  · rw [eqv_lst, eqvAll_map dRow eqv_Row, decide_eq_true rfl]
/-- cut_row -/
def cut (C L : List Str) (r : List Int) : List Int := ((C.zip r).filter fun q => decide (q.1 ∈ L)).map (·.2)
def R_cut : List PyData → PyData → Prop := fun as d => ∃ C L r, as = [dS C, dS L, dRow r] ∧ r.length = C.length ∧ C.length ≤ 7 ∧ d = dRow (cut C L r)
theorem c_cut (D : Df K mg "cut_row" s_cut_row ["columns", "lot", "row"]) (B : Bi mg) : Callee P w K mg base "cut_row" (k + 1) R_cut := callee_df D sc_cut_row (fun as d h => by obtain ⟨_, _, _, rfl, _⟩ := h; rfl) fun cdv f A outer s H E hr as d h => by
  obtain ⟨C, L, r, rfl, h1, h2, rfl⟩ := h
  refine Sd.ret (.callTy call_tuple_of B.tuple (.cons (.lc (ts := C.zip r) (enc := fun q => .tuple [.str q.1, .int q.2]) (y := fun q => .int q.2) (b := fun q => decide (q.1 ∈ L)) (own := [("word", 3), ("item", 4)])
    ⟨blkOk_by (N := ["columns", "lot", "row", "word", "item"]) (sc := defScope s_cut_row) (by decide +kernel), ⟨[3, 4], fun c => _, by simp, fun s H C' cl fp c hc => ⟨.two (i := 3) (j := 4) rfl sc_cut_row.nd, .one (.cmp op_in_seq (vr 3 rfl) (vr 1 rfl) (rd_inS rfl)), fun _ => vr 4 rfl⟩⟩, fun c _ _ => noL_int _, by rw [List.length_zip]; omega⟩ (Id.is (.zipT (xs := C.map .str) (ys := r.map .int) (by rw [List.length_map, List.length_map, h1]) B.zip (vr 0 rfl) (vr 2 rfl)) ?_) sc_cut_row.nd) .nil) rc_tuple) ?_
  · rw [List.zip_map, List.map_map]
    rfl
  · show PyData.tuple _ = dRow _
    unfold dRow cut
    rw [List.map_map]
    rfl
/-- are_alike -/
def R_alike : List PyData → PyData → Prop := fun as d => ∃ C L r o, as = [dS C, dS L, dRow r, dRow o] ∧ r.length = C.length ∧ o.length = C.length ∧ C.length ≤ 7 ∧ d = .bool (decide (cut C L r = cut C L o))
theorem c_alike (D : Df K mg "are_alike" s_are_alike ["columns", "lot", "row", "other"]) (C1 : Callee P w K mg base "cut_row" k R_cut) : Callee P w K mg base "are_alike" (k + 1) R_alike := callee_df D sc_are_alike (fun as d h => by obtain ⟨_, _, _, _, rfl, _⟩ := h; rfl) fun cdv f A outer s H E hr as d h => by
  obtain ⟨C, L, r, o, rfl, h1, h2, h3, rfl⟩ := h
  exact Sd.ret (.cmp (op_eqD hr.units) (.call C1 hr (Nat.le_refl _) (.cons (vr 0 rfl) (.cons (vr 1 rfl) (.cons (vr 2 rfl) .nil))) ⟨C, L, r, rfl, h1, h3, rfl⟩) (.call C1 hr (Nat.le_refl _) (.cons (vr 0 rfl) (.cons (vr 1 rfl) (.cons (vr 3 rfl) .nil))) ⟨C, L, o, rfl, h2, h3, rfl⟩) (rd_eqD ((sh_Row _).ok (by omega)) ((sh_Row _).ok (by omega)) (eqv_Row _ _))) rfl
/-- keeps -/
def Keeps (C : List Str) (D : List Dep) (rs : List (List Int)) : Prop := ∀ i j : Nat, i < j → ∀ r o, rs[j]? = some r → rs[i]? = some o → ∀ p ∈ D, cut C p.1 r = cut C p.1 o → cut C [p.2] r = cut C [p.2] o
def R_keeps : List PyData → PyData → Prop := fun as d => ∃ C D rs, as = [dS C, dDeps D, dRows rs] ∧ C.length ≤ 7 ∧ (∀ r ∈ rs, r.length = C.length) ∧ Keeps C D rs ∧ d = .bool true
theorem c_keeps (D : Df K mg "keeps" s_keeps ["columns", "dependencies", "rows"]) (B : Bi mg) (C1 : Callee P w K mg base "are_alike" k R_alike) : Callee P w K mg base "keeps" (k + 1) R_keeps := callee_df D sc_keeps (fun as d h => by obtain ⟨_, _, _, rfl, _⟩ := h; rfl) fun cdv f A outer s H E hr as d h => by
  obtain ⟨C, D, rs, rfl, h1, h2, h3, rfl⟩ := h
  refine Sd.for_ (.enumT B.enum (vr 2 rfl)) (fun i ds' => ∃ a b c d e, ds' = [some (dS C), some (dDeps D), some (dRows rs), a, b, c, d, e]) ⟨_, _, _, _, _, rfl⟩ (fun i x ds' hx hI => ?_) fun ds' hI => ?_
  · obtain ⟨a, b, c, d, e, rfl⟩ := hI
    rw [numbered_get, List.getElem?_map] at hx
    cases hri : rs[i]? with
    | none => rw [hri] at hx; cases hx
    | some r =>
      rw [hri] at hx
      cases hx
      rw [Nat.zero_add]
      have hil : i < rs.length := (List.getElem?_eq_some_iff.mp hri).1
      have hrm : r ∈ rs := List.mem_of_getElem? hri
      refine ⟨_, _, .two (i := 3) (j := 4) rfl sc_keeps.nd, ?_⟩
      refine Sd.for_ (.tup (.cutT (vr 2 rfl) (vr 3 rfl) (by rw [List.length_map]; exact hil))) (fun j ds' => ∃ c d e, ds' = [some (dS C), some (dDeps D), some (dRows rs), some (.int (i : Nat)), some (dRow r), c, d, e]) ⟨_, _, _, rfl⟩ (fun j x ds' hx hI => ?_) fun ds' hI => ?_
      · obtain ⟨c, d, e, rfl⟩ := hI
        rw [← List.map_take, List.getElem?_map] at hx
        cases hoj : (rs.take i)[j]? with
        | none => rw [hoj] at hx; cases hx
        | some o =>
          rw [hoj] at hx
          cases hx
          have hji : j < i := by
            have := (List.getElem?_eq_some_iff.mp hoj).1
            rw [List.length_take] at this
            omega
          have hoj2 : rs[j]? = some o := by
            rw [List.getElem?_take, if_pos hji] at hoj
            exact hoj
          have hom : o ∈ rs := List.mem_of_getElem? hoj2
          refine ⟨_, _, .name (i := 5) sc_keeps.nd, ?_⟩
          refine Sd.for_ (.tup (vr 1 rfl)) (fun j ds' => ∃ d e, ds' = [some (dS C), some (dDeps D), some (dRows rs), some (.int (i : Nat)), some (dRow r), some (dRow o), d, e]) ⟨_, _, rfl⟩ (fun m x ds' hx hI => ?_) fun ds' hI => ?_
          · obtain ⟨d, e, rfl⟩ := hI
            rw [List.getElem?_map] at hx
            cases hpm : D[m]? with
            | none => rw [hpm] at hx; cases hx
            | some p =>
              rw [hpm] at hx
              cases hx
              have hp : p ∈ D := List.mem_of_getElem? hpm
              refine ⟨_, _, .two (i := 6) (j := 7) rfl sc_keeps.nd, ?_⟩
              refine Sd.skip (Et.is (Ew.t (.and (.val (.call C1 hr (Nat.le_refl _) (.cons (vr 0 rfl) (.cons (vr 6 rfl) (.cons (vr 4 rfl) (.cons (vr 5 rfl) .nil)))) ⟨C, p.1, r, o, rfl, h2 r hrm, h2 o hom, h1, rfl⟩)) fun _ => .and1 (.not (.val (.call C1 hr (Nat.le_refl _) (.cons (vr 0 rfl) (.cons (.tup (.cons (vr 7 rfl) .nil) (Nat.le_add_left 1 99999)) (.cons (vr 4 rfl) (.cons (vr 5 rfl) .nil)))) ⟨C, [p.2], r, o, rfl, h2 r hrm, h2 o hom, h1, rfl⟩))))) ?_) (Sd.nil ⟨_, _, rfl⟩)
              by_cases q : cut C p.1 r = cut C p.1 o
              · rw [decide_eq_true (h3 j i hji r o hri hoj2 p hp q)]
                simp
              · rw [decide_eq_false q]
                rfl
          · obtain ⟨d, e, rfl⟩ := hI
            exact Sd.nil ⟨_, _, _, rfl⟩
      · obtain ⟨c, d, e, rfl⟩ := hI
        exact Sd.nil ⟨_, _, _, _, _, rfl⟩
  · obtain ⟨a, b, c, d, e, rfl⟩ := hI
    exact Sd.ret .bl rfl
/-- fits_sheet -/
def R_fitsSheet : List PyData → PyData → Prop := fun as d => ∃ C D rs m, as = [dF C D, dRows rs, .int m] ∧ C.length ≤ 7 ∧ RowsOk C.length rs ∧ (rs.length : Int) ≤ m ∧ Keeps C D rs ∧ d = .bool true
theorem c_fitsSheet (D : Df K mg "fits_sheet" s_fits_sheet ["frame", "value", "most"]) (C1 : Callee P w K mg base "fits_rows" k R_fitsRows) (C2 : Callee P w K mg base "keeps" k R_keeps) : Callee P w K mg base "fits_sheet" (k + 1) R_fitsSheet := callee_df D sc_fits_sheet (fun as d h => by obtain ⟨_, _, _, _, rfl, _⟩ := h; rfl) fun cdv f A outer s H E hr as d h => by
  obtain ⟨C, D, rs, m, rfl, h1, h2, h3, h4, rfl⟩ := h
  exact Sd.ret (d := .bool (true && true)) (.and (.call C1 hr (Nat.le_refl _) (.cons (.ix ix_tup (vr 0 rfl) .int (rd_ixT (i := 0) rfl)) (.cons (vr 1 rfl) (.cons (vr 2 rfl) .nil))) ⟨C, rs, m, rfl, h2, h1, h3, rfl⟩) fun _ => .and1 (.call C2 hr (Nat.le_refl _) (.cons (.ix ix_tup (vr 0 rfl) .int (rd_ixT (i := 0) rfl)) (.cons (.ix ix_tup (vr 0 rfl) .int (rd_ixT (i := 1) rfl)) (.cons (vr 1 rfl) .nil))) ⟨C, D, rs, rfl, h1, h2.len, h4, rfl⟩)) rfl
end
end Pb

set_option Elab.async false
set_option linter.all false
set_option maxRecDepth 100000
set_option maxHeartbeats 1000000
namespace Pb
open PySem PySem.Spec PyProof.Rows L2 PySem.W PySem.SeqAt
open Evl (Ex)
/-! ### closures -/
def Sb (l m : List Str) : Prop := ∀ x ∈ l, x ∈ m
def sbB (l m : List Str) : Bool := l.all fun x => decide (x ∈ m)
theorem sbB_iff {l m : List Str} : sbB l m = true ↔ Sb l m := by
  unfold sbB Sb
  rw [List.all_eq_true]
  exact ⟨fun h x hx => of_decide_eq_true (h x hx), fun h x hx => decide_eq_true (h x hx)⟩
def Closed (D : List Dep) (m : List Str) : Prop := ∀ p ∈ D, Sb p.1 m → p.2 ∈ m
structure Least (D : List Dep) (l c : Lot) : Prop where
  lot : IsLot c
  up : Sb l c
  cl : Closed D c
  le : ∀ m, IsLot m → Closed D m → Sb l m → Sb c m
def pbStep (D : List Dep) (f : List Str) : List Str := srt (f ++ (D.filter fun p => sbB p.1 f).map (·.2))
theorem mem_pbStep {D : List Dep} {f : List Str} {x : Str} : x ∈ pbStep D f ↔ x ∈ alpha ∧ (x ∈ f ∨ ∃ p ∈ D, Sb p.1 f ∧ p.2 = x) := by
  unfold pbStep
  rw [mem_srt, List.mem_append, List.mem_map]
  refine and_congr_right fun _ => or_congr_right ⟨fun ⟨p, h1, h2⟩ => ?_, fun ⟨p, h1, h2, h3⟩ => ⟨p, List.mem_filter.mpr ⟨h1, sbB_iff.mpr h2⟩, h3⟩⟩
  obtain ⟨h3, h4⟩ := List.mem_filter.mp h1
  exact ⟨p, h3, sbB_iff.mp h4, h2⟩
theorem pbStep_up {D : List Dep} {f : Lot} (h : IsLot f) : Sb f (pbStep D f) := fun x hx => mem_pbStep.mpr ⟨h.al x hx, .inl hx⟩
theorem pbStep_le {D : List Dep} {f c : Lot} (h : Sb f c) (hc : Closed D c) : Sb (pbStep D f) c := fun x hx => by
  rcases (mem_pbStep.mp hx).2 with h1 | ⟨p, h1, h2, rfl⟩
  · exact h x h1
  · exact hc p h1 fun y hy => h y (h2 y hy)
theorem pbStep_fix {D : List Dep} {f : Lot} (hD : ∀ p ∈ D, p.2 ∈ alpha) (e : pbStep D f = f) : Closed D f := fun p hp hs => by
  rw [← e]
  exact mem_pbStep.mpr ⟨hD p hp, .inr ⟨p, hp, hs, rfl⟩⟩
theorem pbStep_lot {D : List Dep} {f : Lot} : IsLot (pbStep D f) := srt_srt _
theorem sub_eq {C l : Lot} (h : InC C l) (hC : IsLot C) (hl : C.length ≤ l.length) : l = C := by
  refine h.lot.ext hC fun x => ⟨h.sub x, fun hx => ?_⟩
  refine Classical.byContradiction fun hn => ?_
  have h2 : InC C (srt (x :: l)) := ⟨srt_srt _, fun y hy => by
    rcases List.mem_cons.mp (mem_srt.mp hy).2 with rfl | q
    · exact hx
    · exact h.sub y q⟩
  have e1 := sub_len h2
  have e2 : (srt (x :: l)).Perm (x :: l) := (List.perm_ext_iff_of_nodup (srt_nd _) (List.nodup_cons.mpr ⟨hn, h.lot.nd⟩)).mpr fun y => by
    rw [mem_srt]
    refine ⟨fun q => q.2, fun q => ⟨?_, q⟩⟩
    rcases List.mem_cons.mp q with rfl | q
    · exact hC.al _ hx
    · exact h.lot.al y q
  have e3 := e2.length_eq
  rw [List.length_cons] at e3
  omega
theorem eqv_nonL (l : List PyData) : PyData.eqv .none (.list l) = false := by
  cases l <;> simp [PyData.eqv]
section
variable {P : Program} {w : World} {K : PySem.W.Frag} {mg : Str → Option Value} {base : Heap} {k : Nat}
/-- closure_in -/
def R_clo : List PyData → PyData → Prop := fun as d => ∃ D l c, as = [dDeps D, dS l] ∧ IsLot l ∧ D.length ≤ 8 ∧ (∀ p ∈ D, p.2 ∈ alpha ∧ p.1.length ≤ 7) ∧ Least D l c ∧ d = dS c
theorem c_clo (D : Df K mg "closure_in" s_closure_in ["dependencies", "lot"]) (B : Bi mg) : Callee P w K mg base "closure_in" (k + 1) R_clo := callee_df D sc_closure_in (fun as d h => by obtain ⟨_, _, _, rfl, _⟩ := h; rfl) fun cdv f A outer s H E hr as d h => by
  obtain ⟨D, l, c, rfl, h1, h2, h3, h4, rfl⟩ := h
  refine Sd.asg (.tup (.cons (.callTy call_list_of B.list (.cons (vr 1 rfl) .nil) (rc_list (.inr rfl))) (.cons .non .nil)) (by show 2 ≤ 100000; omega)) (.two (i := 2) (j := 3) rfl sc_closure_in.nd) ?_
  refine Sd.while_ (fun m ds' => ∃ f b s a c' w, ds' = [some (dDeps D), some (dS l), some (dL f), b, s, a, c', w] ∧ IsLot f ∧ Sb l f ∧ Sb f c ∧ ((b = some .none ∧ m = 9) ∨ ∃ g, b = some (dL g) ∧ IsLot g ∧ Sb g f ∧ f = pbStep D g ∧ m + g.length = 8)) 9
    ⟨l, _, _, _, _, _, rfl, h1, fun x hx => hx, h4.up, .inl ⟨rfl, rfl⟩⟩ fun m ds' hI => ?_
  obtain ⟨f, b, sm, a, c', w, rfl, i1, i2, i3, i4⟩ := hI
  have hf7 := i1.len
  obtain ⟨bd, p, rfl, hbs, hbe, hp0, hp1⟩ : ∃ (bd : PyData) (p : Bool), b = some bd ∧ SeqAt.shaped bd = true ∧ PyData.eqv bd (dL f) = (!p) ∧ (p = false → f = c) ∧ (p = true → ∃ m', m' < m ∧ m' + f.length = 8) := by
    rcases i4 with ⟨rfl, rfl⟩ | ⟨g, rfl, g1, g2, g3, g4⟩
    · exact ⟨_, true, rfl, by decide +kernel, eqv_nonL _, nofun, fun _ => ⟨8 - f.length, by omega, by omega⟩⟩
    · refine ⟨_, !decide (g = f), rfl, (sh_L g1.wds).ok (by omega), by rw [Bool.not_not]; exact eqv_L g f, fun e => ?_, fun e => ?_⟩
      · have e1 : g = f := by simpa using e
        subst e1
        exact i1.ext h4.lot fun x => ⟨i3 x, h4.le g i1 (pbStep_fix (fun p hp => (h3 p hp).1) g3.symm) i2 x⟩
      · have e1 : g ≠ f := by simpa using e
        have e2 : g.length < f.length := by
          refine Classical.byContradiction fun hn => e1 ?_
          exact sub_eq ⟨g1, g2⟩ i1 (by omega)
        exact ⟨8 - f.length, by omega, by omega⟩
  refine ⟨p, Et.is (.cmp (op_neD hr.units) (vr 3 rfl) (vr 2 rfl) (rd_neD hbs ((sh_L i1.wds).ok (by omega)) hbe)) (Bool.not_not p), fun hp => ?_, fun hp => ?_⟩
  · obtain ⟨m', hm1, hm2⟩ := hp1 hp
    refine Sd.set (i := 3) (vr 2 rfl) ?_ sc_closure_in.nd
    refine Sd.setLc (ts := D) (enc := dDep) (y := fun p => .str p.2) (b := fun p => sbB p.1 f) (own := [("ahead", 5), ("column", 6)]) (i := 4)
      ⟨blkOk_by (N := ["dependencies", "lot", "found", "before", "some", "ahead", "column", "word"]) (sc := defScope s_closure_in) (by decide +kernel), ⟨[5, 6], fun c => _, by simp, fun s H C' cl fp p hp => ⟨.two (i := 5) (j := 6) rfl sc_closure_in.nd, .one (.val (Ed.is (.callB (cr_all rfl) B.all (.cons (Ed.is (.lc (ts := p.1) (enc := .str) (y := fun x => .bool (decide (x ∈ f))) (b := fun _ => true) (own := [("word", 7)])
        ⟨blkOk_by (by rfl), ⟨[7], fun c => _, by simp, fun s H C' cl fp x hx => ⟨.name sc_closure_in.nd, .nil, fun _ => .cmp op_in_seq (vr 7 rfl) (vr 2 rfl) (rd_inL rfl)⟩⟩, fun c _ _ => noL_bool _, by have := (h3 p hp).2; omega⟩ (.tup (vr 5 rfl)) sc_closure_in.nd) ?_) .nil) (rc_all (bs := p.1.map fun x => decide (x ∈ f)))) ?_)), fun _ => vr 6 rfl⟩⟩, fun c _ _ => noL_str _, by omega⟩ (.tup (vr 0 rfl)) ?_ sc_closure_in.nd (sw_true rfl rfl rfl (by decide +kernel))
    · rw [filter_tt, dBs, List.map_map]
      rfl
    · rw [List.all_map]
      rfl
    · refine Sd.set (i := 2) (Ed.sortW (l := f ++ (D.filter fun p => sbB p.1 f).map (·.2)) hr B (.words B (Ed.op op_cat (vr 2 rfl) (vr 4 rfl) (rd_catL ?_)) (.inl ?_) ?_) ?_) ?_ sc_closure_in.nd
      · rw [List.length_map, List.length_map]
        have := List.length_filter_le (fun p => sbB p.1 f) D
        omega
      · rw [dL, List.map_append, List.map_map]
        rfl
      · rw [List.length_append, List.length_map]
        have := List.length_filter_le (fun p => sbB p.1 f) D
        omega
      · intro x hx
        rcases List.mem_append.mp hx with q | q
        · exact i1.al x q
        · obtain ⟨p, hp, rfl⟩ := List.mem_map.mp q
          exact (h3 p (List.mem_filter.mp hp).1).1
      · exact Sd.nil ⟨m', hm1, _, _, _, _, _, _, rfl, pbStep_lot, fun x hx => pbStep_up i1 x (i2 x hx), pbStep_le i3 h4.cl, .inr ⟨f, rfl, i1, pbStep_up i1, rfl, hm2⟩⟩
  · have e := hp0 hp
    subst e
    exact Sd.ret (.callTy call_tuple_of B.tuple (.cons (vr 2 rfl) .nil) rc_tuple) rfl
end
end Pb

set_option Elab.async false
set_option linter.all false
set_option maxRecDepth 100000
set_option maxHeartbeats 1000000
namespace Pb
open PySem PySem.Spec PyProof.Rows L2 PySem.W PySem.SeqAt
open Evl (Ex)
/-! ### all lots -/
def grow (acc : List Lot) (w : Str) : List Lot := acc ++ acc.map fun l => l ++ [w]
def allLots (C : List Str) : List Lot := C.foldl grow [[]]
theorem grow_head {acc : List Lot} (w : Str) (h : ∃ r, acc = [] :: r) : ∃ r, grow acc w = [] :: r := by
  obtain ⟨r, rfl⟩ := h
  exact ⟨_, rfl⟩
theorem foldl_head : ∀ (C : List Str) (acc : List Lot), (∃ r, acc = [] :: r) → ∃ r, C.foldl grow acc = [] :: r
  | [], _, h => h
  | w :: C, acc, h => foldl_head C (grow acc w) (grow_head w h)
theorem allLots_head (C : List Str) : ∃ r, allLots C = [] :: r := foldl_head C _ ⟨[], rfl⟩
theorem foldl_len : ∀ (C : List Str) (acc : List Lot), (C.foldl grow acc).length = 2 ^ C.length * acc.length
  | [], acc => by simp
  | w :: C, acc => by
    show (C.foldl grow (grow acc w)).length = _
    rw [foldl_len C, grow, List.length_append, List.length_map, List.length_cons, Nat.pow_succ, Nat.mul_assoc, Nat.two_mul]
theorem allLots_len (C : List Str) : (allLots C).length = 2 ^ C.length := by
  unfold allLots
  rw [foldl_len, List.length_singleton, Nat.mul_one]
theorem mem_foldl : ∀ (C : List Str) (acc : List Lot) (l : Lot), l ∈ C.foldl grow acc ↔ ∃ a ∈ acc, ∃ m, m.Sublist C ∧ l = a ++ m
  | [], acc, l => ⟨fun h => ⟨l, h, [], .refl _, (List.append_nil l).symm⟩, fun ⟨a, ha, m, hm, e⟩ => by
    rw [List.sublist_nil] at hm
    subst hm
    rw [List.append_nil] at e
    subst e
    exact ha⟩
  | w :: C, acc, l => by
    show l ∈ C.foldl grow (grow acc w) ↔ _
    rw [mem_foldl C]
    refine ⟨fun ⟨a, ha, m, hm, e⟩ => ?_, fun ⟨a, ha, m, hm, e⟩ => ?_⟩
    · rcases List.mem_append.mp ha with q | q
      · exact ⟨a, q, m, .cons _ hm, e⟩
      · obtain ⟨b, hb, rfl⟩ := List.mem_map.mp q
        exact ⟨b, hb, w :: m, hm.cons_cons _, by rw [e, List.append_assoc]; rfl⟩
    · cases hm with
      | cons _ hm => exact ⟨a, List.mem_append_left _ ha, m, hm, e⟩
      | cons_cons _ hm => exact ⟨a ++ [w], List.mem_append_right _ (List.mem_map.mpr ⟨a, ha, rfl⟩), _, hm, by rw [e, List.append_assoc]; rfl⟩
theorem mem_allLots' {C : List Str} {l : Lot} : l ∈ allLots C ↔ l.Sublist C := by
  unfold allLots
  rw [mem_foldl]
  exact ⟨fun ⟨a, ha, m, hm, e⟩ => by rw [List.mem_singleton] at ha; subst ha; rw [e]; exact hm, fun h => ⟨[], List.mem_singleton.mpr rfl, l, h, rfl⟩⟩
theorem filter_sub : ∀ (a l : List Str), a.Nodup → l.Sublist a → a.filter (fun x => decide (x ∈ l)) = l
  | [], l, _, h => by
    rw [List.sublist_nil] at h
    subst h
    rfl
  | x :: a, l, hn, h => by
    obtain ⟨n1, n2⟩ := List.nodup_cons.mp hn
    cases h with
    | cons _ h =>
      have hx : x ∉ l := fun q => n1 (h.subset q)
      rw [List.filter_cons_of_neg (by simpa using hx)]
      exact filter_sub a l n2 h
    | cons_cons _ h =>
      rename_i l
      rw [List.filter_cons_of_pos (by simp)]
      congr 1
      have e := filter_sub a l n2 h
      refine Eq.trans (List.filter_congr fun y hy => ?_) e
      have hyx : y ≠ x := fun q => n1 (q ▸ hy)
      simp [hyx]
theorem lot_sub_alpha {C : Lot} (h : IsLot C) : C.Sublist alpha := by
  rw [← h]
  exact List.filter_sublist
theorem filter_mono {p q : Str → Bool} : ∀ (l : List Str), (∀ x, p x = true → q x = true) → (l.filter p).Sublist (l.filter q)
  | [], _ => .refl _
  | x :: l, h => by
    by_cases hp : p x = true
    · rw [List.filter_cons_of_pos hp, List.filter_cons_of_pos (h x hp)]
      exact (filter_mono l h).cons_cons _
    · rw [List.filter_cons_of_neg hp]
      by_cases hq : q x = true
      · rw [List.filter_cons_of_pos hq]
        exact (filter_mono l h).cons _
      · rw [List.filter_cons_of_neg hq]
        exact filter_mono l h
theorem mem_allLots {C l : Lot} (hC : IsLot C) : l ∈ allLots C ↔ InC C l := by
  rw [mem_allLots']
  refine ⟨fun h => ⟨filter_sub alpha l alpha_nd (h.trans (lot_sub_alpha hC)), fun x hx => h.subset hx⟩, fun h => ?_⟩
  rw [← h.lot, ← hC]
  unfold srt
  refine filter_mono _ fun x hx => ?_
  rw [decide_eq_true_eq] at hx ⊢
  exact h.sub x hx
def lots (C : Lot) : List Lot := (allLots C).mergeSort (dataLe false dS)
theorem mem_lots {C l : Lot} (hC : IsLot C) : l ∈ lots C ↔ InC C l := by
  unfold lots
  rw [(List.mergeSort_perm _ _).mem_iff]
  exact mem_allLots hC
theorem lots_len (C : Lot) : (lots C).length = 2 ^ C.length := by
  unfold lots
  rw [List.length_mergeSort, allLots_len]
theorem alike_strs : ∀ a b : List Str, alikeAll (a.map .str) (b.map .str) = true
  | [], _ => by simp [alikeAll]
  | _ :: _, [] => by simp [alikeAll]
  | x :: a, y :: b => by simp [alikeAll, alike, alike_strs a b]
theorem alike_dS (l m : Lot) : alike (dS l) (dS m) = true := by
  show alike (.tuple _) (.tuple _) = true
  simp only [alike]
  exact alike_strs l m
theorem depth_strs : ∀ l : List Str, PyData.depthAll (l.map .str) = 0
  | [] => rfl
  | x :: l => by
    rw [List.map_cons, PyData.depthAll, depth_strs l]
    rfl
theorem depth_dS (l : Lot) : (dS l).depth ≤ 1 := by
  unfold dS
  rw [PyData.depth, depth_strs]
  exact Nat.le_refl 1
section
variable {X : Cx} {ds : DS} {e : Expr} {pos p : Pos} {j : Nat} {C : Lot}
theorem Ed.sortLots (hr : Room j X.A) (B : Bi X.mg) (h : Ed X e ds (dLots (allLots C))) (hg : Gl X "sorted" := by rfl)
    (he : starEach (e :: []) X.env = (false, eval e X.env) :: starEach [] X.env := by rfl) (hpl : (backTo pos (starEach [] X.env)).any (·.1) = false := by rfl) : Ed X (.Call (.Name "sorted" p) [e] [] pos) ds (dLots (lots C)) := by
  refine Ed.sortL (enc := dS) hr B.sorted h (fun a ha b hb => ?_) (.inr ⟨fun d hd => ?_, ?_⟩) (fun d hd => ?_) hg he hpl
  · obtain ⟨x, _, rfl⟩ := List.mem_map.mp ha
    obtain ⟨y, _, rfl⟩ := List.mem_map.mp hb
    exact alike_dS x y
  · obtain ⟨x, _, rfl⟩ := List.mem_map.mp hd
    exact ⟨_, rfl⟩
  · obtain ⟨r, e⟩ := allLots_head C
    rw [e]
    exact ⟨_, rfl⟩
  · obtain ⟨x, _, rfl⟩ := List.mem_map.mp hd
    exact Nat.le_trans (depth_dS x) (by omega)
end
theorem allLots_take {C : List Str} {i : Nat} {w : Str} (h : C[i]? = some w) : allLots (C.take (i + 1)) = grow (allLots (C.take i)) w := by
  unfold allLots
  rw [List.take_succ, h]
  show List.foldl grow [[]] (C.take i ++ [w]) = _
  rw [List.foldl_append]
  rfl
theorem take_pow {C : List Str} (h : C.length ≤ 6) (i : Nat) : (allLots (C.take i)).length ≤ 64 := by
  rw [allLots_len]
  have h1 : (C.take i).length ≤ 6 := by
    rw [List.length_take]
    omega
  exact Nat.pow_le_pow_right (by omega) h1
section
variable {P : Program} {w : World} {K : PySem.W.Frag} {mg : Str → Option Value} {base : Heap} {k : Nat}
/-- lots_in, _law_lots -/
def R_lots : List PyData → PyData → Prop := fun as d => ∃ C : Lot, as = [dS C] ∧ C.length ≤ 6 ∧ d = dLots (lots C)
theorem c_lots (D : Df K mg "lots_in" s_lots_in ["columns"]) (B : Bi mg) : Callee P w K mg base "lots_in" (k + 1) R_lots := callee_df D sc_lots_in (fun as d h => by obtain ⟨_, rfl, _⟩ := h; rfl) fun cdv f A outer s H E hr as d h => by
  obtain ⟨C, rfl, h1, rfl⟩ := h
  refine Sd.set (i := 1) (Ed.lst (.cons (.tup .nil (by decide)) .nil) (by show 1 ≤ 100000; omega)) ?_ sc_lots_in.nd
  refine Sd.for_ (.tup (vr 0 rfl)) (fun i ds' => ∃ a b, ds' = [some (dS C), some (dLots (allLots (C.take i))), a, b]) ⟨_, _, rfl⟩ (fun i x ds' hx hI => ?_) fun ds' hI => ?_
  · obtain ⟨a, b, rfl⟩ := hI
    rw [List.getElem?_map] at hx
    cases hw : C[i]? with
    | none => rw [hw] at hx; cases hx
    | some wd =>
      rw [hw] at hx
      cases hx
      refine ⟨_, _, .name (i := 2) sc_lots_in.nd, ?_⟩
      refine Sd.set (i := 1) (d := dLots (allLots (C.take (i + 1)))) (Ed.is (Ed.op op_cat (vr 1 rfl) (.lc (ts := allLots (C.take i)) (enc := dS) (y := fun l => dS (l ++ [wd])) (b := fun _ => true) (own := [("lot", 3)])
        ⟨blkOk_by (N := ["columns", "found", "word", "lot"]) (sc := defScope s_lots_in) (by decide +kernel), ⟨[3], fun c => _, by simp, fun s H C' cl fp l hl => ⟨.name sc_lots_in.nd, .nil, fun _ => Ed.is (.op op_catA (vr 3 rfl) (.tup (.cons (vr 2 rfl) .nil) (Nat.le_add_left 1 99999)) (rd_catT ?_)) (by rw [dS, List.map_append]; rfl)⟩⟩, fun c _ _ => noL_S _, by have := take_pow h1 i; omega⟩ (.list (vr 1 rfl)) sc_lots_in.nd) (rd_catL ?_)) ?_) ?_ sc_lots_in.nd
      · rw [List.length_map]
        have h2 : l.length ≤ (C.take i).length := (mem_allLots'.mp hl).length_le
        rw [List.length_take] at h2
        show l.length + 1 ≤ 100000
        omega
      · rw [filter_tt, List.length_map, List.length_map]
        have := take_pow h1 i
        omega
      · rw [filter_tt, allLots_take hw, grow, dLots, List.map_append, List.map_map]
        rfl
      · exact Sd.nil ⟨_, _, rfl⟩
  · obtain ⟨a, b, rfl⟩ := hI
    have e : C.take (C.map PyData.str).length = C := by
      rw [List.length_map]
      exact List.take_length
    rw [e]
    exact Sd.ret (.sortLots hr B (vr 1 rfl)) rfl
theorem c_lawLots (D : Df K mg "_law_lots" s_law_lots ["_law_columns"]) (B : Bi mg) : Callee P w K mg base "_law_lots" (k + 1) R_lots := callee_df D sc_law_lots (fun as d h => by obtain ⟨_, rfl, _⟩ := h; rfl) fun cdv f A outer s H E hr as d h => by
  obtain ⟨C, rfl, h1, rfl⟩ := h
  refine Sd.set (i := 1) (Ed.lst (.cons (.tup .nil (by decide)) .nil) (by show 1 ≤ 100000; omega)) ?_ sc_law_lots.nd
  refine Sd.for_ (.tup (vr 0 rfl)) (fun i ds' => ∃ a b, ds' = [some (dS C), some (dLots (allLots (C.take i))), a, b]) ⟨_, _, rfl⟩ (fun i x ds' hx hI => ?_) fun ds' hI => ?_
  · obtain ⟨a, b, rfl⟩ := hI
    rw [List.getElem?_map] at hx
    cases hw : C[i]? with
    | none => rw [hw] at hx; cases hx
    | some wd =>
      rw [hw] at hx
      cases hx
      refine ⟨_, _, .name (i := 2) sc_law_lots.nd, ?_⟩
      refine Sd.set (i := 1) (d := dLots (allLots (C.take (i + 1)))) (Ed.is (Ed.op op_cat (vr 1 rfl) (.lc (ts := allLots (C.take i)) (enc := dS) (y := fun l => dS (l ++ [wd])) (b := fun _ => true) (own := [("_law_lot", 3)])
        ⟨blkOk_by (N := ["_law_columns", "_law_found", "_law_word", "_law_lot"]) (sc := defScope s_law_lots) (by decide +kernel), ⟨[3], fun c => _, by simp, fun s H C' cl fp l hl => ⟨.name sc_law_lots.nd, .nil, fun _ => Ed.is (.op op_catA (vr 3 rfl) (.tup (.cons (vr 2 rfl) .nil) (Nat.le_add_left 1 99999)) (rd_catT ?_)) (by rw [dS, List.map_append]; rfl)⟩⟩, fun c _ _ => noL_S _, by have := take_pow h1 i; omega⟩ (.list (vr 1 rfl)) sc_law_lots.nd) (rd_catL ?_)) ?_) ?_ sc_law_lots.nd
      · rw [List.length_map]
        have h2 : l.length ≤ (C.take i).length := (mem_allLots'.mp hl).length_le
        rw [List.length_take] at h2
        show l.length + 1 ≤ 100000
        omega
      · rw [filter_tt, List.length_map, List.length_map]
        have := take_pow h1 i
        omega
      · rw [filter_tt, allLots_take hw, grow, dLots, List.map_append, List.map_map]
        rfl
      · exact Sd.nil ⟨_, _, rfl⟩
  · obtain ⟨a, b, rfl⟩ := hI
    have e : C.take (C.map PyData.str).length = C := by
      rw [List.length_map]
      exact List.take_length
    rw [e]
    exact Sd.ret (.sortLots hr B (vr 1 rfl)) rfl
/-- two_rows -/
def zerosD (C : List Str) : List Int := C.map fun _ => 0
def onesD (C L : List Str) : List Int := C.map fun x => if x ∈ L then 0 else 1
def R_two : List PyData → PyData → Prop := fun as d => ∃ C L : List Str, as = [dS C, dS L] ∧ C.length ≤ 7 ∧ d = dRows [zerosD C, onesD C L]
theorem c_two (D : Df K mg "two_rows" s_two_rows ["columns", "lot"]) (B : Bi mg) : Callee P w K mg base "two_rows" (k + 1) R_two := callee_df D sc_two_rows (fun as d h => by obtain ⟨_, _, rfl, _⟩ := h; rfl) fun cdv f A outer s H E hr as d h => by
  obtain ⟨C, L, rfl, h1, rfl⟩ := h
  refine Sd.ret (.tup (.cons (.callTy call_tuple_of B.tuple (.cons (.lc (ts := C) (enc := .str) (y := fun l => .int 0) (b := fun _ => true) (own := [("word", 2)])
        ⟨blkOk_by (N := ["columns", "lot", "word"]) (sc := defScope s_two_rows) (by decide +kernel), ⟨[2], fun c => _, by simp, fun s H C' cl fp l hl => ⟨.name sc_two_rows.nd, .nil, fun _ => .int⟩⟩, fun c _ _ => noL_int _, by omega⟩ (.tup (vr 0 rfl)) sc_two_rows.nd) .nil) rc_tuple)
      (.cons (.callTy call_tuple_of B.tuple (.cons (.lc (ts := C) (enc := .str) (y := fun x => .int (if x ∈ L then 0 else 1)) (b := fun _ => true) (own := [("word", 2)])
        ⟨blkOk_by (N := ["columns", "lot", "word"]) (sc := defScope s_two_rows) (by decide +kernel), ⟨[2], fun c => _, by simp, fun s H C' cl fp l hl => ⟨.name sc_two_rows.nd, .nil, fun _ => .ifE (.cmp op_in_seq (vr 2 rfl) (vr 1 rfl) (rd_inS rfl)) (fun e => Ed.is .int ?_) (fun e => Ed.is .int ?_)⟩⟩, fun c _ _ => noL_int _, by omega⟩ (.tup (vr 0 rfl)) sc_two_rows.nd) .nil) rc_tuple) .nil)) (by show 2 ≤ 100000; omega)) ?_
  · rw [if_pos (of_decide_eq_true e)]
  · rw [if_neg (of_decide_eq_false e)]
  · show PyData.tuple _ = dRows _
    have e0 : C.filter (fun _ => true) = C := filter_tt C
    unfold zerosD onesD dRows dRow
    simp only [List.map_cons, List.map_nil, List.map_map]
    have e1 : List.map (fun _ => PyData.int 0) (C.filter fun _ => true) = C.map (PyData.int ∘ fun _ => 0) := by rw [e0]; rfl
    have e2 : List.map (fun x => PyData.int (if x ∈ L then 0 else 1)) (C.filter fun _ => true) = C.map (PyData.int ∘ fun x => if x ∈ L then 0 else 1) := by rw [e0]; rfl
    exact congrArg PyData.tuple (congr (congrArg List.cons (congrArg PyData.tuple e1)) (congrArg (fun z => [PyData.tuple z]) e2))
end
end Pb

set_option Elab.async false
set_option linter.all false
set_option maxRecDepth 100000
set_option maxHeartbeats 1000000
namespace Pb
open PySem PySem.Spec PyProof.Rows L2 PySem.W PySem.SeqAt
open Evl (Ex)
/-! ### telling -/
def dep (D : List Dep) (i : Nat) : Dep := D.getD i ([], "")
theorem dep_at {D : List Dep} {i : Nat} {p : Dep} (h : D[i]? = some p) : dep D i = p := by
  unfold dep
  rw [List.getD_eq_getElem?_getD, h]
  rfl
def candP (D : List Dep) (known : List Str) (found : List Nat) (i : Nat) : Bool := !decide (i ∈ found) && sbB (dep D i).1 known
def cand (D : List Dep) (known : List Str) (found : List Nat) : List Nat := (List.range D.length).filter (candP D known found)
def tell (D : List Dep) (c : Str) : Nat → List Str → List Nat → Option (List Nat)
  | 0, known, found => if c ∈ known then some found else none
  | n + 1, known, found => if c ∈ known then some found else match cand D known found with
    | [] => none
    | i :: _ => tell D c n (known ++ [(dep D i).2]) (found ++ [i])
def dN (l : List Nat) : PyData := dRow (l.map Int.ofNat)
def tellD : Option (List Nat) → PyData
  | none => .none
  | some f => dN f
theorem mem_ofNat {i : Nat} {l : List Nat} : ((i : Nat) : Int) ∈ l.map Int.ofNat ↔ i ∈ l := by
  rw [List.mem_map]
  refine ⟨fun ⟨j, h1, h2⟩ => ?_, fun h => ⟨i, h, rfl⟩⟩
  have e : j = i := by injection h2
  exact e ▸ h1
theorem cand_lt {D : List Dep} {known : List Str} {found : List Nat} {i : Nat} (h : i ∈ cand D known found) : i < D.length ∧ i ∉ found ∧ Sb (dep D i).1 known := by
  obtain ⟨h1, h2⟩ := List.mem_filter.mp h
  unfold candP at h2
  rw [Bool.and_eq_true, Bool.not_eq_true', decide_eq_false_iff_not] at h2
  exact ⟨List.mem_range.mp h1, h2.1, sbB_iff.mp h2.2⟩
theorem nat_few {n : Nat} {l : List Nat} (h : l.Nodup) (hl : ∀ i ∈ l, i < n) : l.length ≤ n := by
  have h1 : l.Sublist (l) := .refl _
  have key : ∀ (l m : List Nat), l.Nodup → (∀ d ∈ l, d ∈ m) → l.length ≤ m.length := by
    intro l
    induction l with
    | nil => intro m _ _; exact Nat.zero_le _
    | cons y l ih =>
      intro m hn hs
      obtain ⟨u, v, rfl⟩ := List.append_of_mem (hs y List.mem_cons_self)
      obtain ⟨n1, n2⟩ := List.nodup_cons.mp hn
      have h2 := ih (u ++ v) n2 fun z hz => by
        rcases List.mem_append.mp (hs z (List.mem_cons_of_mem _ hz)) with q | q
        · exact List.mem_append_left _ q
        · rcases List.mem_cons.mp q with q | q
          · exact absurd (q ▸ hz) n1
          · exact List.mem_append_right _ q
      rw [List.length_append] at h2
      rw [List.length_append, List.length_cons, List.length_cons]
      omega
  have := key l (List.range n) h fun i hi => List.mem_range.mpr (hl i hi)
  rw [List.length_range] at this
  exact this
/-- the state of the telling -/
structure Tl (D : List Dep) (l : List Str) (m : Nat) (known : List Str) (found : List Nat) : Prop where
  nd : found.Nodup
  lt : ∀ i ∈ found, i < D.length
  len : found.length + m = D.length
  kn : known.length = l.length + found.length
theorem Tl.next {D : List Dep} {l : List Str} {m : Nat} {known : List Str} {found : List Nat} (h : Tl D l m known found) {i : Nat} (hi : i < D.length) (hn : i ∉ found) : ∃ m', m = m' + 1 ∧ Tl D l m' (known ++ [(dep D i).2]) (found ++ [i]) := by
  have nd : (found ++ [i]).Nodup := by
    rw [List.nodup_append]
    refine ⟨h.nd, List.nodup_cons.mpr ⟨by simp, List.nodup_nil⟩, fun a ha b hb e => ?_⟩
    rw [List.mem_singleton] at hb
    subst e hb
    exact hn ha
  have lt : ∀ j ∈ found ++ [i], j < D.length := fun j hj => by
    rcases List.mem_append.mp hj with q | q
    · exact h.lt j q
    · rw [List.mem_singleton] at q
      rw [q]
      exact hi
  have e := nat_few nd lt
  have hl := h.len
  have hk := h.kn
  rw [List.length_append, List.length_singleton] at e
  refine ⟨m - 1, by omega, nd, lt, ?_, ?_⟩
  · rw [List.length_append, List.length_singleton]
    omega
  · rw [List.length_append, List.length_append, List.length_singleton, List.length_singleton]
    omega
theorem tell_in {D : List Dep} {c : Str} {known : List Str} {found : List Nat} (h : c ∈ known) : ∀ m, tell D c m known found = some found
  | 0 => by rw [tell, if_pos h]
  | m + 1 => by rw [tell, if_pos h]
theorem tell_no {D : List Dep} {c : Str} {known : List Str} {found : List Nat} (h : c ∉ known) (e : cand D known found = []) : ∀ m, tell D c m known found = none
  | 0 => by rw [tell, if_neg h]
  | m + 1 => by rw [tell, if_neg h, e]
theorem tell_go {D : List Dep} {c : Str} {known : List Str} {found : List Nat} {i : Nat} {r : List Nat} (h : c ∉ known) (e : cand D known found = i :: r) (m : Nat) : tell D c (m + 1) known found = tell D c m (known ++ [(dep D i).2]) (found ++ [i]) := by
  rw [tell, if_neg h, e]
section
variable {P : Program} {w : World} {K : PySem.W.Frag} {mg : Str → Option Value} {base : Heap} {k : Nat}
/-- telling_in -/
def R_tell : List PyData → PyData → Prop := fun as d => ∃ (D : List Dep) (l : List Str) (c : Str), as = [dDeps D, dS l, .str c] ∧ D.length ≤ 8 ∧ l.length ≤ 7 ∧ (∀ p ∈ D, p.1.length ≤ 7) ∧ d = tellD (tell D c D.length l [])
theorem c_tell (D : Df K mg "telling_in" s_telling_in ["dependencies", "lot", "column"]) (B : Bi mg) : Callee P w K mg base "telling_in" (k + 1) R_tell := callee_df D sc_telling_in (fun as d h => by obtain ⟨_, _, _, rfl, _⟩ := h; rfl) fun cdv f A outer s H E hr as d h => by
  obtain ⟨D, l, c, rfl, h1, h2, h3, rfl⟩ := h
  refine Sd.asg (.tup (.cons (vr 1 rfl) (.cons (.tup .nil (by decide)) .nil)) (by show 2 ≤ 100000; omega)) (.two (i := 3) (j := 4) rfl sc_telling_in.nd) ?_
  refine Sd.while_ (fun m ds' => ∃ known found s a it wd, ds' = [some (dDeps D), some (dS l), some (.str c), some (dS known), some (dN found), s, a, it, wd] ∧ Tl D l m known found ∧ tell D c m known found = tell D c D.length l []) D.length
    ⟨l, [], _, _, _, _, rfl, ⟨List.nodup_nil, fun i hi => (by cases hi), (by simp), (by simp)⟩, rfl⟩ fun m ds' hI => ?_
  obtain ⟨known, found, sm, a, it, wd, rfl, i1, i2⟩ := hI
  have hfl := nat_few i1.nd i1.lt
  have hkn := i1.kn
  refine ⟨!decide (c ∈ known), .cmp op_notIn_seq (vr 2 rfl) (vr 3 rfl) (rd_inS rfl), fun hp => ?_, fun hp => ?_⟩
  · have hck : c ∉ known := by simpa using hp
    refine Sd.set (i := 5) (.lst .nil (by decide)) ?_ sc_telling_in.nd
    refine Sd.for_ (.enumT B.enum (vr 0 rfl)) (fun i ds' => ∃ a it wd, ds' = [some (dDeps D), some (dS l), some (.str c), some (dS known), some (dN found), some (.list (((List.range i).filter (candP D known found)).map fun (j : Nat) => .int j)), a, it, wd]) ⟨_, _, _, rfl⟩ (fun i x ds' hx hI => ?_) fun ds' hI => ?_
    · obtain ⟨a, it, wd, rfl⟩ := hI
      rw [numbered_get, List.getElem?_map] at hx
      cases hri : D[i]? with
      | none => rw [hri] at hx; cases hx
      | some p =>
        rw [hri] at hx
        cases hx
        rw [Nat.zero_add]
        have hil : i < D.length := (List.getElem?_eq_some_iff.mp hri).1
        have hpm : p ∈ D := List.mem_of_getElem? hri
        have hdp := dep_at hri
        refine ⟨_, _, .two (i := 6) (j := 7) rfl sc_telling_in.nd, ?_⟩
        refine Sd.if_ (p := candP D known found i) (Et.is (Ew.t (.and (.cmp op_notIn_seq (vr 6 rfl) (vr 4 rfl) (rd_inI rfl)) fun _ => .and1 (.val (Ed.is (.callB (cr_all rfl) B.all (.cons (Ed.is (.lc (ts := p.1) (enc := .str) (y := fun x => .bool (decide (x ∈ known))) (b := fun _ => true) (own := [("word", 8)])
          ⟨blkOk_by (N := ["dependencies", "lot", "column", "known", "found", "some", "at", "item", "word"]) (sc := defScope s_telling_in) (by decide +kernel), ⟨[8], fun c => _, by simp, fun s H C' cl fp x hx => ⟨.name sc_telling_in.nd, .nil, fun _ => .cmp op_in_seq (vr 8 rfl) (vr 3 rfl) (rd_inS rfl)⟩⟩, fun c _ _ => noL_bool _, by have := h3 p hpm; omega⟩ (.tup (.ix ix_tup (vr 7 rfl) .int (rd_ixT (i := 0) rfl))) sc_telling_in.nd) ?_) .nil) (rc_all (bs := p.1.map fun x => decide (x ∈ known)))) rfl)))) ?_) (fun hc => ?_) (fun hc => ?_)
        · rw [filter_tt, dBs, List.map_map]
          rfl
        · have e1 : (p.1.map fun x => decide (x ∈ known)).all (fun b => b) = sbB p.1 known := by
            rw [List.all_map]
            rfl
          rw [e1]
          unfold candP
          rw [hdp, decide_eq_decide.mpr (mem_ofNat (i := i) (l := found))]
          rfl
        · refine Sd.set (i := 5) (Ed.op op_cat (vr 5 rfl) (.lst (.cons (vr 6 rfl) .nil) (Nat.le_add_left 1 99999)) (rd_catL ?_)) (Sd.nil (Sd.nil ⟨some (.int (i : Nat)), some (dDep p), wd, ?_⟩)) sc_telling_in.nd
          · rw [List.length_map]
            have := List.length_filter_le (candP D known found) (List.range i)
            rw [List.length_range] at this
            show _ + 1 ≤ 100000
            omega
          · rw [List.range_succ, List.filter_append, List.filter_cons_of_pos hc, List.filter_nil, List.map_append]
            rfl
        · refine Sd.nil (Sd.nil ⟨some (.int (i : Nat)), some (dDep p), wd, ?_⟩)
          rw [List.range_succ, List.filter_append, List.filter_cons_of_neg (by rw [hc]; decide), List.filter_nil, List.append_nil]
          rfl
    · obtain ⟨a, it, wd, rfl⟩ := hI
      rw [numbered_len, List.length_map]
      show Sd _ _ [_, _, _, _, _, some (.list ((cand D known found).map fun (j : Nat) => .int j)), _, _, _] _
      have hsh : SeqAt.shaped (.list ((cand D known found).map fun (j : Nat) => PyData.int j)) = true := (Sh.lst fun d hd => by
        obtain ⟨j, _, rfl⟩ := List.mem_map.mp hd
        exact Sh.int j : Sh 1 _).ok (by omega)
      cases hcd : cand D known found with
      | nil =>
        refine Sd.if_ (p := true) (.cmp (op_eqD hr.units) (vr 5 rfl) (.lst .nil (by decide)) (rd_eqD (by decide +kernel) (by decide +kernel) (by decide +kernel))) (fun _ => Sd.ret .non ?_) (fun h => by cases h)
        rw [← i2, tell_no hck hcd]
        rfl
      | cons i r =>
        rw [hcd] at hsh
        obtain ⟨hi1, hi2, hi3⟩ := cand_lt (i := i) (by rw [hcd]; exact List.mem_cons_self)
        obtain ⟨m', rfl, T⟩ := i1.next hi1 hi2
        refine Sd.skip (.cmp (op_eqD hr.units) (vr 5 rfl) (.lst .nil (by decide)) (rd_eqD hsh (by decide +kernel) (by rw [eqv_lst]; rfl))) ?_
        have hdi : D[i]? = some (dep D i) := by
          unfold dep
          rw [List.getD_eq_getElem?_getD, List.getElem?_eq_getElem hi1]
          rfl
        refine Sd.asg (.tup (.cons (.op op_catA (vr 4 rfl) (.tup (.cons (.ix ix_list (vr 5 rfl) .int (rd_ixL (i := 0) rfl)) .nil) (Nat.le_add_left 1 99999)) (rd_catT ?_)) (.cons (.op op_catA (vr 3 rfl) (.tup (.cons (.ix ix_tup (.ix ix_tup (vr 0 rfl) (.ix ix_list (vr 5 rfl) .int (rd_ixL (i := 0) rfl)) (rd_ixT (i := i) (d := dDep (dep D i)) ?_)) .int (rd_ixT (i := 1) rfl)) .nil) (Nat.le_add_left 1 99999)) (rd_catT ?_)) .nil)) (by show 2 ≤ 100000; omega)) (.two (i := 4) (j := 3) rfl sc_telling_in.nd) (Sd.nil ?_)
        · rw [List.length_map, List.length_map]
          show _ + 1 ≤ 100000
          omega
        · rw [List.getElem?_map, hdi]
          rfl
        · rw [List.length_map]
          show _ + 1 ≤ 100000
          omega
        · refine ⟨m', by omega, known ++ [(dep D i).2], found ++ [i], some (.list ((i :: r).map fun (j : Nat) => .int j)), a, it, wd, ?_, T, (tell_go hck hcd m').symm.trans i2⟩
          have ek : dS (known ++ [(dep D i).2]) = .tuple (known.map .str ++ [.str (dep D i).2]) := by rw [dS, List.map_append]; rfl
          have ef : dN (found ++ [i]) = .tuple ((found.map Int.ofNat).map .int ++ [.int (i : Nat)]) := by rw [dN, dRow, List.map_append, List.map_append]; rfl
          rw [ek, ef]
          rfl
  · have hck : c ∈ known := by simpa using hp
    refine Sd.ret (vr 4 rfl) ?_
    rw [← i2, tell_in hck]
    rfl
end
end Pb

set_option Elab.async false
set_option linter.all false
set_option maxRecDepth 100000
set_option maxHeartbeats 1000000
namespace Pb
open PySem PySem.Spec PyProof.Rows L2 PySem.W PySem.SeqAt
open Evl (Ex)
/-! ### the closure -/
def closedB (D : List Dep) (m : List Str) : Bool := D.all fun p => !sbB p.1 m || decide (p.2 ∈ m)
theorem closedB_iff {D : List Dep} {m : List Str} : closedB D m = true ↔ Closed D m := by
  unfold closedB Closed
  rw [List.all_eq_true]
  refine forall_congr' fun p => forall_congr' fun _ => ?_
  cases hs : sbB p.1 m with
  | true =>
    have := sbB_iff.mp hs
    simp [this]
  | false =>
    have : ¬ Sb p.1 m := fun q => by rw [sbB_iff.mpr q] at hs; cases hs
    simp [this]
def clo (D : List Dep) (l : List Str) : Lot := alpha.filter fun x => (allLots alpha).all fun m => !(closedB D m && sbB l m) || decide (x ∈ m)
theorem lot_filter (p : Str → Bool) : IsLot (alpha.filter p) := filter_sub alpha _ alpha_nd List.filter_sublist
theorem lot_alpha {l : Lot} : IsLot l → l ∈ allLots alpha := fun h => mem_allLots'.mpr (lot_sub_alpha h)
theorem mem_clo {D : List Dep} {l : List Str} {x : Str} : x ∈ clo D l ↔ x ∈ alpha ∧ ∀ m, IsLot m → Closed D m → Sb l m → x ∈ m := by
  unfold clo
  rw [List.mem_filter, List.all_eq_true]
  refine and_congr_right fun _ => ⟨fun h m h1 h2 h3 => ?_, fun h m hm => ?_⟩
  · have := h m (lot_alpha h1)
    rw [closedB_iff.mpr h2, sbB_iff.mpr h3] at this
    simpa using this
  · cases hc : closedB D m && sbB l m with
    | false => rfl
    | true =>
      rw [Bool.and_eq_true] at hc
      have h1 : IsLot m := filter_sub alpha m alpha_nd (mem_allLots'.mp hm)
      have := h m h1 (closedB_iff.mp hc.1) (sbB_iff.mp hc.2)
      simp [this]
theorem clo_least {D : List Dep} {l : Lot} (hl : IsLot l) (hD : ∀ p ∈ D, p.2 ∈ alpha) : Least D l (clo D l) where
  lot := lot_filter _
  up := fun x hx => mem_clo.mpr ⟨hl.al x hx, fun m _ _ h => h x hx⟩
  cl := fun p hp hs => mem_clo.mpr ⟨hD p hp, fun m h1 h2 h3 => h2 p hp fun x hx => (mem_clo.mp (hs x hx)).2 m h1 h2 h3⟩
  le := fun m h1 h2 h3 x hx => (mem_clo.mp hx).2 m h1 h2 h3
theorem Frm.al {C : Lot} {D : List Dep} (h : Frm C D) : ∀ p ∈ D, p.2 ∈ alpha ∧ p.1.length ≤ 7 := fun p hp => ⟨h.lot.al _ (h.ok p hp).2.1, (h.ok p hp).1.lot.len⟩
theorem Frm.clo {C : Lot} {D : List Dep} (h : Frm C D) {l : Lot} (hl : IsLot l) : Least D l (clo D l) := clo_least hl fun p hp => (h.al p hp).1
theorem clo_fix {C : Lot} {D : List Dep} (h : Frm C D) {l : Lot} (hl : IsLot l) : Pb.clo D l = l ↔ Closed D l := by
  have L := h.clo hl
  refine ⟨fun e => ?_, fun hc => ?_⟩
  · have := L.cl
    rw [e] at this
    exact this
  · exact L.lot.ext hl fun x => ⟨L.le l hl hc (fun y hy => hy) x, L.up x⟩
section
variable {P : Program} {w : World} {K : PySem.W.Frag} {mg : Str → Option Value} {base : Heap} {k : Nat}
def R_needF : List PyData → PyData → Prop := fun as d => ∃ C D, as = [dF C D] ∧ Frm C D ∧ d = .none
theorem c_needF (D : Df K mg "need_frame" s_need_frame ["value"]) (C1 : Callee P w K mg base "fits_frame" k R_frame) : Callee P w K mg base "need_frame" (k + 1) R_needF := callee_df D sc_need_frame (fun as d h => by obtain ⟨_, _, rfl, _⟩ := h; rfl) fun cdv f A outer s H E hr as d h => by
  obtain ⟨C, D, rfl, h, rfl⟩ := h
  exact Sd.skip (Et.is (.not (.val (.call C1 hr (Nat.le_refl _) (.cons (vr 0 rfl) .nil) ⟨C, D, rfl, h, rfl⟩))) rfl) (Sd.nil rfl)
def R_needL : List PyData → PyData → Prop := fun as d => ∃ C D l, as = [dF C D, dS l] ∧ C.length ≤ 5 ∧ InC C l ∧ d = .none
theorem c_needL (D : Df K mg "need_lot" s_need_lot ["frame", "value"]) (C1 : Callee P w K mg base "fits_lot" k R_fitsLot) : Callee P w K mg base "need_lot" (k + 1) R_needL := callee_df D sc_need_lot (fun as d h => by obtain ⟨_, _, _, rfl, _⟩ := h; rfl) fun cdv f A outer s H E hr as d h => by
  obtain ⟨C, D, l, rfl, h1, h2, rfl⟩ := h
  have := sub_len h2
  exact Sd.skip (Et.is (.not (.val (.call C1 hr (Nat.le_refl _) (.cons (.ix ix_tup (vr 0 rfl) .int (rd_ixT (i := 0) rfl)) (.cons (vr 1 rfl) .nil)) ⟨C, l, rfl, h2, by omega, rfl⟩))) rfl) (Sd.nil rfl)
def R_needC : List PyData → PyData → Prop := fun as d => ∃ C D c, as = [dF C D, .str c] ∧ IsLot C ∧ c ∈ C ∧ d = .none
theorem c_needC (D : Df K mg "need_column" s_need_column ["frame", "value"]) (C1 : Callee P w K mg base "fits_word" k R_word) : Callee P w K mg base "need_column" (k + 1) R_needC := callee_df D sc_need_column (fun as d h => by obtain ⟨_, _, _, rfl, _⟩ := h; rfl) fun cdv f A outer s H E hr as d h => by
  obtain ⟨C, D, c, rfl, h1, h2, rfl⟩ := h
  exact Sd.skip (Et.is (Ew.t (.or (.not (.val (.call C1 hr (Nat.le_refl _) (.cons (vr 1 rfl) .nil) ⟨c, rfl, h1.al c h2, rfl⟩))) fun _ => .or1 (.cmp op_notIn_seq (vr 1 rfl) (.ix ix_tup (vr 0 rfl) .int (rd_ixT (i := 0) rfl)) (rd_inS (by rw [decide_eq_true h2]; rfl))))) rfl) (Sd.nil rfl)
theorem c_isFrame (D : Df K mg "is_frame" s_is_frame ["value"]) (C1 : Callee P w K mg base "fits_frame" k R_frame) : Callee P w K mg base "is_frame" (k + 1) R_frame := callee_df D sc_is_frame (fun as d h => by obtain ⟨_, _, rfl, _⟩ := h; rfl) fun cdv f A outer s H E hr as d h => by
  obtain ⟨C, D, rfl, h, rfl⟩ := h
  exact Sd.ret (.call C1 hr (Nat.le_refl _) (.cons (vr 0 rfl) .nil) ⟨C, D, rfl, h, rfl⟩) rfl
def R_isSheet : List PyData → PyData → Prop := fun as d => ∃ C D rs, as = [dF C D, dRows rs] ∧ Frm C D ∧ RowsOk C.length rs ∧ Keeps C D rs ∧ d = .bool true
theorem c_isSheet {t1 : Tok} (D : Df K mg "is_sheet" s_is_sheet ["frame", "value"]) (g1 : mg "ROWS" = some (.int 12 t1)) (C1 : Callee P w K mg base "need_frame" k R_needF) (C2 : Callee P w K mg base "fits_sheet" k R_fitsSheet) : Callee P w K mg base "is_sheet" (k + 1) R_isSheet := callee_df D sc_is_sheet (fun as d h => by obtain ⟨_, _, _, rfl, _⟩ := h; rfl) fun cdv f A outer s H E hr as d h => by
  obtain ⟨C, D, rs, rfl, h1, h2, h3, rfl⟩ := h
  have := h1.few
  have := h2.few
  exact Sd.expr (.call C1 hr (Nat.le_refl _) (.cons (vr 0 rfl) .nil) ⟨C, D, rfl, h1, rfl⟩) (Sd.ret (.call C2 hr (Nat.le_refl _) (.cons (vr 0 rfl) (.cons (vr 1 rfl) (.cons (.globI g1) .nil))) ⟨C, D, rs, 12, rfl, by omega, h2, by omega, h3, rfl⟩) rfl)
def R_cloOf : List PyData → PyData → Prop := fun as d => ∃ C D l, as = [dF C D, dS l] ∧ Frm C D ∧ InC C l ∧ d = dS (clo D l)
theorem c_cloOf (D : Df K mg "closure_of" s_closure_of ["frame", "lot"]) (C1 : Callee P w K mg base "need_frame" k R_needF) (C2 : Callee P w K mg base "need_lot" k R_needL) (C3 : Callee P w K mg base "closure_in" k R_clo) : Callee P w K mg base "closure_of" (k + 1) R_cloOf := callee_df D sc_closure_of (fun as d h => by obtain ⟨_, _, _, rfl, _⟩ := h; rfl) fun cdv f A outer s H E hr as d h => by
  obtain ⟨C, D, l, rfl, h1, h2, rfl⟩ := h
  have := h1.deps
  exact Sd.expr (.call C1 hr (Nat.le_refl _) (.cons (vr 0 rfl) .nil) ⟨C, D, rfl, h1, rfl⟩) (Sd.expr (.call C2 hr (Nat.le_refl _) (.cons (vr 0 rfl) (.cons (vr 1 rfl) .nil)) ⟨C, D, l, rfl, h1.few, h2, rfl⟩) (Sd.ret (.call C3 hr (Nat.le_refl _) (.cons (.ix ix_tup (vr 0 rfl) .int (rd_ixT (i := 1) rfl)) (.cons (vr 1 rfl) .nil)) ⟨D, l, _, rfl, h2.lot, by omega, h1.al, h1.clo h2.lot, rfl⟩) rfl))
def R_closed : List PyData → PyData → Prop := fun as d => ∃ C D, as = [dF C D] ∧ Frm C D ∧ d = dLots ((lots C).filter (closedB D))
theorem few_lots {C : Lot} (h : C.length ≤ 6) : (lots C).length ≤ 64 := by
  rw [lots_len]
  exact Nat.pow_le_pow_right (by omega) h
theorem c_closed (D : Df K mg "closed_lots" s_closed_lots ["frame"]) (B : Bi mg) (C1 : Callee P w K mg base "need_frame" k R_needF) (C2 : Callee P w K mg base "lots_in" k R_lots) (C3 : Callee P w K mg base "closure_in" k R_clo) : Callee P w K mg base "closed_lots" (k + 1) R_closed := callee_df D sc_closed_lots (fun as d h => by obtain ⟨_, _, rfl, _⟩ := h; rfl) fun cdv f A outer s H E hr as d h => by
  obtain ⟨C, D, rfl, h1, rfl⟩ := h
  have hd := h1.deps
  have hc := h1.few
  refine Sd.expr (.call C1 hr (Nat.le_refl _) (.cons (vr 0 rfl) .nil) ⟨C, D, rfl, h1, rfl⟩) (Sd.ret (.lc (ts := lots C) (enc := dS) (y := dS) (b := closedB D) (own := [("lot", 1)])
    ⟨blkOk_by (N := ["frame", "lot"]) (sc := defScope s_closed_lots) (by decide +kernel), ⟨[1], fun c => _, by simp, fun s H C' cl fp l hl => ⟨.name sc_closed_lots.nd, .one (Et.is (.cmp (op_eqD hr.units) (.call C3 hr (Nat.le_refl _) (.cons (.ix ix_tup (vr 0 rfl) .int (rd_ixT (i := 1) rfl)) (.cons (vr 1 rfl) .nil)) ⟨D, l, clo D l, rfl, ((mem_lots h1.lot).mp hl).lot, by omega, h1.al, h1.clo ((mem_lots h1.lot).mp hl).lot, rfl⟩) (vr 1 rfl) (rd_eqD ((sh_S (h1.clo ((mem_lots h1.lot).mp hl).lot).lot.wds).ok (by omega)) ((sh_S ((mem_lots h1.lot).mp hl).lot.wds).ok (by omega)) (eqv_S _ _))) ?_), fun _ => vr 1 rfl⟩⟩, fun c _ _ => noL_S _, ?_⟩ (.list (.call C2 hr (Nat.le_refl _) (.cons (.ix ix_tup (vr 0 rfl) .int (rd_ixT (i := 0) rfl)) .nil) ⟨C, rfl, by omega, rfl⟩)) sc_closed_lots.nd) rfl)
  · cases hb : closedB D l with
    | true => exact decide_eq_true ((clo_fix h1 ((mem_lots h1.lot).mp hl).lot).mpr (closedB_iff.mp hb))
    | false =>
      exact decide_eq_false fun e => by
        rw [closedB_iff.mpr ((clo_fix h1 ((mem_lots h1.lot).mp hl).lot).mp e)] at hb
        cases hb
  · have := few_lots (C := C) (by omega)
    omega
def R_tellRow : List PyData → PyData → Prop := fun as d => ∃ C D l c, as = [dF C D, dS l, .str c] ∧ Frm C D ∧ InC C l ∧ c ∈ C ∧ d = tellD (tell D c D.length l [])
theorem c_tellRow (D : Df K mg "telling_row" s_telling_row ["frame", "lot", "column"]) (C1 : Callee P w K mg base "need_frame" k R_needF) (C2 : Callee P w K mg base "need_lot" k R_needL) (C3 : Callee P w K mg base "need_column" k R_needC) (C4 : Callee P w K mg base "telling_in" k R_tell) : Callee P w K mg base "telling_row" (k + 1) R_tellRow := callee_df D sc_telling_row (fun as d h => by obtain ⟨_, _, _, _, rfl, _⟩ := h; rfl) fun cdv f A outer s H E hr as d h => by
  obtain ⟨C, D, l, c, rfl, h1, h2, h3, rfl⟩ := h
  have := h1.deps
  exact Sd.expr (.call C1 hr (Nat.le_refl _) (.cons (vr 0 rfl) .nil) ⟨C, D, rfl, h1, rfl⟩) (Sd.expr (.call C2 hr (Nat.le_refl _) (.cons (vr 0 rfl) (.cons (vr 1 rfl) .nil)) ⟨C, D, l, rfl, h1.few, h2, rfl⟩) (Sd.expr (.call C3 hr (Nat.le_refl _) (.cons (vr 0 rfl) (.cons (vr 2 rfl) .nil)) ⟨C, D, c, rfl, h1.lot, h3, rfl⟩) (Sd.ret (.call C4 hr (Nat.le_refl _) (.cons (.ix ix_tup (vr 0 rfl) .int (rd_ixT (i := 1) rfl)) (.cons (vr 1 rfl) (.cons (vr 2 rfl) .nil))) ⟨D, l, c, rfl, by omega, h2.lot.len, fun p hp => (h1.al p hp).2, rfl⟩) rfl)))
def sheetD (C : Lot) (D : List Dep) (l : Lot) (c : Str) : PyData := if c ∈ clo D l then .none else dRows [zerosD C, onesD C (clo D l)]
def R_untold : List PyData → PyData → Prop := fun as d => ∃ C D l c, as = [dF C D, dS l, .str c] ∧ Frm C D ∧ InC C l ∧ c ∈ C ∧ d = sheetD C D l c
theorem c_untold (D : Df K mg "untold_sheet" s_untold_sheet ["frame", "lot", "column"]) (C1 : Callee P w K mg base "need_frame" k R_needF) (C2 : Callee P w K mg base "need_lot" k R_needL) (C3 : Callee P w K mg base "need_column" k R_needC) (C4 : Callee P w K mg base "closure_in" k R_clo) (C5 : Callee P w K mg base "two_rows" k R_two) : Callee P w K mg base "untold_sheet" (k + 1) R_untold := callee_df D sc_untold_sheet (fun as d h => by obtain ⟨_, _, _, _, rfl, _⟩ := h; rfl) fun cdv f A outer s H E hr as d h => by
  obtain ⟨C, D, l, c, rfl, h1, h2, h3, rfl⟩ := h
  have := h1.deps
  have := h1.few
  exact Sd.expr (.call C1 hr (Nat.le_refl _) (.cons (vr 0 rfl) .nil) ⟨C, D, rfl, h1, rfl⟩) (Sd.expr (.call C2 hr (Nat.le_refl _) (.cons (vr 0 rfl) (.cons (vr 1 rfl) .nil)) ⟨C, D, l, rfl, h1.few, h2, rfl⟩) (Sd.expr (.call C3 hr (Nat.le_refl _) (.cons (vr 0 rfl) (.cons (vr 2 rfl) .nil)) ⟨C, D, c, rfl, h1.lot, h3, rfl⟩) (Sd.set (i := 3) (.call C4 hr (Nat.le_refl _) (.cons (.ix ix_tup (vr 0 rfl) .int (rd_ixT (i := 1) rfl)) (.cons (vr 1 rfl) .nil)) ⟨D, l, _, rfl, h2.lot, by omega, h1.al, h1.clo h2.lot, rfl⟩)
    (Sd.ret (d := sheetD C D l c) (.ifE (p := decide (c ∈ clo D l)) (.cmp op_in_seq (vr 2 rfl) (vr 3 rfl) (rd_inS rfl)) (fun e => Ed.is .non (by rw [sheetD, if_pos (of_decide_eq_true e)])) fun e => Ed.is (.call C5 hr (Nat.le_refl _) (.cons (.ix ix_tup (vr 0 rfl) .int (rd_ixT (i := 0) rfl)) (.cons (vr 3 rfl) .nil)) ⟨C, clo D l, rfl, by omega, rfl⟩) (by rw [sheetD, if_neg (of_decide_eq_false e)])) rfl) sc_untold_sheet.nd)))
end
end Pb

set_option Elab.async false
set_option linter.all false
set_option maxRecDepth 100000
set_option maxHeartbeats 1000000
namespace Pb
open PySem PySem.Spec PyProof.Rows L2 PySem.W PySem.SeqAt
open Evl (Ex)
/-! ### the cup -/
def cupD : PyData := .dict []
section cup
variable {X : Cx} {pins : List (Addr × Obj)} {σ : L2.St} {H : Hp} {s : Shared} {a : Addr}
def lst2 (p q : Int) : HO := .lst [.int p, .int q]
theorem upd_back (o : HO) (h : H a = some (cupO a)) : upd (upd H a o) a (cupO a) = H := funext fun b => by
  by_cases e : b = a
  · rw [e, upd_same, h]
  · rw [upd_ne e, upd_ne e]
theorem cup_open (I : Inv X pins σ H s) (h : H a = some (cupO a)) : ∃ p q, 0 ≤ q ∧ q < 4294967296 ∧ Inv X pins σ (upd H a (lst2 p q)) s := by
  obtain ⟨p, q, t1, t2, n, e, h1, h2⟩ := (I.hok a _ h).1
  refine ⟨p, q, h1, h2, ?_⟩
  have J := I.write (x := a) (e := a) (o := lst2 p q) (h' := s.heap) (t' := s.toks) (by rw [h]; exact True.intro) (.inl rfl) (fun b u _ r => r) ⟨_, e⟩ ⟨(by show 2 ≤ sizeLine; decide), [.int p t1, .int q t2], n, .cons ⟨_, rfl⟩ (.cons ⟨_, rfl⟩ .nil), e⟩
  exact J
theorem lst2_cup {H : Hp} (I : Inv X pins σ H s) {p q : Int} (h : H a = some (lst2 p q)) (h1 : 0 ≤ q) (h2 : q < 4294967296) : CupOk a s.heap := by
  obtain ⟨_, its, n, r, e⟩ := I.hok a _ h
  cases r with
  | cons r1 r =>
    cases r with
    | cons r2 r =>
      cases r
      obtain ⟨t1, rfl⟩ := r1
      obtain ⟨t2, rfl⟩ := r2
      exact ⟨p, q, t1, t2, n, e, h1, h2⟩
theorem cup_ok {P : Program} {w : World} {H : Hp} {h : Heap} (c : CupOk a h) : ObjOk P w H h a (cupO a) := by
  refine ⟨c, ?_, fun h1 h2 ⟨p, q, t1, t2, n, e, b1, b2⟩ k => ⟨p, q, t1, t2, n, k _ e, b1, b2⟩⟩
  obtain ⟨p, q, t1, t2, n, e, _⟩ := c
  exact ⟨_, e⟩
/-- the two ints' list is the cup -/
theorem cup_new {H : Hp} (I : Inv X pins σ H s) {p q : Int} (h : H a = some (lst2 p q)) (h1 : 0 ≤ q) (h2 : q < 4294967296) : Inv X pins σ (upd H a (cupO a)) s := by
  have c := lst2_cup I h h1 h2
  have c2 := c
  obtain ⟨_, _, _, _, _, e, _⟩ := c2
  have J := I.write (x := a) (e := a) (o := cupO a) (h' := s.heap) (t' := s.toks) (by rw [h]; exact True.intro) (.inl rfl) (fun b u _ r => r) ⟨_, e⟩ (cup_ok c)
  exact J
theorem cup_close {p q : Int} (I : Inv X pins σ (upd H a (lst2 p q)) s) (h : H a = some (cupO a)) (h1 : 0 ≤ q) (h2 : q < 4294967296) : Inv X pins σ H s := by
  have J := cup_new I upd_same h1 h2
  rw [upd_back _ h] at J
  exact J
/-- cup[0], cup[1] -/
def rIxC : R2 := fun x y H Q => ∃ (a : Addr) (j : Nat), x = .ref a ∧ y = .int j ∧ j < 2 ∧ H a = some (cupO a) ∧ ∀ z : Int, (j = 1 → 0 ≤ z ∧ z < 4294967296) → Q (.int z) H
theorem ix_cup : IxR X rIxC := by
  intro value slice pins s σ H x y v u Q I rx ry h hs
  obtain ⟨a, j, rfl, rfl, hj, ha, q⟩ := h
  obtain ⟨p, r, b1, b2, J⟩ := cup_open I ha
  refine thn (ix_list value slice pins s σ (upd H a (lst2 p r)) (.ref a) (.int j) v u (fun z H' => H' = upd H a (lst2 p r) ∧ z = .int (if j = 0 then p else r)) J rx ry ⟨a, [.int p, .int r], j, .int (if j = 0 then p else r), rfl, rfl, .of upd_same, ?_, rfl, rfl⟩ hs) fun w s' ⟨z, H', J', rz, e1, e2⟩ => ?_
  · match j, hj with
    | 0, _ => exact atI_nat rfl
    | 1, _ => exact atI_nat rfl
  · subst e1 e2
    refine ⟨_, H, cup_close J' ha b1 b2, rz, q _ fun e => ?_⟩
    subst e
    exact ⟨b1, b2⟩
/-- cup[j] = x -/
def rSetC : V → V → V → Hp → (Hp → Prop) → Prop := fun o i v H Q => ∃ (a : Addr) (j : Nat) (x : Int), o = .ref a ∧ i = .int j ∧ v = .int x ∧ j < 2 ∧ (j = 1 → 0 ≤ x ∧ x < 4294967296) ∧ H a = some (cupO a) ∧ Q H
theorem set_cup : PSet X rSetC := by
  intro pins s σ H o i v ov iv u Q I ro ri rv h
  obtain ⟨a, j, x, rfl, rfl, rfl, hj, hb, ha, q⟩ := h
  obtain ⟨p, r, b1, b2, J⟩ := cup_open I ha
  refine thn (set_list pins s σ (upd H a (lst2 p r)) (.ref a) (.int j) (.int x) ov iv u (fun H' => ∃ p' r', 0 ≤ r' ∧ r' < 4294967296 ∧ H' = upd H a (lst2 p' r')) J ro ri rv ⟨a, [.int p, .int r], j, j, rfl, rfl, upd_same, ?_, ?_⟩) fun _ s' ⟨H', J', p', r', c1, c2, e⟩ => ?_
  · match j, hj with
    | 0, _ => rfl
    | 1, _ => rfl
  · match j, hj with
    | 0, _ => exact ⟨x, r, b1, b2, upd_upd⟩
    | 1, _ => exact ⟨p, x, (hb rfl).1, (hb rfl).2, upd_upd⟩
  · subst e
    exact ⟨H, cup_close J' ha c1 c2, q⟩
end cup
/-! ### what may be worth several things -/
def En (X : Cx) (e : Expr) (ds : DS) (p : PyData → Prop) : Prop := ∀ (σ : L2.St) (H : Hp) (Q : VK), Slots H σ ds → (∀ v H' d, Ex H H' → p d → Dq H' v d → Q v H') → wE X e σ H Q
def Tn (X : Cx) (e : Expr) (ds : DS) (p : Bool → Prop) : Prop := ∀ (σ : L2.St) (H : Hp) (Q : Bool → Hp → Prop), Slots H σ ds → (∀ b H', Ex H H' → p b → Q b H') → wT X e σ H Q
def An (X : Cx) (es : List Expr) (ds : DS) (p : List PyData → Prop) : Prop := ∀ (σ : L2.St) (H : Hp) (Q : List V → Hp → Prop), Slots H σ ds → (∀ vs H' as, Ex H H' → p as → DqAll H' vs as → Q vs H') → wA X es σ H Q
section en
variable {X : Cx} {ds : DS} {a b c e : Expr} {es : List Expr} {d d1 d2 : PyData} {pos p0 : Pos} {p q r : PyData → Prop}
theorem En.of (h : Ed X e ds d) (hp : p d) : En X e ds p := fun σ H Q hs k => h σ H Q hs fun v H' e1 hv => k v H' d e1 hp hv
theorem En.mono (h : En X e ds p) (hp : ∀ d, p d → q d) : En X e ds q := fun σ H Q hs k => h σ H Q hs fun v H' d e1 h1 hv => k v H' d e1 (hp d h1) hv
theorem Ed.ofN (h : En X e ds p) (hp : ∀ d', p d' → d' = d) : Ed X e ds d := fun σ H Q hs k => h σ H Q hs fun v H' d' e1 h1 hv => k v H' e1 (hp d' h1 ▸ hv)
theorem Tn.of {t : Bool} {C : Bool → Prop} (h : Et X e ds t) (hp : C t) : Tn X e ds C := fun σ H Q hs k => h σ H Q hs fun H' e1 => k t H' e1 hp
theorem An.nil {C : List PyData → Prop} (h : C []) : An X [] ds C := fun σ H Q hs k => wA.of pa_nil (k [] H [] (Ex.refl H) h .nil)
theorem An.cons {C C2 : List PyData → Prop} (h : En X e ds p) (r : An X es ds C) (hp : ∀ d as, p d → C as → C2 (d :: as)) (hs : starEach (e :: es) X.env = (false, eval e X.env) :: starEach es X.env := by rfl) : An X (e :: es) ds C2 := fun σ H Q hq k =>
  wA.of (pa_cons wE.pe wA.pa hs) (h σ H _ hq fun v H1 d e1 hd h1 => r σ H1 _ (slots_mono e1 hq) fun vs H2 as e2 ha h2 => k _ H2 _ (e1.trans e2) (hp d as hd ha) (.cons (dp_mono e2 _ _ h1) h2))
theorem An.of {as : List PyData} {C : List PyData → Prop} (h : Ea X es ds as) (hp : C as) : An X es ds C := fun σ H Q hs k => h σ H Q hs fun vs H' e1 hv => k vs H' as e1 hp hv
theorem En.op {o : Operator} {R : R2} (ho : OpR X (binaryOp o) R) (ha : En X a ds p) (hb : En X b ds q) (hr : ∀ d1 d2, p d1 → q d2 → ∃ d, r d ∧ RD R d1 d2 d) : En X (.BinOp a o b pos) ds r := fun σ H Q hs k =>
  wE.of (pe_op ho wE.pe wE.pe) (ha σ H _ hs fun x H1 d1 e1 q1 h1 => hb σ H1 _ (slots_mono e1 hs) fun y H2 d2 e2 q2 h2 => by
    obtain ⟨d, hd, hrd⟩ := hr d1 d2 q1 q2
    exact hrd x y H2 Q (dp_mono e2 _ _ h1) h2 fun v H3 e3 h3 => k v H3 d ((e1.trans e2).trans e3) hd h3)
theorem Tn.cmp {o : CmpOp} {R : R2} {C : Bool → Prop} (ho : OpR X (compareOp o) R) (ha : En X a ds p) (hb : En X b ds q) (hr : ∀ d1 d2, p d1 → q d2 → ∃ t, C t ∧ RD R d1 d2 (.bool t)) (hm : behindInMarks o b = false := by first | exact nomark _ | rfl) : Tn X (.Compare a [o] [b] pos) ds C := fun σ H Q hs k =>
  wT.of (pt_cmpR ho wE.pe wE.pe hm) (ha σ H _ hs fun x H1 d1 e1 q1 h1 => hb σ H1 _ (slots_mono e1 hs) fun y H2 d2 e2 q2 h2 => by
    obtain ⟨t, hd, hrd⟩ := hr d1 d2 q1 q2
    exact hrd x y H2 _ (dp_mono e2 _ _ h1) h2 fun v H3 e3 h3 => by
      cases h3
      exact ⟨t, rfl, k t H3 ((e1.trans e2).trans e3) hd⟩)
theorem Tn.val {C : Bool → Prop} (h : En X e ds p) (hp : ∀ d, p d → ∃ t, d = .bool t ∧ C t) (he : ∀ whole, isTrue e X.env whole = (do let v ← whole; standAt e.pos; holding [v] (truthy v)) := by intro _; rfl) : Tn X e ds C := fun σ H Q hs k =>
  wT.of (pt_val wE.pe he) (h σ H _ hs fun v H1 d e1 hd h1 => by
    obtain ⟨t, rfl, hC⟩ := hp d hd
    cases h1
    exact ⟨t, rfl, k t H1 e1 hC⟩)
/-- a and b, the last of several outcomes -/
def Wn (X : Cx) (e : Expr) (ds : DS) (C : Bool → Prop) : Prop := ∀ (σ : L2.St) (H : Hp) (Q : Bool → Hp → Prop), Slots H σ ds → (∀ b H', Ex H H' → C b → Q b H') → WW X e σ H Q
theorem Wn.t {C : Bool → Prop} (h : Wn X e ds C) : Tn X e ds C := fun σ H Q hs k => ⟨fun pins s I => (h σ H Q hs k).run _ pins s I⟩
theorem Wn.and1 {C : Bool → Prop} (h : Tn X a ds C) : Wn X (.BoolOp .And [a] pos) ds C := fun σ H Q hs k => ⟨fun wh pins s I => (pw_and1 (pos := pos) wT.pt).run wh pins s σ H Q I (h σ H Q hs k)⟩
theorem Wn.and {C : Bool → Prop} {t : Bool} (h : Et X a ds t) (g : t = true → Wn X (.BoolOp .And (b :: es) pos) ds C) (hf : t = false → C false) : Wn X (.BoolOp .And (a :: b :: es) pos) ds C := fun σ H Q hs k => ⟨fun wh pins s I =>
  (pw_and (pos := pos) wT.pt wW.pw).run wh pins s σ H Q I (h σ H _ hs fun H1 e1 => by
    cases t with
    | true =>
      rw [if_pos rfl]
      exact g rfl σ H1 Q (slots_mono e1 hs) (fun b H2 e2 hb => k b H2 (e1.trans e2) hb)
    | false =>
      rw [if_neg Bool.false_ne_true]
      exact k false H1 e1 (hf rfl))⟩
theorem En.callB {x : Str} {id : String} {R : List V → Hp → VK → Prop} {C : List PyData → Prop} (hc : CallR X (.builtin id) R) (hm : X.mg x = none) (ha : An X (e :: es) ds C) (hr : ∀ as, C as → ∃ d, p d ∧ RC R as d) (hv : bootBuiltins x = some (.builtin id) := by decide +kernel) (hg : Gl X x := by rfl)
    (hn : x ≠ "__name__" := by decide) (hd : (x == ("__debug__" : Str)) = false := by decide) (he : starEach (e :: es) X.env = (false, eval e X.env) :: starEach es X.env := by rfl) (hpl : (backTo pos (starEach es X.env)).any (·.1) = false := by rfl) :
    En X (.Call (.Name x p0) (e :: es) [] pos) ds p := fun σ H Q hs k =>
  wE.of (pe_callB hc hg hm hv wA.pa hn hd he hpl) (ha σ H _ hs fun vs H1 as e1 h0 h1 => by
    obtain ⟨d, hd, hR⟩ := hr as h0
    exact hR vs H1 Q h1 fun v H2 e2 h2 => k v H2 d (e1.trans e2) hd h2)
theorem En.callTy {x : Str} {T : String} {R : List V → Hp → VK → Prop} {C : List PyData → Prop} (hc : CallR X (.type T) R) (hm : X.mg x = none) (ha : An X (e :: es) ds C) (hr : ∀ as, C as → ∃ d, p d ∧ RC R as d) (hv : bootBuiltins x = some (.type T) := by decide +kernel) (hg : Gl X x := by rfl)
    (hn : x ≠ "__name__" := by decide) (hd : (x == ("__debug__" : Str)) = false := by decide) (he : starEach (e :: es) X.env = (false, eval e X.env) :: starEach es X.env := by rfl) (hpl : (backTo pos (starEach es X.env)).any (·.1) = false := by rfl) :
    En X (.Call (.Name x p0) (e :: es) [] pos) ds p := fun σ H Q hs k =>
  wE.of (pe_callTy hc hg hm hv wA.pa hn hd he hpl) (ha σ H _ hs fun vs H1 as e1 h0 h1 => by
    obtain ⟨d, hd, hR⟩ := hr as h0
    exact hR vs H1 Q h1 fun v H2 e2 h2 => k v H2 d (e1.trans e2) hd h2)
theorem En.ix {R : R2} (hR : IxR X R) (ha : En X a ds p) (hb : En X b ds q) (hd : ∀ d1 d2, p d1 → q d2 → ∃ d, r d ∧ RD R d1 d2 d) (hs : PlainIx b := by exact fun _ _ => rfl) : En X (.Subscript a b pos) ds r := fun σ H Q hq k =>
  wE.of (pe_ix hR wE.pe wE.pe hs) (ha σ H _ hq fun x H1 d1 e1 q1 h1 => hb σ H1 _ (slots_mono e1 hq) fun y H2 d2 e2 q2 h2 => by
    obtain ⟨d, hd, hrd⟩ := hd d1 d2 q1 q2
    exact hrd x y H2 Q (dp_mono e2 _ _ h1) h2 fun v H3 e3 h3 => k v H3 d ((e1.trans e2).trans e3) hd h3)
/-- cup[j] -/
theorem En.cup {j : Nat} (ha : Ed X a ds cupD) (hb : Ed X b ds (.int (j : Nat))) (hj : j < 2) (hs : PlainIx b := by exact fun _ _ => rfl) : En X (.Subscript a b pos) ds (fun d => ∃ z : Int, d = .int z ∧ (j = 1 → 0 ≤ z ∧ z < 4294967296)) := fun σ H Q hq k =>
  wE.of (pe_ix ix_cup wE.pe wE.pe hs) (ha σ H _ hq fun x H1 e1 h1 => hb σ H1 _ (slots_mono e1 hq) fun y H2 e2 h2 => by
    cases h2
    cases h1 with
    | cup h1 => exact ⟨_, j, rfl, rfl, hj, e2 _ _ h1, fun z hz => k _ H2 _ (e1.trans e2) ⟨z, rfl, hz⟩ (.int z)⟩)
end en
/-! a def of several outcomes -/
def spN (R : List PyData → (PyData → Prop) → Prop) : Sp := fun vs H Q _ => ∃ as p, DqAll H vs as ∧ R as p ∧ ∀ v H' d, Ex H H' → p d → Dq H' v d → Q v H'
structure CalleeN (P : Program) (w : World) (K : PySem.W.Frag) (mg : Str → Option Value) (base : Heap) (x : Str) (k : Nat) (R : List PyData → (PyData → Prop) → Prop) : Prop where
  ex : ∃ (f : Addr) (fd : FuncData) (ps : List Str), FnOk P w K mg base CX0 k f fd ps (spN R) ∧ mg x = some (.ref f) ∧ PySem.W.keepIn K (.ref f) = true ∧ Binds K fd ps []
theorem En.call {X : Cx} {ds : DS} {x : Str} {k j : Nat} {R : List PyData → (PyData → Prop) → Prop} {e : Expr} {es : List Expr} {C : List PyData → Prop} {p : PyData → Prop} {p0 pos : Pos} (D : CalleeN X.prog X.w X.K X.mg X.base x k R) (hr : Room j X.A) (hj : k ≤ j) (ha : An X (e :: es) ds C) (hR : ∀ as, C as → ∃ q, R as q ∧ ∀ d, q d → p d)
    (hg : Gl X x := by rfl) (hdb : (x == ("__debug__" : Str)) = false := by decide) (he : starEach (e :: es) X.env = (false, eval e X.env) :: starEach es X.env := by rfl) (hpl : (backTo pos (starEach es X.env)).any (·.1) = false := by rfl) :
    En X (.Call (.Name x p0) (e :: es) [] pos) ds p := fun σ H Q hs k => by
  obtain ⟨f, fd, ps, F, hm, hk, hb⟩ := D.ex
  refine wE.of (pe_call F (hr.mono hj) hg hm hk hb .nil pass0 wA.pa hdb he hpl) (ha σ H _ hs fun vs H1 as e1 h0 h1 => ?_)
  rw [List.append_nil]
  obtain ⟨q, hq, hp⟩ := hR as h0
  exact ⟨as, q, h1, hq, fun v H2 d e2 hd h2 => k v H2 d (e1.trans e2) (hp d hd) h2⟩
/-- a def of one outcome, its arguments of several -/
theorem Ed.callA {X : Cx} {ds : DS} {x : Str} {k j : Nat} {R : List PyData → PyData → Prop} {e : Expr} {es : List Expr} {C : List PyData → Prop} {d : PyData} {p pos : Pos} (D : Callee X.prog X.w X.K X.mg X.base x k R) (hr : Room j X.A) (hj : k ≤ j) (ha : An X (e :: es) ds C) (hR : ∀ as, C as → R as d)
    (hg : Gl X x := by rfl) (hdb : (x == ("__debug__" : Str)) = false := by decide) (he : starEach (e :: es) X.env = (false, eval e X.env) :: starEach es X.env := by rfl) (hpl : (backTo pos (starEach es X.env)).any (·.1) = false := by rfl) :
    Ed X (.Call (.Name x p) (e :: es) [] pos) ds d := fun σ H Q hs q => by
  obtain ⟨f, fd, ps, F, hm, hk, hb⟩ := D.ex
  refine wE.of (pe_call F (hr.mono hj) hg hm hk hb .nil pass0 wA.pa hdb he hpl) (ha σ H _ hs fun vs H1 as e1 h0 h1 => ?_)
  rw [List.append_nil]
  exact ⟨as, d, h1, hR as h0, fun v H2 e2 h2 => q v H2 (e1.trans e2) h2⟩
/-! statements -/
section sn
variable {X : Cx} {ds : DS} {N : DE} {rest : List Stmt} {e c : Expr} {d : PyData} {pos : Pos} {p : PyData → Prop}
theorem Sd.retN (he : En X e ds p) (h : ∀ d, p d → N.rt d) : Sd X (.Return (some e) pos :: rest) ds N := fun H0 σ H D e1 hs L =>
  wSs.of (pss_cons (ps_ret wE.pe) wSs.ps) (he σ H _ hs fun v H1 d e2 hd hv => L.rt d v H1 (h d hd) (e1.trans e2) hv)
theorem Sd.setN {i : Nat} {x : Str} {p' : Pos} (he : En X e ds p) (hr : ∀ d, p d → Sd X rest (ds.set i (some d)) N) (hN : X.N.Nodup) (hi : X.N[i]? = some x := by rfl) (hx : Loc X.env.scope x := by first | exact Or.inl rfl | exact Or.inr rfl) (hs : swapsWith e (some (.Name x p')) pos.line X.env = pure false := by rfl)
    (hf : X.fn x = true ∨ X.env.scope.names.lookup x = some .local := by first | exact .inl rfl | exact .inr rfl | assumption) : Sd X (.Assign [.Name x p'] e pos :: rest) ds N := fun H0 σ H D e1 hq L =>
  wSs.of (pss_cons (ps_set hN hi hx wE.pe hs hf) wSs.ps) (he σ H _ hq fun v H1 d e2 hd hv => hr d hd H0 _ H1 D (e1.trans e2) (slots_set hv i (slots_mono e2 hq)) L)
theorem Sd.ifN {a b : List Stmt} {C : Bool → Prop} (ht : Tn X c ds C) (ha : C true → Sd X a ds { N with nx := fun ds' => Sd X rest ds' N }) (hb : C false → Sd X b ds { N with nx := fun ds' => Sd X rest ds' N }) : Sd X (.If c a b pos :: rest) ds N := fun H0 σ H D e1 hq L => by
  refine wSs.of (pss_cons (ps_if wT.pt wSs.ps wSs.ps) wSs.ps) (ht σ H _ hq fun t H1 e2 hC => ?_)
  have L' : Link H0 { N with nx := fun ds' => Sd X rest ds' N } { D with nx := wSs X rest D } := ⟨fun ds' σ' H' h e hs => h H0 σ' H' D e hs L, L.rt, L.bk, L.ct⟩
  cases t with
  | true =>
    rw [if_pos rfl]
    exact ha hC H0 σ H1 _ (e1.trans e2) (slots_mono e2 hq) L'
  | false =>
    rw [if_neg Bool.false_ne_true]
    exact hb hC H0 σ H1 _ (e1.trans e2) (slots_mono e2 hq) L'
/-- cup[j] = e -/
theorem Sd.cup {o i : Expr} {j : Nat} {p' : Pos} (he : En X e ds p) (ho : Ed X o ds cupD) (hi : Ed X i ds (.int (j : Nat))) (hj : j < 2) (hp : ∀ d, p d → ∃ x : Int, d = .int x ∧ (j = 1 → 0 ≤ x ∧ x < 4294967296)) (hr : Sd X rest ds N) (hs : swapsWithSole [.Subscript o i p'] e pos.line X.env = pure false := by rfl) (hw : swappedStores [.Subscript o i p'] e X.env = pure none := by rfl)
    (h1 : (assignEach [.Subscript o i p'] X.env).map (·.2) = [assign (.Subscript o i p') X.env] := by rfl)
    (ha : ∀ v, assign (.Subscript o i p') X.env v = (do
      let ov ← holding [v] (eval o X.env)
      let iv ← holding [v, ov] (eval i X.env)
      standAt p'
      holding [v, ov, iv] (setItem ov iv v)
      release [v, ov, iv] []) := by intro _; rfl) : Sd X (.Assign [.Subscript o i p'] e pos :: rest) ds N := fun H0 σ H D e1 hq L =>
  wSs.of (pss_cons (ps_asg wE.pe (pg_sub wE.pe wE.pe set_cup ha) hs hw h1) wSs.ps) (he σ H _ hq fun v H1 d e2 hd hv => ho σ H1 _ (slots_mono e2 hq) fun u H2 e3 hu => hi σ H2 _ (slots_mono (e2.trans e3) hq) fun k H3 e4 hk => by
    obtain ⟨x, rfl, hx⟩ := hp d hd
    cases hk
    cases hv
    cases hu with
    | cup hu => exact ⟨_, j, x, rfl, rfl, rfl, hj, hx, e4 _ _ hu, hr H0 σ H3 D (((e1.trans e2).trans e3).trans e4) (slots_mono ((e2.trans e3).trans e4) hq) L⟩)
end sn
theorem calleeN_mk {P : Program} {w : World} {K : PySem.W.Frag} {mg : Str → Option Value} {base : Heap} {x : Str} {st : Stmt} {N ps : List Str} {k : Nat} {R : List PyData → (PyData → Prop) → Prop} (D : Df K mg x st ps) (S : FnScope N ps (defScope st))
    (hl : ∀ as p, R as p → as.length = ps.length)
    (body : ∀ (cdv : Value) (f : Addr) (A : Around) (outer : List Env) (s : Shared) (H : Hp) (E : XK), Room k (A.deeper (envOfC x (defScope st) s.heap.objs.size f cdv)) → ∀ as p, R as p →
      Sd (cxOf CX0 P w K mg base N x (defScope st) f cdv A outer s H E).nox (defBody st) (startD N.length as) { rt := p }) : CalleeN P w K mg base x (k + 1) R := by
  obtain ⟨f, fd, F, hm, hb⟩ := D
  refine ⟨f, fd, ps, F.ok S (fun vs H Q E h => ?_) (fun cdv A outer s H vs Q E hr h => ?_), hm, F.kp, hb⟩
  · obtain ⟨as, p, h1, h2, _⟩ := h
    rw [dpAll_len h1]
    exact hl as p h2
  · obtain ⟨as, p, h1, h2, q⟩ := h
    exact ⟨_, wSs.ps, body cdv f A outer s H E hr as p h2 H (L2.start N vs) H _ (Ex.refl H) (slots_start h1) ⟨fun ds σ H' h e _ => h.elim, fun d' v H' h e hv => q v H' d' e h hv, fun _ _ _ h _ _ => h.elim, fun _ _ _ h _ _ => h.elim⟩⟩
end Pb

set_option Elab.async false
set_option linter.all false
set_option maxRecDepth 100000
set_option maxHeartbeats 1000000
namespace Pb
open PySem PySem.Spec PyProof.Rows L2 PySem.W PySem.SeqAt
open Evl (Ex)
/-! ### what is walked, of several outcomes -/
def IdN (X : Cx) (tg iter : Expr) (ds : DS) (p : List PyData → Prop) : Prop := ∃ wi : TI, PI X tg iter wi ∧ ∀ (σ : L2.St) (H : Hp) (R : It → Hp → Prop), Slots H σ ds → (∀ J H' xs, Ex H H' → p xs → ItD J H' xs → R J H') → wi σ H R
section idn
variable {X : Cx} {tg e : Expr} {ds : DS} {xs : List PyData} {pos p0 : Pos} {p : PyData → Prop} {C : List PyData → Prop}
theorem IdN.of (h : Id X tg e ds xs) (hp : C xs) : IdN X tg e ds C := by
  obtain ⟨wi, h1, h2⟩ := h
  exact ⟨wi, h1, fun σ H R hs k => h2 σ H R hs fun J H' e1 hJ => k J H' xs e1 hp hJ⟩
theorem IdN.list (h : En X e ds p) (hp : ∀ d, p d → ∃ xs, d = .list xs ∧ C xs) : IdN X tg e ds C := ⟨_, pi_list wE.pe, fun σ H R hs k => h σ H _ hs fun v H1 d e1 hd h1 => by
  obtain ⟨xs, rfl, hx⟩ := hp d hd
  cases h1 with
  | lst g1 g2 => exact ⟨_, rfl, ⟨_, .of g1⟩, k _ H1 xs e1 hx (itd_list g1 g2)⟩⟩
theorem IdN.range (hm : X.mg "range" = none) (h : En X e ds p) (hp : ∀ d, p d → ∃ n : Nat, d = .int n ∧ n ≤ 100000 ∧ C ((List.range n).map fun i => .int (i : Nat))) (hg : Gl X "range" := by rfl) (he : starEach (e :: []) X.env = (false, eval e X.env) :: starEach [] X.env := by rfl) (hs1 : starEach [e] X.env = [(false, eval e X.env)] := by rfl) :
    IdN X tg (.Call (.Name "range" p0) [e] [] pos) ds C := by
  refine ⟨_, pi_range1 hg hm (pa_cons wE.pe pa_nil he) hs1, fun σ H R hs k => h σ H _ hs fun v H1 d e1 hd h1 => ?_⟩
  obtain ⟨n, rfl, hn, hC⟩ := hp d hd
  cases h1
  refine ⟨n, rfl, by omega, by omega, ?_⟩
  refine k _ H1 _ e1 hC ⟨fun i H2 e2 hi => ?_, fun H2 e2 => ?_, fun i H2 v H' e2 hy d hd => ?_⟩
  · rw [List.length_map, List.length_range] at hi
    show i < ((n : Int)).toNat
    omega
  · rw [List.length_map, List.length_range]
    show ((n : Int)).toNat ≤ n
    omega
  · obtain ⟨rfl, rfl⟩ := hy
    rw [List.getElem?_map] at hd
    have hi : i < n := by
      rcases Nat.lt_or_ge i n with c | c
      · exact c
      · rw [List.getElem?_eq_none (by rw [List.length_range]; exact c)] at hd
        cases hd
    rw [List.getElem?_range hi] at hd
    cases hd
    have e0 : (0 : Int) + (i : Int) = (i : Int) := Int.zero_add _
    rw [e0]
    exact ⟨Ex.refl _, .int _⟩
end idn
section sn
variable {X : Cx} {ds : DS} {N : DE} {rest : List Stmt} {pos : Pos}
theorem Sd.forN {tg iter : Expr} {body : List Stmt} {p : List PyData → Prop} (hi : IdN X tg iter ds p) (I : List PyData → Nat → DS → Prop) (h0 : ∀ xs, p xs → I xs 0 ds)
    (ht : ∀ xs, p xs → ∀ i x ds', xs[i]? = some x → I xs i ds' → ∃ is ds2, Gd X tg is ds' x ds2 ∧ Sd X body ds2 { nx := I xs (i + 1), rt := N.rt, bk := fun d' => Sd X rest d' N, ct := I xs (i + 1) }) (hd : ∀ xs, p xs → ∀ ds', I xs xs.length ds' → Sd X rest ds' N) (hp : PassesOwn (model X.prog X.w) X.A X.env X.xe := by exact PassesOwn.never)
    (hc : X.calm = true := by rfl) (hs : ∀ x, foldedSetIterable iter X.env x = pure x := by intro _; rfl) : Sd X (.For tg iter body [] pos :: rest) ds N := fun H0 σ H D e1 hq L => by
  obtain ⟨wi, h1, h2⟩ := hi
  refine wSs.of (pss_cons (ps_for hp hc h1 wG.pg wSs.ps hs) wSs.ps) (h2 σ H _ hq fun J H1 xs e2 hpx hJ => ?_)
  refine ⟨fun i m σ' H' => m = xs.length - i ∧ i ≤ xs.length ∧ Ex H1 H' ∧ ∃ ds', I xs i ds' ∧ Slots H' σ' ds', ⟨xs.length, by omega, Nat.zero_le _, Ex.refl _, ds, h0 xs hpx, slots_mono e2 hq⟩, ?_⟩
  rintro i m σ' H' ⟨rfl, hi, e3, ds', hI, hs'⟩
  by_cases hlt : i < xs.length
  · refine .inr ⟨hJ.go i H' e3 hlt, fun σ'' H'' => Ex H1 H'' ∧ ∃ ds', I xs (i + 1) ds' ∧ Slots H'' σ'' ds', fun σ'' H'' ⟨q1, ds2, q2, q3⟩ => ⟨xs.length - (i + 1), by omega, rfl, hlt, q1, ds2, q2, q3⟩, fun x H2 hy => ?_⟩
    obtain ⟨e4, hx⟩ := hJ.yld i H' x H2 e3 hy _ (List.getElem?_eq_getElem hlt)
    obtain ⟨is, ds2, g, b⟩ := ht xs hpx i _ ds' (List.getElem?_eq_getElem hlt) hI
    refine g σ' H2 x _ (slots_mono e4 hs') hx fun σ3 H3 e5 hs3 _ => b H1 σ3 H3 _ ((e3.trans e4).trans e5) hs3 ⟨fun ds3 σ4 H4 h e hs4 => ⟨e, ds3, h, hs4⟩, fun d v H4 h e hv => L.rt d v H4 h ((e1.trans e2).trans e) hv, fun ds3 σ4 H4 h e hs4 => h H0 σ4 H4 D ((e1.trans e2).trans e) hs4 L, fun ds3 σ4 H4 h e hs4 => ⟨e, ds3, h, hs4⟩⟩
  · have e : i = xs.length := by omega
    subst e
    exact .inl ⟨hJ.stop H' e3, hd xs hpx ds' hI H0 σ' H' D ((e1.trans e2).trans e3) hs' L⟩
end sn
/-! ### comprehensions of several outcomes -/
inductive Kp {α : Type} (P : α → PyData → Prop) (Sk : α → Prop) : List α → List (α × PyData) → Prop
  | nil : Kp P Sk [] []
  | skip {ts : List α} {l : List (α × PyData)} {t : α} : Sk t → Kp P Sk ts l → Kp P Sk (ts ++ [t]) l
  | take {ts : List α} {l : List (α × PyData)} {t : α} {d : PyData} : P t d → Kp P Sk ts l → Kp P Sk (ts ++ [t]) (l ++ [(t, d)])
section kp
variable {α : Type} {P : α → PyData → Prop} {Sk : α → Prop}
theorem Kp.sub {ts : List α} {l : List (α × PyData)} (h : Kp P Sk ts l) : (l.map (·.1)).Sublist ts := by
  induction h with
  | nil => exact .refl _
  | skip _ _ ih => exact ih.trans (List.sublist_append_left _ _)
  | take _ _ ih =>
    rw [List.map_append]
    exact ih.append (.refl _)
theorem Kp.all {ts : List α} {l : List (α × PyData)} (h : Kp P Sk ts l) : ∀ q ∈ l, P q.1 q.2 := by
  induction h with
  | nil => intro q hq; cases hq
  | skip _ _ ih => exact ih
  | take hp _ ih =>
    intro q hq
    rcases List.mem_append.mp hq with z | z
    · exact ih q z
    · rw [List.mem_singleton.mp z]
      exact hp
theorem Kp.full {ts : List α} {l : List (α × PyData)} (h : Kp P Sk ts l) (hn : ∀ t, ¬ Sk t) : l.map (·.1) = ts := by
  induction h with
  | nil => rfl
  | skip hs _ _ => exact absurd hs (hn _)
  | take _ _ ih =>
    rw [List.map_append, ih]
    rfl
theorem Kp.len {ts : List α} {l : List (α × PyData)} (h : Kp P Sk ts l) : l.length ≤ ts.length := by
  have := h.sub.length_le
  rw [List.length_map] at this
  exact this
theorem Kp.noL {ts : List α} {l : List (α × PyData)} (h : Kp P Sk ts l) (hn : ∀ t d, P t d → noL d = true) : noLs (l.map (·.2)) = true := noLs_all _ fun d hd => by
  obtain ⟨q, hq, rfl⟩ := List.mem_map.mp hd
  exact hn _ _ (h.all q hq)
end kp
def EsN (X : Cx) (ifs : List Expr) (ds : DS) (C : Bool → Prop) : Prop := ∀ (σ : L2.St) (H : Hp) (Q : Bool → Hp → Prop), Slots H σ ds → (∀ b H', Ex H H' → C b → Q b H') → wTs X ifs σ H Q
theorem EsN.nil {X : Cx} {ds : DS} {C : Bool → Prop} (h : C true) : EsN X [] ds C := fun σ H Q hs k pins s I => pts_nil.run pins s σ H Q I (k true H (Ex.refl H) h)
theorem EsN.one {X : Cx} {c : Expr} {ds : DS} {C : Bool → Prop} (h : Tn X c ds C) : EsN X [c] ds C := fun σ H Q hs k pins s I => (pts_one (t := wT X c) wT.pt).run pins s σ H Q I (h σ H Q hs k)
section lc
variable {X : Cx} {ds : DS}
theorem lc_dataN {α : Type} {J : It} {H1 : Hp} {D : Addr} {ts : List α} {enc : α → PyData} {P : α → PyData → Prop} {Sk : α → Prop} {σ : L2.St} {vs : List Nat} {g : TG} {tt : TT} {te : TE} {Qd : Hp → Prop} (hJ : ItD J H1 (ts.map enc)) (hD : H1 D = none) (hz : ts.length ≤ 100000)
    (hn : ∀ t d, P t d → noL d = true)
    (turn : ∀ t ∈ ts, ∀ x H (Nx : Hp → Prop), Ex H1 H → Dq H x (enc t) → (∀ H2, Ex H H2 → Sk t → Nx H2) →
      (∀ v d H2, Ex H H2 → P t d → Dq H2 v d → ∃ acc, H2 D = some (.lst acc) ∧ acc.length < sizeLine ∧ Nx (upd H2 D (.lst (acc ++ [v])))) →
      g x (wipe σ vs) H fun σ2 H2 => wipe σ2 vs = wipe σ vs ∧ tt σ2 H2 fun b H3 => if b = true then te σ2 H3 fun y H4 => ∃ acc, H4 D = some (.lst acc) ∧ acc.length < sizeLine ∧ Nx (upd H4 D (.lst (acc ++ [y]))) else Nx H3)
    (hd : ∀ H vs' l, Ex H1 H → H D = some (.lst vs') → Kp P Sk ts l → DqAll H vs' (l.map (·.2)) → Qd H) :
    ∃ W : Nat → Nat → Hp → Prop, (∃ m, W 0 m (upd H1 D (.lst []))) ∧ ∀ i m H, W i m H →
      (J.stop i H ∧ Qd H) ∨ (J.go i H ∧ ∃ Nx : Hp → Prop, (∀ H', Nx H' → ∃ m', m' < m ∧ W (i + 1) m' H') ∧ ∀ x H', J.yld i H x H' → g x (wipe σ vs) H' fun σ2 H2 => wipe σ2 vs = wipe σ vs ∧ tt σ2 H2 fun b H3 =>
        if b = true then te σ2 H3 fun y H4 => ∃ acc, H4 D = some (.lst acc) ∧ acc.length < sizeLine ∧ Nx (upd H4 D (.lst (acc ++ [y]))) else Nx H3) := by
  refine ⟨fun i m H => m = ts.length - i ∧ i ≤ ts.length ∧ Ex H1 H ∧ ∃ acc l, H D = some (.lst acc) ∧ Kp P Sk (ts.take i) l ∧ DqAll H acc (l.map (·.2)), ⟨ts.length, by omega, Nat.zero_le _, Ex.new hD, [], [], upd_same, .nil, .nil⟩, ?_⟩
  rintro i m H ⟨rfl, hi, e1, acc, l, ha, hk, hq⟩
  by_cases hlt : i < ts.length
  · refine .inr ⟨hJ.go i H e1 (by rw [List.length_map]; exact hlt), fun H' => i + 1 ≤ ts.length ∧ Ex H1 H' ∧ ∃ acc l, H' D = some (.lst acc) ∧ Kp P Sk (ts.take (i + 1)) l ∧ DqAll H' acc (l.map (·.2)), fun H' p => ⟨ts.length - (i + 1), by omega, rfl, p⟩, fun x H' hy => ?_⟩
    have ht : ts[i] ∈ ts := List.getElem_mem hlt
    have htk : ts.take (i + 1) = ts.take i ++ [ts[i]] := by rw [List.take_succ, List.getElem?_eq_getElem hlt]; rfl
    obtain ⟨e2, hx⟩ := hJ.yld i H x H' e1 hy (enc ts[i]) (by rw [List.getElem?_map, List.getElem?_eq_getElem hlt]; rfl)
    refine turn ts[i] ht x H' _ (e1.trans e2) hx (fun H2 e3 hsk => ⟨hlt, (e1.trans e2).trans e3, acc, l, e3 _ _ (e2 _ _ ha), ?_, dpAll_mono (e2.trans e3) _ _ hq⟩) fun v d H2 e3 hp hv => ?_
    · rw [htk]
      exact .skip hsk hk
    · have hD2 := e3 _ _ (e2 _ _ ha)
      have hq2 := dpAll_mono (e2.trans e3) _ _ hq
      have hl : acc.length < sizeLine := by
        rw [dpAll_len hq, List.length_map]
        have q1 := hk.len
        have q2 := List.length_take_le i ts
        exact Evl.sz_lt (by omega)
      refine ⟨acc, hD2, hl, hlt, ((e1.trans e2).trans e3).mut hD, acc ++ [v], l ++ [(ts[i], d)], upd_same, ?_, ?_⟩
      · rw [htk]
        exact .take hp hk
      · rw [List.map_append]
        exact dpAll_app (dpAll_tst (Tst.upd hD2) _ _ (hk.noL hn) hq2) (.cons (dp_tst (Tst.upd hD2) _ _ (hn _ _ hp) hv) .nil)
  · have e : i = ts.length := by omega
    subst e
    rw [List.take_length] at hk
    refine .inl ⟨?_, hd H acc l e1 ha hk hq⟩
    have q := hJ.stop H e1
    rw [List.length_map] at q
    exact q
structure LcN {α : Type} (X : Cx) (elt tg : Expr) (ifs : List Expr) (scope : Scope) (own : List (Str × Nat)) (ds : DS) (C : List α → Prop) (Tt : α → Prop) (enc : α → PyData) (P : α → PyData → Prop) (Sk Ps : α → Prop) : Prop where
  ok : BlkOk X.N X.env.scope scope own
  turn : ∃ (is : List Nat) (env : α → DS), (∀ i ∈ is, i ∈ own.map (·.2)) ∧ ∀ (s : Shared) (H : Hp) (C : Addr) (cl : List (Str × Addr)) (fp : List Addr), ∀ t, Tt t →
    Gd (X.blk s H scope (compEnvC scope cl C X.env) fp) tg is (wipeD ds (own.map (·.2))) (enc t) (env t) ∧ EsN (X.blk s H scope (compEnvC scope cl C X.env) fp) ifs (env t) (fun b => if b = true then Ps t else Sk t) ∧ (Ps t → En (X.blk s H scope (compEnvC scope cl C X.env) fp) elt (env t) (P t))
  flat : ∀ t d, P t d → noL d = true
  few : ∀ ts, C ts → ts.length ≤ 100000 ∧ ∀ t ∈ ts, Tt t
variable {α : Type} {elt tg iter : Expr} {ifs : List Expr} {scope : Scope} {own : List (Str × Nat)} {C : List α → Prop} {Tt : α → Prop} {enc : α → PyData} {P : α → PyData → Prop} {Sk Ps : α → Prop} {pos : Pos}
theorem LcN.reads (L : LcN X elt tg ifs scope own ds C Tt enc P Sk Ps) {wi : TI} (hwi : ∀ (σ : L2.St) (H : Hp) (R : It → Hp → Prop), Slots H σ ds → (∀ J H' xs, Ex H H' → (∃ ts, C ts ∧ xs = ts.map enc) → ItD J H' xs → R J H') → wi σ H R) {σ : L2.St} {H : Hp} {Q : VK} (hs : Slots H σ ds)
    (k : ∀ v H' ts l, Ex H H' → C ts → Kp P Sk ts l → Dq H' v (.list (l.map (·.2))) → Q v H') : tLc wi (gL X scope tg) (tL X scope ifs) (eL X scope elt) (own.map (·.2)) σ H Q := by
  obtain ⟨is, env, his, ht⟩ := L.turn
  refine hwi σ H _ hs fun J H1 xs e1 ⟨ts, hC, hx⟩ hJ D hD => ?_
  subst hx
  refine lc_dataN hJ hD (L.few ts hC).1 L.flat (fun t htm x H2 Nx e2 hx h0 h1 => ?_) fun H2 vs' l e2 hq hk hd => k _ H2 ts l (e1.trans e2) hC hk (.lst hq hd)
  intro s H0 C' cl fp
  have hs2 := slots_wipe (slots_mono (e1.trans e2) hs) (own.map (·.2))
  have hT := (L.few ts hC).2 t htm
  refine (ht s H0 C' cl fp t hT).1 _ H2 x _ hs2 hx fun σ' H3 e3 hs3 hw => ⟨(hw _ his).trans (wipe_idem σ _), fun s H0 C' cl fp => ?_⟩
  refine (ht s H0 C' cl fp t hT).2.1 σ' H3 _ hs3 fun b H4 e4 hb => ?_
  cases b with
  | true =>
    rw [if_pos rfl]
    rw [if_pos rfl] at hb
    exact fun s H0 C' cl fp => (ht s H0 C' cl fp t hT).2.2 hb σ' H4 _ (slots_mono e4 hs3) fun v H5 d e5 hd hv => h1 v d H5 ((e3.trans e4).trans e5) hd hv
  | false =>
    rw [if_neg Bool.false_ne_true]
    rw [if_neg Bool.false_ne_true] at hb
    exact h0 H4 (e3.trans e4) hb
theorem En.lc (L : LcN X elt tg ifs scope own ds C Tt enc P Sk Ps) (hi : IdN X tg iter ds fun xs => ∃ ts, C ts ∧ xs = ts.map enc) (hN : X.N.Nodup) (hc : X.calm = true := by rfl) (hs : ∀ x, foldedSetIterable iter X.env x = pure x := by intro _; rfl) :
    En X (.ListComp elt [⟨tg, iter, ifs, 0⟩] scope pos) ds (fun d => ∃ ts l, C ts ∧ Kp P Sk ts l ∧ d = .list (l.map (·.2))) := fun σ H Q hq k => by
  obtain ⟨wi, h1, h2⟩ := hi
  exact wE.of (pe_lc (g := gL X scope tg) (tt := tL X scope ifs) (te := eL X scope elt) hc hN h1 L.ok (fun s H C cl fp => ⟨fun pins s' σ' H' v u Q' I r h => h s H C cl fp pins s' u I r⟩) (fun s H C cl fp => ⟨fun pins s' σ' H' Q' I h => h s H C cl fp pins s' I⟩)
    (fun s H C cl fp => ⟨fun pins s' σ' H' Q' I h => WE.run (h s H C cl fp) pins s' I⟩) hs) (L.reads h2 hq fun v H' ts l e1 h3 h4 h5 => k v H' _ e1 ⟨ts, l, h3, h4, rfl⟩ h5)
end lc
/-! ### sorted(set(words)) -/
section
variable {X : Cx} {ds : DS} {e : Expr} {p : PyData → Prop} {pos p1 pos2 p2 : Pos} {j : Nat}
theorem En.sortSet (hr : Room j X.A) (B : Bi X.mg) (h : En X e ds p) (hp : ∀ d, p d → ∃ l, d = dL l ∧ (∀ x ∈ l, x ∈ alpha) ∧ l.length < 63) (hc : X.calm = true := by rfl) (hg : Gl X "sorted" := by rfl) (hg2 : Gl X "set" := by rfl)
    (he : starEach (Expr.Call (.Name "set" p2) [e] [] pos2 :: []) X.env = (false, eval (Expr.Call (.Name "set" p2) [e] [] pos2) X.env) :: starEach [] X.env := by rfl) (hpl : (backTo pos (starEach [] X.env)).any (·.1) = false := by rfl)
    (he2 : starEach (e :: []) X.env = (false, eval e X.env) :: starEach [] X.env := by rfl) (hpl2 : (backTo pos2 (starEach [] X.env)).any (·.1) = false := by rfl) :
    En X (.Call (.Name "sorted" p1) [.Call (.Name "set" p2) [e] [] pos2] [] pos) ds (fun d' => ∃ l, p (dL l) ∧ d' = dL (srt l)) := fun σ H Q hs k =>
  wE.of (pe_callB (cr_sortV hr.units hc) hg B.sorted (by decide +kernel) (pa_cons wE.pe pa_nil he) (by decide) (by decide) he hpl)
    (wE.of (pe_callTy (cr_setF hc) hg2 B.set (by decide +kernel) (pa_cons wE.pe pa_nil he2) (by decide) (by decide) he2 hpl2) (h σ H _ hs fun v H1 d e1 hd h1 => by
      obtain ⟨l, rfl, ha, hf⟩ := hp d hd
      have e2 : l.map PyData.str = (l.map Sum.inr : List Key).map kD := by rw [List.map_map]; rfl
      cases h1 with
      | lst a1 a2 =>
        have a3 := a2
        rw [e2] at a3
        rw [dpAll_kD a3] at a1
        refine ⟨_, l.map Sum.inr, rfl, .inl a1, by rw [List.length_map]; exact hf, fun a ks' hn hnd hmem hl => ?_⟩
        have hes : ∀ k ∈ ks', ∃ x, k = Sum.inr x ∧ x ∈ l := fun k hk => by
          obtain ⟨x, hx, e⟩ := List.mem_map.mp ((hmem k).mp hk)
          exact ⟨x, e.symm, hx⟩
        have nd : (ks'.map kD).Nodup := List.pairwise_map.mpr (hnd.imp fun hne e => hne (kD_inj e))
        have pe : (ks'.map kD).Perm ((srt l).map .str) := (List.perm_ext_iff_of_nodup nd (List.pairwise_map.mpr ((srt_nd l).imp fun hne e => hne (by injection e)))).mpr fun d => by
          rw [List.mem_map, List.mem_map]
          refine ⟨fun ⟨k, h1, h2⟩ => ?_, fun ⟨x, h1, h2⟩ => ⟨.inr x, (hmem _).mpr (List.mem_map.mpr ⟨x, (mem_srt.mp h1).2, rfl⟩), h2⟩⟩
          obtain ⟨x, rfl, hx⟩ := hes k h1
          exact ⟨x, mem_srt.mpr ⟨ha x hx, hx⟩, h2⟩
        have str_of : ∀ d ∈ ks'.map kD, ∃ x, d = .str x := fun d hd => by
          obtain ⟨k, hk, rfl⟩ := List.mem_map.mp hd
          obtain ⟨x, rfl, _⟩ := hes k hk
          exact ⟨x, rfl⟩
        refine ⟨a, ks'.map kV, ks'.map kD, rfl, upd_same, dpAll_ofK ks', by rw [List.length_map]; exact hl, fun d1 h1 d2 h2 => ?_, .inr fun d h1 => ?_, fun d h1 => ?_, fun q L' out hq po pw hv => ?_⟩
        · obtain ⟨x, rfl⟩ := str_of d1 h1
          obtain ⟨y, rfl⟩ := str_of d2 h2
          simp [alike]
        · obtain ⟨x, rfl⟩ := str_of d h1
          exact ⟨nofun, nofun⟩
        · obtain ⟨x, rfl⟩ := str_of d h1
          exact ⟨Nat.zero_le _, noL_str x⟩
        · have eo : out = (srt l).map .str := eq_sorted out _ (po.trans pe) pw (srt_pw l) fun d1 h1 d2 h2 q1 q2 => by
            obtain ⟨x, hx, rfl⟩ := List.mem_map.mp ((po.trans pe).mem_iff.mp h1)
            obtain ⟨y, hy, rfl⟩ := List.mem_map.mp ((po.trans pe).mem_iff.mp h2)
            rw [alpha_anti x (mem_srt.mp hx).1 y (mem_srt.mp hy).1 q1 q2]
          subst eo
          exact k _ _ _ ((e1.trans (Ex.new hn)).trans (Ex.new hq)) ⟨l, hd, rfl⟩ (.lst upd_same (dpAll_mono (Ex.new hq) _ _ hv))))
end
end Pb

set_option Elab.async false
set_option linter.all false
set_option maxRecDepth 100000
set_option maxHeartbeats 1000000
namespace Pb
open PySem PySem.Spec PyProof.Rows L2 PySem.W PySem.SeqAt
open Evl (Ex)
theorem filter_nil_iff {o l : List Str} : decide (o.filter (fun x => !decide (x ∈ l)) = []) = sbB o l := by
  cases h : sbB o l with
  | true =>
    refine decide_eq_true (List.filter_eq_nil_iff.mpr fun x hx => ?_)
    have := sbB_iff.mp h x hx
    simp [this]
  | false =>
    refine decide_eq_false fun e => ?_
    have : sbB o l = true := sbB_iff.mpr fun x hx => by
      have := List.filter_eq_nil_iff.mp e x hx
      simpa using this
    rw [this] at h
    cases h
theorem closed_nil_iff {D : List Dep} {l : List Str} : decide (D.filter (fun p => sbB p.1 l && !decide (p.2 ∈ l)) = []) = closedB D l := by
  cases h : closedB D l with
  | true =>
    refine decide_eq_true (List.filter_eq_nil_iff.mpr fun p hp => ?_)
    have := closedB_iff.mp h p hp
    cases hs : sbB p.1 l with
    | false => simp
    | true => simp [this (sbB_iff.mp hs)]
  | false =>
    refine decide_eq_false fun e => ?_
    have : closedB D l = true := closedB_iff.mpr fun p hp hs => by
      have := List.filter_eq_nil_iff.mp e p hp
      rw [sbB_iff.mpr hs] at this
      simpa using this
    rw [this] at h
    cases h
theorem ones_nil {α : Type} (l : List α) : PyData.eqvAll (l.map fun _ => PyData.int 1) [] = decide (l = []) := by
  cases l <;> rfl
theorem sh_ones {α : Type} (l : List α) : SeqAt.shaped (.list (l.map fun _ => PyData.int 1)) = true := (Sh.lst fun d hd => by
  obtain ⟨j, _, rfl⟩ := List.mem_map.mp hd
  exact Sh.int 1 : Sh 1 _).ok (by omega)
theorem sh_nil : SeqAt.shaped (.list []) = true := by decide +kernel
section
variable {X : Cx} {ds : DS} {a b c : Expr} {d1 d2 d3 : PyData} {p q : Bool} {pos : Pos}
theorem Et.chain {o o' : CmpOp} {r r' : R2} (ho : OpR X (compareOp o) r) (ho' : OpR X (compareOp o') r') (ha : Ed X a ds d1) (hb : Ed X b ds d2) (hc : Ed X c ds d3) (hr : RD r d1 d2 (.bool p)) (hr' : p = true → RD r' d2 d3 (.bool q))
    (hm : lastMarks [o, o'] [b, c] = false := by with_unfolding_all rfl) : Et X (.Compare a [o, o'] [b, c] pos) ds (p && q) := fun σ H Q hs k =>
  wT.of (pt_chain ho ho' wE.pe wE.pe wE.pe hm) (ha σ H _ hs fun x H1 e1 h1 => hb σ H1 _ (slots_mono e1 hs) fun y H2 e2 h2 => hr x y H2 _ (dp_mono e2 _ _ h1) h2 fun v H3 e3 h3 => by
    cases h3
    refine ⟨p, rfl, ?_⟩
    cases p with
    | true =>
      rw [if_pos rfl]
      refine hc σ H3 _ (slots_mono ((e1.trans e2).trans e3) hs) fun z H4 e4 h4 => hr' rfl y z H4 _ (dp_mono (e3.trans e4) _ _ h2) h4 fun v H5 e5 h5 => ?_
      cases h5
      exact ⟨q, rfl, k H5 ((((e1.trans e2).trans e3).trans e4).trans e5)⟩
    | false =>
      rw [if_neg Bool.false_ne_true]
      first
        | exact k H3 ((e1.trans e2).trans e3)
        | exact ⟨false, rfl, k H3 ((e1.trans e2).trans e3)⟩)
end
section
variable {P : Program} {w : World} {K : PySem.W.Frag} {mg : Str → Option Value} {base : Heap} {k : Nat}
/-- _law_has -/
def R_has : List PyData → PyData → Prop := fun as d => ∃ (l o : List Str) (dl : PyData), as = [dl, dS o] ∧ (dl = dS l ∨ dl = dL l) ∧ o.length ≤ 7 ∧ (∀ x ∈ o, x ∈ alpha) ∧ d = .bool (sbB o l)
theorem c_has (D : Df K mg "_law_has" s_law_has ["_law_lot", "_law_other"]) : Callee P w K mg base "_law_has" (k + 1) R_has := callee_df D sc_law_has (fun as d h => by obtain ⟨_, _, _, rfl, _⟩ := h; rfl) fun cdv f A outer s H E hr as d h => by
  obtain ⟨l, o, dl, rfl, hd, h1, h2, rfl⟩ := h
  refine Sd.ret (.cmp (op_eqD hr.units) (.lc (ts := o) (enc := .str) (y := .str) (b := fun x => !decide (x ∈ l)) (own := [("_law_word", 2)])
    ⟨blkOk_by (N := ["_law_lot", "_law_other", "_law_word"]) (sc := defScope s_law_has) (by decide +kernel), ⟨[2], fun c => _, by simp, fun s H C' cl fp x hx => ⟨.name sc_law_has.nd, .one (.cmp op_notIn_seq (vr 2 rfl) (vr 0 rfl) ?_), fun _ => vr 2 rfl⟩⟩, fun c _ _ => noL_str _, by omega⟩ (.tup (vr 1 rfl)) sc_law_has.nd) (.lst .nil (by decide)) (rd_eqD ?_ sh_nil ?_)) rfl
  · rcases hd with rfl | rfl
    · exact rd_inS rfl
    · exact rd_inL rfl
  · exact (sh_L (wds_al fun x hx => h2 x (List.mem_filter.mp hx).1)).ok (by omega)
  · rw [← filter_nil_iff]
    exact eqv_L _ []
/-- _law_is_closed -/
def R_isClosed : List PyData → PyData → Prop := fun as d => ∃ D l, as = [dDeps D, dS l] ∧ D.length ≤ 8 ∧ (∀ p ∈ D, p.1.length ≤ 7 ∧ ∀ x ∈ p.1, x ∈ alpha) ∧ d = .bool (closedB D l)
theorem c_isClosed (D : Df K mg "_law_is_closed" s_law_is_closed ["_law_dependencies", "_law_lot"]) (C1 : Callee P w K mg base "_law_has" k R_has) : Callee P w K mg base "_law_is_closed" (k + 1) R_isClosed := callee_df D sc_law_is_closed (fun as d h => by obtain ⟨_, _, rfl, _⟩ := h; rfl) fun cdv f A outer s H E hr as d h => by
  obtain ⟨D, l, rfl, h1, h2, rfl⟩ := h
  refine Sd.ret (.cmp (op_eqD hr.units) (.lc (ts := D) (enc := dDep) (y := fun _ => .int 1) (b := fun p => sbB p.1 l && !decide (p.2 ∈ l)) (own := [("_law_ahead", 2), ("_law_column", 3)])
    ⟨blkOk_by (N := ["_law_dependencies", "_law_lot", "_law_ahead", "_law_column"]) (sc := defScope s_law_is_closed) (by decide +kernel), ⟨[2, 3], fun c => _, by simp, fun s H C' cl fp p hp => ⟨.two (i := 2) (j := 3) rfl sc_law_is_closed.nd, .one (Ew.t (.and (.val (.call C1 hr (Nat.le_refl _) (.cons (vr 1 rfl) (.cons (vr 2 rfl) .nil)) ⟨l, p.1, _, rfl, .inl rfl, (h2 p hp).1, (h2 p hp).2, rfl⟩)) fun _ => .and1 (.cmp op_notIn_seq (vr 3 rfl) (vr 1 rfl) (rd_inS rfl)))), fun _ => .int⟩⟩, fun c _ _ => noL_int _, by omega⟩ (.tup (vr 0 rfl)) sc_law_is_closed.nd) (.lst .nil (by decide)) (rd_eqD (sh_ones _) sh_nil ?_)) rfl
  rw [← closed_nil_iff, eqv_lst]
  exact ones_nil _
/-- _law_closure -/
def dPr (m : Lot) : PyData := .tuple [.int (m.length : Nat), dS m]
theorem pr_lt {l m : Lot} (h : l.length < m.length) : dataLt (dPr l) (dPr m) = true := by
  unfold dPr
  have h1 : alike (.int (l.length : Nat)) (.int (m.length : Nat)) = true := by simp [alike]
  rw [dataLt_pair h1 (alike_dS l m), eqv_int, if_neg, dataLt_int]
  · exact decide_eq_true (by omega)
  · rw [decide_eq_true_eq]
    omega
def cands (C : Lot) (D : List Dep) (l : Lot) : List Lot := (lots C).filter fun m => sbB l m && closedB D m
theorem clo_cand {C : Lot} {D : List Dep} {l : Lot} (h : Frm C D) (hl : InC C l) : clo D l ∈ cands C D l := by
  have L := h.clo hl.lot
  refine List.mem_filter.mpr ⟨(mem_lots h.lot).mpr ⟨L.lot, L.le C h.lot (fun p hp _ => (h.ok p hp).2.1) hl.sub⟩, ?_⟩
  rw [sbB_iff.mpr L.up, closedB_iff.mpr L.cl]
  rfl
theorem cand_head {C : Lot} {D : List Dep} {l : Lot} (h : Frm C D) (hl : InC C l) : (((cands C D l).mergeSort (dataLe false dPr)).map dPr)[0]? = some (dPr (clo D l)) := by
  have L := h.clo hl.lot
  have pm := List.mergeSort_perm (cands C D l) (dataLe false dPr)
  have pw := sort_pairwise (dataLe_total dPr) (cands C D l)
  have hm := pm.mem_iff.mpr (clo_cand h hl)
  match e : (cands C D l).mergeSort (dataLe false dPr), hm, pw, pm with
  | [], hm, _, _ => cases hm
  | m :: r, hm, pw, pm =>
    show some (dPr m) = _
    have hmc : m ∈ cands C D l := pm.mem_iff.mp List.mem_cons_self
    obtain ⟨h1, h2⟩ := List.mem_filter.mp hmc
    rw [Bool.and_eq_true] at h2
    have hC := (mem_lots h.lot).mp h1
    have sub := L.le m hC.lot (closedB_iff.mp h2.2) (sbB_iff.mp h2.1)
    rcases List.mem_cons.mp hm with e1 | hr
    · rw [e1]
    · have hle : (!dataLt (dPr (clo D l)) (dPr m)) = true := List.rel_of_pairwise_cons pw hr
      have hlen : ¬ (clo D l).length < m.length := fun q => by
        have e2 : dataLt (dPr (clo D l)) (dPr m) = true := pr_lt q
        rw [e2] at hle
        cases hle
      have e3 : clo D l = m := sub_eq ⟨L.lot, sub⟩ hC.lot (by omega)
      rw [e3]
def R_lawClo : List PyData → PyData → Prop := fun as d => ∃ C D l, as = [dS C, dDeps D, dS l] ∧ Frm C D ∧ InC C l ∧ d = dS (clo D l)
theorem Frm.al2 {C : Lot} {D : List Dep} (h : Frm C D) : ∀ p ∈ D, p.1.length ≤ 7 ∧ ∀ x ∈ p.1, x ∈ alpha := fun p hp => ⟨(h.ok p hp).1.lot.len, (h.ok p hp).1.lot.al⟩
theorem noL_Pr (m : Lot) : noL (dPr m) = true := by
  unfold dPr
  rw [noL_tuple, noLs_cons, noLs_cons, noLs_nil, noL_S, noL_int]
  rfl
theorem c_lawClo (D : Df K mg "_law_closure" s_law_closure ["_law_columns", "_law_dependencies", "_law_lot"]) (B : Bi mg) (C1 : Callee P w K mg base "_law_lots" k R_lots) (C2 : Callee P w K mg base "_law_has" k R_has) (C3 : Callee P w K mg base "_law_is_closed" k R_isClosed) : Callee P w K mg base "_law_closure" (k + 1) R_lawClo := callee_df D sc_law_closure (fun as d h => by obtain ⟨_, _, _, rfl, _⟩ := h; rfl) fun cdv f A outer s H E hr as d h => by
  obtain ⟨C, D, l, rfl, h1, h2, rfl⟩ := h
  have hc := h1.few
  have hd := h1.deps
  have hfew := few_lots (C := C) (by omega)
  refine Sd.setLc (ts := lots C) (enc := dS) (y := dS) (b := fun m => sbB l m && closedB D m) (own := [("_law_one", 4)]) (i := 3)
    ⟨blkOk_by (N := ["_law_columns", "_law_dependencies", "_law_lot", "_law_some_here", "_law_one"]) (sc := defScope s_law_closure) (by decide +kernel), ⟨[4], fun c => _, by simp, fun s H C' cl fp m hm => ⟨.name sc_law_closure.nd, .one (Ew.t (.and (.val (.call C2 hr (Nat.le_refl _) (.cons (vr 4 rfl) (.cons (vr 2 rfl) .nil)) ⟨m, l, _, rfl, .inl rfl, h2.lot.len, h2.lot.al, rfl⟩)) fun _ => .and1 (.val (.call C3 hr (Nat.le_refl _) (.cons (vr 1 rfl) (.cons (vr 4 rfl) .nil)) ⟨D, m, rfl, by omega, h1.al2, rfl⟩)))), fun _ => vr 4 rfl⟩⟩, fun c _ _ => noL_S _, by omega⟩ (.list (.call C1 hr (Nat.le_refl _) (.cons (vr 0 rfl) .nil) ⟨C, rfl, by omega, rfl⟩)) ?_ sc_law_closure.nd (sw_true rfl rfl rfl (by decide +kernel))
  refine Sd.ret (.ix ix_tup (.ix ix_list (.sortL (enc := dPr) (bs := cands C D l) hr B.sorted (Ed.is (.lc (ts := cands C D l) (enc := dS) (y := dPr) (b := fun _ => true) (own := [("_law_one", 4)])
    ⟨blkOk_by (N := ["_law_columns", "_law_dependencies", "_law_lot", "_law_some_here", "_law_one"]) (sc := defScope s_law_closure) (by decide +kernel), ⟨[4], fun c => _, by simp, fun s H C' cl fp m hm => ⟨.name sc_law_closure.nd, .nil, fun _ => Ed.is (.tup (.cons (.callB call_len_seq B.len (.cons (vr 4 rfl) .nil) (rc_len (xs := m.map .str) (.inr rfl))) (.cons (vr 4 rfl) .nil)) (by show 2 ≤ 100000; omega)) ?_⟩⟩, fun c _ _ => noL_Pr _, ?_⟩ (.list (vr 3 rfl)) sc_law_closure.nd) ?_) ?_ ?_ ?_) .int (rd_ixL (i := 0) (cand_head h1 h2))) .int (rd_ixT (i := 1) rfl)) rfl
  · rw [List.length_map]
    rfl
  · exact Nat.le_trans (List.length_filter_le _ _) (by omega)
  · rw [filter_tt]
  · intro a ha b hb
    obtain ⟨x, _, rfl⟩ := List.mem_map.mp ha
    obtain ⟨y, _, rfl⟩ := List.mem_map.mp hb
    show alike (.tuple [_, _]) (.tuple [_, _]) = true
    simp [alike, alikeAll, alike_dS]
  · refine .inl (.inl fun a ha => ?_)
    obtain ⟨x, _, rfl⟩ := List.mem_map.mp ha
    exact ⟨_, _, rfl⟩
  · intro a ha
    obtain ⟨x, _, rfl⟩ := List.mem_map.mp ha
    have := depth_dS x
    unfold dPr
    simp only [PyData.depth, PyData.depthAll]
    omega
/-- _law_same -/
def ixs (C : List Str) : List (Nat × Str) := (List.range C.length).map fun i => (i, C.getD i "")
def dIx (q : Nat × Str) : PyData := .tuple [.int (q.1 : Nat), .str q.2]
theorem numbered_ixs (C : List Str) : numbered 0 (C.map .str) = (ixs C).map dIx := by
  refine List.ext_getElem? fun i => ?_
  rw [numbered_get, List.getElem?_map, List.getElem?_map]
  unfold ixs
  rw [List.getElem?_map]
  by_cases h : i < C.length
  · rw [List.getElem?_range h, List.getElem?_eq_getElem h]
    show some (PyData.tuple [.int ((0 + i : Nat) : Int), .str C[i]]) = some (PyData.tuple [.int (i : Nat), .str (C.getD i "")])
    rw [Nat.zero_add, List.getD_eq_getElem?_getD, List.getElem?_eq_getElem h]
    rfl
  · rw [List.getElem?_eq_none (by omega), List.getElem?_eq_none (by rw [List.length_range]; omega)]
    rfl
def diffB (L : List Str) (r o : List Int) (q : Nat × Str) : Bool := decide (q.2 ∈ L) && !decide (r.getD q.1 0 = o.getD q.1 0)
theorem cut_iff (L : List Str) : ∀ (C : List Str) (r o : List Int), r.length = C.length → o.length = C.length → (cut C L r = cut C L o ↔ ∀ i, i < C.length → C.getD i "" ∈ L → r.getD i 0 = o.getD i 0)
  | [], _, _, _, _ => ⟨fun _ i h => absurd h (Nat.not_lt_zero _), fun _ => rfl⟩
  | c :: C, [], _, h, _ => by simp at h
  | c :: C, x :: r, [], _, h => by simp at h
  | c :: C, x :: r, y :: o, h1, h2 => by
    have ih := cut_iff L C r o (by simpa using h1) (by simpa using h2)
    have e : ∀ (z : Int) (q : List Int), cut (c :: C) L (z :: q) = if c ∈ L then z :: cut C L q else cut C L q := fun z q => by
      unfold cut
      rw [List.zip_cons_cons]
      by_cases hc : c ∈ L
      · rw [List.filter_cons_of_pos (by simpa using hc), if_pos hc]
        rfl
      · rw [List.filter_cons_of_neg (by simpa using hc), if_neg hc]
    rw [e, e]
    by_cases hc : c ∈ L
    · rw [if_pos hc, if_pos hc, List.cons.injEq, ih]
      refine ⟨fun ⟨a, b⟩ i hi hm => ?_, fun h => ⟨h 0 (Nat.succ_pos _) hc, fun i hi hm => h (i + 1) (Nat.succ_lt_succ hi) hm⟩⟩
      match i with
      | 0 => exact a
      | i + 1 => exact b i (Nat.lt_of_succ_lt_succ hi) hm
    · rw [if_neg hc, if_neg hc, ih]
      refine ⟨fun b i hi hm => ?_, fun h i hi hm => h (i + 1) (Nat.succ_lt_succ hi) hm⟩
      match i with
      | 0 => exact absurd hm hc
      | i + 1 => exact b i (Nat.lt_of_succ_lt_succ hi) hm
theorem same_iff {C L : List Str} {r o : List Int} (h1 : r.length = C.length) (h2 : o.length = C.length) : decide ((ixs C).filter (diffB L r o) = []) = decide (cut C L r = cut C L o) := by
  refine decide_eq_decide.mpr ((List.filter_eq_nil_iff).trans (Iff.trans ?_ (cut_iff L C r o h1 h2).symm))
  unfold ixs diffB
  refine ⟨fun h i hi hm => ?_, fun h q hq => ?_⟩
  · have := h (i, C.getD i "") (List.mem_map.mpr ⟨i, List.mem_range.mpr hi, rfl⟩)
    simp only [Bool.and_eq_true, decide_eq_true_eq, Bool.not_eq_true', decide_eq_false_iff_not, not_and, Decidable.not_not] at this
    exact this hm
  · obtain ⟨i, hi, rfl⟩ := List.mem_map.mp hq
    have := h i (List.mem_range.mp hi)
    intro q
    rw [Bool.and_eq_true, decide_eq_true_eq, Bool.not_eq_true', decide_eq_false_iff_not] at q
    exact q.2 (this q.1)
def R_same : List PyData → PyData → Prop := fun as d => ∃ C L r o, as = [dS C, dS L, dRow r, dRow o] ∧ r.length = C.length ∧ o.length = C.length ∧ C.length ≤ 7 ∧ d = .bool (decide (cut C L r = cut C L o))
theorem row_at {r : List Int} {i : Nat} (h : i < r.length) : (r.map PyData.int)[i]? = some (.int (r.getD i 0)) := by
  rw [List.getElem?_map, List.getD_eq_getElem?_getD, List.getElem?_eq_getElem h]
  rfl
theorem c_same (D : Df K mg "_law_same" s_law_same ["_law_columns", "_law_lot", "_law_row", "_law_other"]) (B : Bi mg) : Callee P w K mg base "_law_same" (k + 1) R_same := callee_df D sc_law_same (fun as d h => by obtain ⟨_, _, _, _, rfl, _⟩ := h; rfl) fun cdv f A outer s H E hr as d h => by
  obtain ⟨C, L, r, o, rfl, h1, h2, h3, rfl⟩ := h
  have lt : ∀ q ∈ ixs C, q.1 < C.length := fun q hq => by
    obtain ⟨i, hi, rfl⟩ := List.mem_map.mp hq
    exact List.mem_range.mp hi
  refine Sd.ret (.cmp (op_eqD hr.units) (.lc (ts := ixs C) (enc := dIx) (y := fun _ => .int 1) (b := diffB L r o) (own := [("_law_at", 4), ("_law_word", 5)])
    ⟨blkOk_by (N := ["_law_columns", "_law_lot", "_law_row", "_law_other", "_law_at", "_law_word"]) (sc := defScope s_law_same) (by decide +kernel), ⟨[4, 5], fun c => _, by simp, fun s H C' cl fp q hq => ⟨.two (i := 4) (j := 5) rfl sc_law_same.nd, .one (Ew.t (.and (.cmp op_in_seq (vr 5 rfl) (vr 1 rfl) (rd_inS rfl)) fun _ => .and1 (.cmp op_ne (.ix ix_tup (vr 2 rfl) (vr 4 rfl) (rd_ixT (i := q.1) (row_at (by have := lt q hq; omega)))) (.ix ix_tup (vr 3 rfl) (vr 4 rfl) (rd_ixT (i := q.1) (row_at (by have := lt q hq; omega)))) rd_neI))), fun _ => .int⟩⟩, fun c _ _ => noL_int _, ?_⟩ (Id.is (.enumT B.enum (vr 0 rfl)) (numbered_ixs C)) sc_law_same.nd) (.lst .nil (by decide)) (rd_eqD (sh_ones _) sh_nil ?_)) rfl
  · unfold ixs
    rw [List.length_map, List.length_range]
    omega
  · rw [← same_iff h1 h2, eqv_lst]
    exact ones_nil _
/-- _law_keeps -/
def KeepsAll (C : List Str) (D : List Dep) (rs : List (List Int)) : Prop := ∀ r ∈ rs, ∀ o ∈ rs, ∀ p ∈ D, cut C p.1 r = cut C p.1 o → cut C [p.2] r = cut C [p.2] o
def R_lawKeeps : List PyData → PyData → Prop := fun as d => ∃ C D rs, as = [dS C, dDeps D, dRows rs] ∧ C.length ≤ 7 ∧ (∀ r ∈ rs, r.length = C.length) ∧ KeepsAll C D rs ∧ d = .bool true
theorem c_lawKeeps (D : Df K mg "_law_keeps" s_law_keeps ["_law_columns", "_law_dependencies", "_law_rows"]) (C1 : Callee P w K mg base "_law_same" k R_same) : Callee P w K mg base "_law_keeps" (k + 1) R_lawKeeps := callee_df D sc_law_keeps (fun as d h => by obtain ⟨_, _, _, rfl, _⟩ := h; rfl) fun cdv f A outer s H E hr as d h => by
  obtain ⟨C, D, rs, rfl, h1, h2, h3, rfl⟩ := h
  refine Sd.for_ (.tup (vr 2 rfl)) (fun i ds' => ∃ a b c d, ds' = [some (dS C), some (dDeps D), some (dRows rs), a, b, c, d]) ⟨_, _, _, _, rfl⟩ (fun i x ds' hx hI => ?_) fun ds' hI => ?_
  · obtain ⟨a, b, c, d, rfl⟩ := hI
    obtain ⟨r, hrm, rfl⟩ := List.mem_map.mp (List.mem_of_getElem? hx)
    refine ⟨_, _, .name (i := 3) sc_law_keeps.nd, ?_⟩
    refine Sd.for_ (.tup (vr 2 rfl)) (fun j ds' => ∃ b c d, ds' = [some (dS C), some (dDeps D), some (dRows rs), some (dRow r), b, c, d]) ⟨_, _, _, rfl⟩ (fun j x ds' hx hI => ?_) fun ds' hI => ?_
    · obtain ⟨b, c, d, rfl⟩ := hI
      obtain ⟨o, hom, rfl⟩ := List.mem_map.mp (List.mem_of_getElem? hx)
      refine ⟨_, _, .name (i := 4) sc_law_keeps.nd, ?_⟩
      refine Sd.for_ (.tup (vr 1 rfl)) (fun j ds' => ∃ c d, ds' = [some (dS C), some (dDeps D), some (dRows rs), some (dRow r), some (dRow o), c, d]) ⟨_, _, rfl⟩ (fun m x ds' hx hI => ?_) fun ds' hI => ?_
      · obtain ⟨c, d, rfl⟩ := hI
        obtain ⟨p, hp, rfl⟩ := List.mem_map.mp (List.mem_of_getElem? hx)
        refine ⟨_, _, .two (i := 5) (j := 6) rfl sc_law_keeps.nd, ?_⟩
        refine Sd.skip (Et.is (Ew.t (.and (.val (.call C1 hr (Nat.le_refl _) (.cons (vr 0 rfl) (.cons (vr 5 rfl) (.cons (vr 3 rfl) (.cons (vr 4 rfl) .nil)))) ⟨C, p.1, r, o, rfl, h2 r hrm, h2 o hom, h1, rfl⟩)) fun _ => .and1 (.not (.val (.call C1 hr (Nat.le_refl _) (.cons (vr 0 rfl) (.cons (.tup (.cons (vr 6 rfl) .nil) (Nat.le_add_left 1 99999)) (.cons (vr 3 rfl) (.cons (vr 4 rfl) .nil)))) ⟨C, [p.2], r, o, rfl, h2 r hrm, h2 o hom, h1, rfl⟩))))) ?_) (Sd.nil ⟨_, _, rfl⟩)
        by_cases q : cut C p.1 r = cut C p.1 o
        · rw [decide_eq_true (h3 r hrm o hom p hp q)]
          simp
        · rw [decide_eq_false q]
          rfl
      · obtain ⟨d, e, rfl⟩ := hI
        exact Sd.nil ⟨_, _, _, rfl⟩
    · obtain ⟨c, d, e, rfl⟩ := hI
      exact Sd.nil ⟨_, _, _, _, rfl⟩
  · obtain ⟨a, b, c, d, rfl⟩ := hI
    exact Sd.ret .bl rfl
/-- _law_is_rows -/
theorem filter_ff {α : Type} (l : List α) : l.filter (fun _ => false) = [] := List.filter_eq_nil_iff.mpr fun _ _ => by simp
theorem c_lawRows (D : Df K mg "_law_is_rows" s_law_is_rows ["_law_columns", "_law_v", "_law_most"]) (B : Bi mg) : Callee P w K mg base "_law_is_rows" (k + 1) R_fitsRows := callee_df D sc_law_is_rows (fun as d h => by obtain ⟨_, _, _, rfl, _⟩ := h; rfl) fun cdv f A outer s H E hr as d h => by
  obtain ⟨C, rs, m, rfl, h, hc, hm, rfl⟩ := h
  have hf := h.few
  refine Sd.skip (Et.is (Ew.t (.or (.not (.val (Ed.isi (n := "tuple") B.isi B.tuple (vr 1 rfl) rfl))) fun _ => .or (.cmp op_gt (.callB call_len_seq B.len (.cons (vr 1 rfl) .nil) (rc_len (xs := rs.map dRow) (.inr rfl))) (vr 2 rfl) rd_B0) fun _ => .or1 (.cmp (op_neD hr.units) (Ed.is (d' := .list []) (.lc (ts := rs) (enc := dRow) (y := dRow) (b := fun _ => false) (own := [("_law_row", 3)])
    ⟨blkOk_by (N := ["_law_columns", "_law_v", "_law_most", "_law_row", "_law_x"]) (sc := defScope s_law_is_rows) (by decide +kernel), ⟨[3], fun c => _, by simp, fun s H C' cl fp r hr' => ⟨.name sc_law_is_rows.nd, .one (Et.is (Ew.t (.or (.not (.val (Ed.isi (n := "tuple") B.isi B.tuple (vr 3 rfl) rfl))) fun _ => .or1 (.cmp op_ne (.callB call_len_seq B.len (.cons (vr 3 rfl) .nil) (rc_len (xs := r.map .int) (.inr rfl))) (.callB call_len_seq B.len (.cons (vr 0 rfl) .nil) (rc_len (xs := C.map .str) (.inr rfl))) rd_neI))) ?_), fun _ => vr 3 rfl⟩⟩, fun c _ _ => noL_Row _, by omega⟩ (.tup (vr 1 rfl)) sc_law_is_rows.nd) (by rw [filter_ff]; rfl)) (.lst .nil (by decide)) (rd_neD (b := true) sh_nil sh_nil (by decide +kernel))))) ?_) ?_
  · rw [List.length_map, List.length_map, h.len r hr', decide_eq_true rfl]
    rfl
  · rw [List.length_map, decide_eq_false (by omega)]
    rfl
  refine Sd.for_ (.tup (vr 1 rfl)) (fun i ds' => ∃ a b, ds' = [some (dS C), some (dRows rs), some (.int m), a, b]) ⟨_, _, rfl⟩ (fun i x ds' hx hI => ?_) fun ds' hI => ?_
  · obtain ⟨a, b, rfl⟩ := hI
    obtain ⟨r, hrm, rfl⟩ := List.mem_map.mp (List.mem_of_getElem? hx)
    have hl := h.len r hrm
    refine ⟨_, _, .name (i := 3) sc_law_is_rows.nd, ?_⟩
    refine Sd.skip (Et.is (.cmp (op_neD hr.units) (Ed.is (d' := .list []) (.lc (ts := r) (enc := .int) (y := .int) (b := fun _ => false) (own := [("_law_x", 4)])
      ⟨blkOk_by (N := ["_law_columns", "_law_v", "_law_most", "_law_row", "_law_x"]) (sc := defScope s_law_is_rows) (by decide +kernel), ⟨[4], fun c => _, by simp, fun s H C' cl fp x hx => ⟨.name sc_law_is_rows.nd, .one (Et.is (Ew.t (.or (.not (.val (Ed.isi (n := "int") B.isi B.int (vr 4 rfl) rfl))) fun _ => .or (.val (Ed.isi (n := "bool") B.isi B.bool (vr 4 rfl) rfl)) fun _ => .or1 (.not (Et.chain op_le op_le (.neg (.op op_pow .int .int (rd_I ⟨by decide, by decide, by decide⟩))) (vr 4 rfl) (.op op_pow .int .int (rd_I ⟨by decide, by decide, by decide⟩)) rd_B0 fun _ => rd_B0)))) ?_), fun _ => vr 4 rfl⟩⟩, fun c _ _ => noL_int _, by omega⟩ (.tup (vr 3 rfl)) sc_law_is_rows.nd) (by rw [filter_ff]; rfl)) (.lst .nil (by decide)) (rd_neD (b := true) sh_nil sh_nil (by decide +kernel))) rfl) (Sd.nil ⟨_, _, rfl⟩)
    have hb := h.bd r hrm x hx
    have e1 : ((10 : Int) ^ (6 : Int).toNat) = 1000000 := by decide
    rw [e1, decide_eq_true hb.1, decide_eq_true hb.2]
    rfl
  · obtain ⟨a, b, rfl⟩ := hI
    refine Sd.ret (d := .bool true) (.cmp (op_eqD hr.units) (.callTy call_list_of B.list (.cons (vr 1 rfl) .nil) (rc_list (.inr rfl))) (.sortV (cs := rs.map dRow) hr B.sorted (.tups hr B.set (vr 1 rfl) (.inr rfl) (fun d hd => ?_) (by rw [List.length_map]; omega)) (rows_nd h) (fun d => Iff.rfl) ?_ ?_ ?_ ?_ ?_) (rd_eqD ?_ ?_ ?_)) rfl
    · obtain ⟨r, _, rfl⟩ := List.mem_map.mp hd
      exact keyOk_Row r
    · refine List.pairwise_map.mpr ?_
      have h0 := h.inc
      exact h0.imp fun h => congrArg Bool.not h.2
    · exact rows_anti h
    · intro a ha b hb
      obtain ⟨r, _, rfl⟩ := List.mem_map.mp ha
      obtain ⟨r', _, rfl⟩ := List.mem_map.mp hb
      show alike (.tuple _) (.tuple _) = true
      simp only [alike]
      exact alike_ints r r'
    · refine .inl fun a ha => ?_
      obtain ⟨r, hr', rfl⟩ := List.mem_map.mp ha
      have hl := h.len r hr'
      have hp := h.pos
      match r, hl with
      | [], hl => rw [List.length_nil] at hl; omega
      | x :: r, _ => exact ⟨_, _, rfl⟩
    · intro a ha
      obtain ⟨r, hr', rfl⟩ := List.mem_map.mp ha
      exact ⟨Nat.le_trans (sh_Row r).2 (by omega), noL_Row r⟩
    · exact sh_Rows.ok (by omega)
    · exact sh_Rows.ok (by omega)
    · rw [eqv_lst, eqvAll_map dRow eqv_Row, decide_eq_true rfl]
/-- _law_is_sheet -/
def R_lawSheet : List PyData → PyData → Prop := fun as d => ∃ C D rs m, as = [dF C D, dRows rs, .int m] ∧ C.length ≤ 7 ∧ RowsOk C.length rs ∧ (rs.length : Int) ≤ m ∧ KeepsAll C D rs ∧ d = .bool true
theorem c_lawSheet (D : Df K mg "_law_is_sheet" s_law_is_sheet ["_law_frame_here", "_law_v", "_law_most"]) (C1 : Callee P w K mg base "_law_is_rows" k R_fitsRows) (C2 : Callee P w K mg base "_law_keeps" k R_lawKeeps) : Callee P w K mg base "_law_is_sheet" (k + 1) R_lawSheet := callee_df D sc_law_is_sheet (fun as d h => by obtain ⟨_, _, _, _, rfl, _⟩ := h; rfl) fun cdv f A outer s H E hr as d h => by
  obtain ⟨C, D, rs, m, rfl, h1, h2, h3, h4, rfl⟩ := h
  exact Sd.ret (d := .bool (true && true)) (.and (.call C1 hr (Nat.le_refl _) (.cons (.ix ix_tup (vr 0 rfl) .int (rd_ixT (i := 0) rfl)) (.cons (vr 1 rfl) (.cons (vr 2 rfl) .nil))) ⟨C, rs, m, rfl, h2, h1, h3, rfl⟩) fun _ => .and1 (.call C2 hr (Nat.le_refl _) (.cons (.ix ix_tup (vr 0 rfl) .int (rd_ixT (i := 0) rfl)) (.cons (.ix ix_tup (vr 0 rfl) .int (rd_ixT (i := 1) rfl)) (.cons (vr 1 rfl) .nil))) ⟨C, D, rs, rfl, h1, h2.len, h4, rfl⟩)) rfl
end
end Pb

set_option Elab.async false
set_option linter.all false
set_option maxRecDepth 100000
set_option maxHeartbeats 1000000
namespace Pb
open PySem PySem.Spec PyProof.Rows L2 PySem.W PySem.SeqAt
open Evl (Ex)
theorem room65 {k : Nat} {A : Around} (r : Room (k + 1) A) : A.units + 65 < cLine := by have := r.un; omega
def isI (d : PyData) : Prop := ∃ z : Int, d = .int z
def inI (lo hi : Int) (d : PyData) : Prop := ∃ z : Int, d = .int z ∧ lo ≤ z ∧ z < hi
theorem rc_int {i : Int} : RC (fun xs H Q => (∃ i, xs = [V.int i] ∧ Q (.int i) H) ∨ ∃ k, xs = [V.bl k] ∧ Q (.int (if k then 1 else 0)) H) [.int i] (.int i) := fun vs H Q hv k => by
  cases hv with
  | cons h1 h2 =>
    cases h2
    cases h1
    exact .inl ⟨i, rfl, k _ H (Ex.refl H) (.int _)⟩
section
variable {X : Cx} {ds : DS} {e : Expr} {pos p0 : Pos} {p : PyData → Prop}
/-- int(e) -/
theorem En.int (B : Bi X.mg) (h : En X e ds p) (hp : ∀ d, p d → isI d) (hg : Gl X "int" := by rfl)
    (he : starEach (e :: []) X.env = (false, eval e X.env) :: starEach [] X.env := by rfl) (hpl : (backTo pos (starEach [] X.env)).any (·.1) = false := by rfl) : En X (.Call (.Name "int" p0) [e] [] pos) ds p :=
  En.callTy (C := fun as => ∃ d, p d ∧ as = [d]) call_int1 B.int (.cons h (.nil (C := fun as => as = []) rfl) (fun d as hd ha => ⟨d, hd, by rw [ha]⟩) he) (fun as ⟨d, hd, e⟩ => by
    obtain ⟨z, rfl⟩ := hp d hd
    exact ⟨_, hd, by rw [e]; exact rc_int⟩) (by decide +kernel) hg (by decide) (by decide) he hpl
end
section
variable {P : Program} {w : World} {K : PySem.W.Frag} {mg : Str → Option Value} {base : Heap} {k : Nat}
/-- _law_roll -/
def R_roll : List PyData → (PyData → Prop) → Prop := fun as p => ∃ m : Int, as = [cupD, .int m] ∧ 1 ≤ m ∧ m < 1000000 ∧ p = inI 0 m
theorem c_roll (D : Df K mg "_law_roll" s_law_roll ["_law_cup_here", "_law_many"]) (B : Bi mg) : CalleeN P w K mg base "_law_roll" (k + 1) R_roll := calleeN_mk D sc_law_roll (fun as d h => by obtain ⟨_, rfl, _⟩ := h; rfl) fun cdv f A outer s H E hr as p h => by
  obtain ⟨m, rfl, h1, h2, rfl⟩ := h
  have md : ∀ d1 d2, isI d1 → d2 = .int m → ∃ d, inI 0 m d ∧ RD (rI (fun _ j => 0 < j) fun i j => .int (i % j)) d1 d2 d := fun d1 d2 ⟨z, e1⟩ e2 => by
    subst e1 e2
    exact ⟨_, ⟨_, rfl, Int.emod_nonneg _ (by omega), Int.emod_lt_of_pos _ (by omega)⟩, rd_I (by omega)⟩
  have mdc : ∀ (j : Int), 0 < j → ∀ d1 d2, isI d1 → d2 = .int j → ∃ d, inI 0 j d ∧ RD (rI (fun _ j => 0 < j) fun i j => .int (i % j)) d1 d2 d := fun j hj d1 d2 ⟨z, e1⟩ e2 => by
    subst e1 e2
    exact ⟨_, ⟨_, rfl, Int.emod_nonneg _ (by omega), Int.emod_lt_of_pos _ hj⟩, rd_I hj⟩
  refine Sd.ifN (C := fun _ => True) (.cmp op_gt (.cup (j := 0) (vr 0 rfl) .int (by decide)) (.of .int (p := fun d => d = .int 0) rfl) (fun d1 d2 ⟨z, e1, _⟩ e2 => by
    subst e1 e2
    exact ⟨_, trivial, rd_B0⟩)) (fun _ => ?_) (fun _ => ?_)
  · refine Sd.setN (i := 3) (p := inI 0 m) (.op op_mod (.int B (.mono (.cup (j := 0) (vr 0 rfl) .int (by decide)) fun d ⟨z, e, _⟩ => (⟨z, e⟩ : isI d)) fun d h => h) (.of (vr 1 rfl) (p := fun d => d = .int m) rfl) md) (fun d hd => ?_) sc_law_roll.nd
    refine Sd.cup (j := 0) (p := isI) (.op op_fdiv (.cup (j := 0) (vr 0 rfl) .int (by decide)) (.of (vr 1 rfl) (p := fun d => d = .int m) rfl) (fun d1 d2 ⟨z, e1, _⟩ e2 => by
      subst e1 e2
      exact ⟨_, ⟨_, rfl⟩, rd_I ⟨by omega, by omega⟩⟩)) (vr 0 rfl) .int (by decide) (fun d ⟨z, e⟩ => ⟨z, e, fun h => absurd h (by decide)⟩) ?_
    exact Sd.ret (vr 3 rfl) hd
  · refine Sd.nil ?_
    refine Sd.cup (j := 1) (p := inI 0 2147483399) (.op op_mod (.int B (p := isI) (.op op_add (p := isI) (.op op_mul (.cup (j := 1) (vr 0 rfl) .int (by decide)) (.of .int (p := fun d => d = .int 30893) rfl) (fun d1 d2 ⟨z, e1, _⟩ e2 => by
      subst e1 e2
      exact ⟨_, ⟨_, rfl⟩, rd_I (.inr ⟨by decide, by decide⟩)⟩)) (.of .int (p := fun d => d = .int 7741) rfl) (fun d1 d2 ⟨z, e1⟩ e2 => by
      subst e1 e2
      exact ⟨_, ⟨_, rfl⟩, rd_I0⟩)) fun d h => h) (.of .int (p := fun d => d = .int 2147483399) rfl) (mdc _ (by decide))) (vr 0 rfl) .int (by decide) (fun d ⟨z, e, b1, b2⟩ => ⟨z, e, fun _ => ⟨b1, by omega⟩⟩) ?_
    refine Sd.setN (i := 2) (p := isI) (.mono (.op op_mod (.int B (p := isI) (.op op_mul (.cup (j := 1) (vr 0 rfl) .int (by decide)) (.op (r := isI) op_add (.cup (j := 1) (vr 0 rfl) .int (by decide)) (.of .int (p := fun d => d = .int 163) rfl) (fun d1 d2 ⟨z, e1, _⟩ e2 => by
      subst e1 e2
      exact ⟨_, ⟨_, rfl⟩, rd_I0⟩)) (fun d1 d2 ⟨z, e1, hz⟩ ⟨y, e2⟩ => by
      subst e1 e2
      have := hz rfl
      exact ⟨_, ⟨_, rfl⟩, rd_I (.inl ⟨by omega, by omega⟩)⟩)) fun d h => h) (.of .int (p := fun d => d = .int 2147483587) rfl) (mdc _ (by decide))) fun d ⟨z, e, _⟩ => ⟨z, e⟩) (fun d hd => ?_) sc_law_roll.nd
    refine Sd.retN (p := inI 0 m) (.op op_mod (.int B (p := isI) (.op op_fdiv (.of (vr 2 rfl) (p := isI) hd) (.of .int (p := fun d => d = .int 739) rfl) (fun d1 d2 ⟨z, e1⟩ e2 => by
      subst e1 e2
      exact ⟨_, ⟨_, rfl⟩, rd_I ⟨by decide, by decide⟩⟩)) fun d h => h) (.of (vr 1 rfl) (p := fun d => d = .int m) rfl) md) fun d h => h
/-- _law_some -/
def R_some : List PyData → (PyData → Prop) → Prop := fun as p => ∃ (xs : List PyData) (dt : PyData), as = [cupD, dt] ∧ xs ≠ [] ∧ xs.length ≤ 1000 ∧ (dt = .list xs ∨ dt = .tuple xs ∨ ∃ z : Str, dt = .str z ∧ xs = z.cps.toList.map fun c => .str ⟨#[c]⟩) ∧ p = fun d => d ∈ xs
theorem c_some (D : Df K mg "_law_some" s_law_some ["_law_cup_here", "_law_things"]) (B : Bi mg) (C1 : CalleeN P w K mg base "_law_roll" k R_roll) : CalleeN P w K mg base "_law_some" (k + 1) R_some := calleeN_mk D sc_law_some (fun as d h => by obtain ⟨_, _, rfl, _⟩ := h; rfl) fun cdv f A outer s H E hr as p h => by
  obtain ⟨xs, dt, rfl, h1, h2, h3, rfl⟩ := h
  have hpos : 0 < xs.length := List.length_pos_iff.mpr h1
  have got : ∀ d, inI 0 (xs.length : Nat) d → ∃ (i : Nat) (x : PyData), d = .int (i : Nat) ∧ xs[i]? = some x ∧ x ∈ xs := fun d ⟨z, e, b1, b2⟩ => by
    have hi : z.toNat < xs.length := by omega
    refine ⟨z.toNat, xs[z.toNat], ?_, List.getElem?_eq_getElem hi, List.getElem_mem hi⟩
    rw [e]
    congr 1
    omega
  have roll : ∀ as, as = [cupD, PyData.int (xs.length : Nat)] → ∃ q, R_roll as q ∧ ∀ d, q d → inI 0 (xs.length : Nat) d := fun as e => ⟨_, ⟨(xs.length : Nat), e, by omega, by omega, rfl⟩, fun d h => h⟩
  rcases h3 with rfl | rfl | ⟨z, rfl, rfl⟩
  · refine Sd.retN (p := fun d => d ∈ xs) (.ix (q := inI 0 (xs.length : Nat)) (p := fun d => d = .list xs) ix_list (.of (vr 1 rfl) rfl) (.call (C := fun as => as = [cupD, PyData.int (xs.length : Nat)]) C1 hr (Nat.le_refl _) (.of (.cons (vr 0 rfl) (.cons (.callB call_len_seq B.len (.cons (vr 1 rfl) .nil) (rc_len (.inl rfl))) .nil)) rfl) roll) (fun d1 d2 e1 e2 => ?_)) fun d h => h
    obtain ⟨i, x, rfl, hx, hm⟩ := got d2 e2
    subst e1
    exact ⟨x, hm, rd_ixL hx⟩
  · refine Sd.retN (p := fun d => d ∈ xs) (.ix (q := inI 0 (xs.length : Nat)) (p := fun d => d = .tuple xs) ix_tup (.of (vr 1 rfl) rfl) (.call (C := fun as => as = [cupD, PyData.int (xs.length : Nat)]) C1 hr (Nat.le_refl _) (.of (.cons (vr 0 rfl) (.cons (.callB call_len_seq B.len (.cons (vr 1 rfl) .nil) (rc_len (.inr rfl))) .nil)) rfl) roll) (fun d1 d2 e1 e2 => ?_)) fun d h => h
    obtain ⟨i, x, rfl, hx, hm⟩ := got d2 e2
    subst e1
    exact ⟨x, hm, rd_ixT hx⟩
  · have hl : z.length ≤ 100000 := by
      rw [List.length_map, Array.length_toList] at h2
      show z.cps.size ≤ _
      omega
    have hz : ((z.cps.toList.map fun c => PyData.str ⟨#[c]⟩).length : Nat) = z.length := by
      rw [List.length_map, Array.length_toList]
      rfl
    refine Sd.retN (p := fun d => d ∈ z.cps.toList.map fun c => PyData.str ⟨#[c]⟩) (.ix (q := inI 0 ((z.cps.toList.map fun c => PyData.str ⟨#[c]⟩).length : Nat)) (p := fun d => d = .str z) ix_str (.of (vr 1 rfl) rfl) (.call (C := fun as => as = [cupD, PyData.int ((z.cps.toList.map fun c => PyData.str ⟨#[c]⟩).length : Nat)]) C1 hr (Nat.le_refl _) (.of (.cons (vr 0 rfl) (.cons (.callB call_len_str B.len (.cons (vr 1 rfl) .nil) (rc_lenS hl)) .nil)) (by rw [hz])) roll) (fun d1 d2 e1 e2 => ?_)) fun d h => h
    obtain ⟨i, x, rfl, hx, hm⟩ := got d2 e2
    subst e1
    rw [List.getElem?_map] at hx
    cases hc : z.cps.toList[i]? with
    | none => rw [hc] at hx; cases hx
    | some c =>
      rw [hc] at hx
      cases hx
      exact ⟨_, hm, rd_ixS hl hc⟩
end
end Pb

set_option Elab.async false
set_option linter.all false
set_option maxRecDepth 100000
set_option maxHeartbeats 1000000
namespace Pb
open PySem PySem.Spec PyProof.Rows L2 PySem.W PySem.SeqAt
open Evl (Ex)
/-- a new list of two ints is a cup -/
theorem En.newCup {X : Cx} {ds : DS} {es : List Expr} {pos : Pos} {C : List PyData → Prop} (ha : An X es ds C) (hC : ∀ as, C as → ∃ p q : Int, as = [.int p, .int q] ∧ 0 ≤ q ∧ q < 4294967296) : En X (.List es pos) ds (fun d => d = cupD) := fun σ H Q hs k => ⟨fun pins s I => by
  refine thn ((pe_lst (wA.pa (es := es))).run pins s σ H (fun v H' => ∃ (p q : Int) (a : Addr) (H1 : Hp), v = .ref a ∧ H1 a = none ∧ H' = upd H1 a (lst2 p q) ∧ 0 ≤ q ∧ q < 4294967296 ∧ Ex H H1) I (ha σ H _ hs fun vs H1 as e1 h0 h1 => ?_)) fun u s1 ⟨v, H', I', r, p, q, a, H1, ev, hn, eH, b1, b2, e1⟩ => ?_
  · obtain ⟨p, q, rfl, b1, b2⟩ := hC as h0
    cases h1 with
    | cons g1 h1 =>
      cases h1 with
      | cons g2 h1 =>
        cases h1
        cases g1
        cases g2
        exact ⟨(by show 2 ≤ sizeLine; decide), fun a hn => ⟨p, q, a, H1, rfl, hn, rfl, b1, b2, e1⟩⟩
  · subst ev eH
    have J := cup_new I' upd_same b1 b2
    rw [upd_upd] at J
    exact ⟨.ref a, _, J, r, k _ _ _ (e1.trans (Ex.new hn)) rfl (.cup upd_same)⟩⟩
section
variable {P : Program} {w : World} {K : PySem.W.Frag} {mg : Str → Option Value} {base : Heap} {k : Nat}
/-- _law_cup -/
def spCup (K : PySem.W.Frag) : Sp := fun vs H Q _ => ∃ (a : Addr) (ns : List Int), vs = [.ref a] ∧ SqL K H a (ns.map V.int) ∧ ns.length ≤ 63 ∧ ∀ v H', Ex H H' → Dq H' v cupD → Q v H'
theorem cup_sd (B : Bi mg) {X : Cx} (hmg : X.mg = mg) : True := trivial
theorem c_cup (D : Df K mg "_law_cup" s_law_cup ["_law_script"]) (B : Bi mg) : ∃ (f : Addr) (fd : FuncData) (ps : List Str), FnOk P w K mg base CX0 (k + 1) f fd ps (spCup K) ∧ mg "_law_cup" = some (.ref f) ∧ PySem.W.keepIn K (.ref f) = true ∧ Binds K fd ps [] := by
  obtain ⟨f, fd, F, hm, hb⟩ := D
  refine ⟨f, fd, ["_law_script"], F.ok sc_law_cup (fun vs H Q E h => ?_) (fun cdv A outer s H vs Q E hr h => ?_), hm, F.kp, hb⟩
  · obtain ⟨a, ns, rfl, _⟩ := h
    rfl
  · obtain ⟨a, ns, rfl, hS, hl, q⟩ := h
    have rest : ∀ c : Int, Sd (cxOf CX0 P w K mg base ["_law_script", "_law_cell"] "_law_cup" (defScope s_law_cup) f cdv A outer s H E).nox ((defBody s_law_cup).drop 1) [none, some (.int c)] { rt := fun d => d = cupD } := fun c => by
      refine Sd.retN (.newCup (C := fun as => as = [.int (if (10 : Int) ^ (18 : Int).toNat ≤ c then c / 23 else 0), .int ((c * 223 + 1607) % 2077503827 + 101)]) (.of (.cons (.ifE (p := decide (((10 : Int) ^ (18 : Int).toNat) ≤ c)) (.cmp op_ge (vr 1 rfl) (.op op_pow .int .int (rd_I ⟨by decide, by decide, by decide⟩)) rd_B0) (fun h => Ed.is (.op op_fdiv (vr 1 rfl) .int (rd_I ⟨by decide, by decide⟩)) ?_) (fun h => Ed.is .int ?_)) (.cons (.op op_add (.op op_mod (.callTy call_int1 B.int (.cons (.op op_add (.op op_mul (vr 1 rfl) .int (rd_I (.inr ⟨by decide, by decide⟩))) .int rd_I0) .nil) rc_int) .int (rd_I (by decide))) .int rd_I0) .nil)) rfl) (fun as e => ⟨_, _, e, ?_, ?_⟩)) fun d h => h
      · rw [if_pos (of_decide_eq_true h)]
      · rw [if_neg (of_decide_eq_false h)]
      · have := Int.emod_nonneg (c * 223 + 1607) (b := 2077503827) (by decide)
        omega
      · have := Int.emod_lt_of_pos (c * 223 + 1607) (b := 2077503827) (by decide)
        omega
    refine ⟨_, pss_cons (ps_set (i := 1) sc_law_cup.nd rfl (.inl rfl) (pe_callB call_abs rfl B.abs (by decide +kernel) (pa_cons (pe_ix ix_list (pe_op op_cat (pe_callTy call_list_of rfl B.list (by decide +kernel) (pa_cons (pv 0) pa_nil) (by decide) (by decide)) (pe_lst (pa_cons pe_int pa_nil))) pe_int (fun _ _ => rfl)) pa_nil) (by decide) (by decide))) wSs.ps, ?_⟩
    obtain ⟨c0, r0, e0⟩ : ∃ (c0 : Int) (r0 : List V), ns.map V.int ++ [.int 0] = .int c0 :: r0 := by
      cases ns with
      | nil => exact ⟨0, [], rfl⟩
      | cons x r => exact ⟨x, _, rfl⟩
    refine ⟨.ref a, rfl, a, ns.map V.int, rfl, .inl hS, fun l nl => ⟨by show 1 ≤ sizeLine; decide, fun p np => ⟨l, p, ns.map V.int, [.int 0], rfl, rfl, ?_, upd_same, ?_, fun r nr => ⟨r, _, 0, .int c0, rfl, rfl, .of upd_same, ?_, c0, rfl, ?_⟩⟩⟩⟩
    · rw [upd_ne (fun e => by rw [e] at np; rw [← e, upd_same] at np; cases np), upd_same]
    · rw [List.length_map]
      exact Evl.sz_of (by show ns.length + 1 ≤ 100000; omega)
    · rw [e0]
      exact atI_nat (j := 0) rfl
    · exact rest _ H _ _ _ (((Ex.new nl).trans (Ex.new np)).trans (Ex.new nr)) (.cons trivial (.cons (.int _) .nil)) ⟨fun ds σ H' h e _ => h.elim, fun d' v H' h e hv => q v H' e (by rw [← h]; exact hv), fun _ _ _ h _ _ => h.elim, fun _ _ _ h _ _ => h.elim⟩
end
end Pb

set_option Elab.async false
set_option linter.all false
set_option maxRecDepth 100000
set_option maxHeartbeats 1000000
namespace Pb
open PySem PySem.Spec PyProof.Rows L2 PySem.W PySem.SeqAt
open Evl (Ex)
def six : List Str := ("abcdef" : Str).cps.toList.map fun c => ⟨#[c]⟩
theorem six_alpha : ∀ x ∈ six, x ∈ alpha := by decide +kernel
theorem words_of {α : Type} {P : α → PyData → Prop} {S : List Str} : ∀ {l : List (α × PyData)}, (∀ q ∈ l, P q.1 q.2) → (∀ a d, P a d → ∃ x, d = .str x ∧ x ∈ S) → ∃ ws : List Str, l.map (·.2) = ws.map .str ∧ ws.length = l.length ∧ ∀ x ∈ ws, x ∈ S
  | [], _, _ => ⟨[], rfl, rfl, fun x hx => by cases hx⟩
  | q :: l, h, hp => by
    obtain ⟨ws, e1, e2, e3⟩ := words_of (l := l) (fun r hr => h r (List.mem_cons_of_mem _ hr)) hp
    obtain ⟨x, e4, e5⟩ := hp _ _ (h q List.mem_cons_self)
    refine ⟨x :: ws, by rw [List.map_cons, List.map_cons, e4, e1], by rw [List.length_cons, List.length_cons, e2], fun y hy => ?_⟩
    rcases List.mem_cons.mp hy with rfl | hy
    · exact e5
    · exact e3 y hy
section
variable {P : Program} {w : World} {K : PySem.W.Frag} {mg : Str → Option Value} {base : Heap} {k : Nat}
/-- _law_frame -/
def R_lawFrame : List PyData → (PyData → Prop) → Prop := fun as p => as = [cupD, .int 5] ∧ p = fun d => ∃ C D, Frm C D ∧ d = dF C D
structure Dp (C : Lot) (D : List Dep) (n : Nat) : Prop where
  few : D.length ≤ n
  nd : D.Nodup
  ok : ∀ p ∈ D, InC C p.1 ∧ p.2 ∈ C ∧ p.2 ∉ p.1
theorem c_lawFrame (D : Df K mg "_law_frame" s_law_frame ["_law_cup_here", "_law_most"]) (B : Bi mg) (C1 : CalleeN P w K mg base "_law_roll" k R_roll) (C2 : CalleeN P w K mg base "_law_some" k R_some) (hk : 1 ≤ k) : CalleeN P w K mg base "_law_frame" (k + 1) R_lawFrame := calleeN_mk D sc_law_frame (fun as d h => by obtain ⟨rfl, _⟩ := h; rfl) fun cdv f A outer s H E hr as p h => by
  obtain ⟨rfl, rfl⟩ := h
  have hu : (A.deeper (envOfC "_law_frame" (defScope s_law_frame) s.heap.objs.size f cdv)).units + 65 < cLine := by
    match k, hk, hr with
    | k + 1, _, hr => exact room65 hr
  have roll5 : ∀ as, as = [cupD, PyData.int 5] → ∃ q, R_roll as q ∧ ∀ d, q d → inI 0 5 d := fun as e => ⟨_, ⟨5, e, by decide, by decide, rfl⟩, fun d h => h⟩
  refine Sd.setN (i := 2) (p := fun d => ∃ C : Lot, d = dS C ∧ IsLot C ∧ C ≠ [] ∧ C.length ≤ 5) (.callTy (C := fun as => ∃ C : Lot, as = [dL C] ∧ IsLot C ∧ C ≠ [] ∧ C.length ≤ 5) call_tuple_of B.tuple
    (.cons (C := fun as => as = []) (En.sortSet hr B (.lc (α := Nat) (C := fun ts => ∃ n, 1 ≤ n ∧ n ≤ 5 ∧ ts = List.range n) (Tt := fun _ => True) (enc := fun i => .int (i : Nat)) (P := fun _ d => ∃ x, d = .str x ∧ x ∈ six) (Sk := fun _ => False) (Ps := fun _ => True) (own := [("_law_turn", 4)])
        ⟨blkOk_by (N := ["_law_cup_here", "_law_most", "_law_columns", "_law_found", "_law_turn", "_law_column", "_law_lot", "_law_word"]) (sc := defScope s_law_frame) (by decide +kernel), ⟨[4], fun c => _, by simp, fun s H C' cl fp t ht => ⟨.name sc_law_frame.nd, .nil trivial, fun _ => .call (C := fun as => as = [cupD, .str "abcdef"]) C2 hr (Nat.le_refl _) (.of (.cons (vr 0 rfl) (.cons .str .nil)) rfl) ?_⟩⟩, ?_, ?_⟩
        (.range B.range (.op (p := fun d => d = .int 1) (r := inI 1 6) op_add (.of .int rfl) (.call (C := fun as => as = [cupD, .int 5]) C1 hr (Nat.le_refl _) (.of (.cons (vr 0 rfl) (.cons (vr 1 rfl) .nil)) rfl) roll5) ?_) ?_) sc_law_frame.nd) ?_) (.nil rfl) ?_) ?_) (fun d hd => ?_) sc_law_frame.nd
  · intro as e
    refine ⟨_, ⟨six.map .str, _, e, by decide +kernel, by decide +kernel, .inr (.inr ⟨_, rfl, ?_⟩), rfl⟩, fun d hd => ?_⟩
    · unfold six
      rw [List.map_map]
      rfl
    · obtain ⟨x, hx, rfl⟩ := List.mem_map.mp hd
      exact ⟨x, rfl, hx⟩
  · rintro t d ⟨x, rfl, _⟩
    exact noL_str x
  · rintro ts ⟨n, h1, h2, rfl⟩
    exact ⟨by rw [List.length_range]; omega, fun _ _ => trivial⟩
  · rintro d1 d2 rfl ⟨z, rfl, b1, b2⟩
    exact ⟨_, ⟨1 + z, rfl, by omega, by omega⟩, rd_I0⟩
  · rintro d ⟨z, rfl, b1, b2⟩
    refine ⟨z.toNat, by congr 1; omega, by omega, List.range z.toNat, ⟨z.toNat, by omega, by omega, rfl⟩, rfl⟩
  · rintro d ⟨ts, l, ⟨n, h1, h2, rfl⟩, hkp, rfl⟩
    obtain ⟨ws, e1, e2, e3⟩ := words_of hkp.all (fun _ _ h => h)
    have := hkp.len
    rw [List.length_range] at this
    exact ⟨ws, by rw [e1]; rfl, fun x hx => six_alpha x (e3 x hx), by omega⟩
  · rintro d as ⟨ls, ⟨ts, l, ⟨n, h1, h2, rfl⟩, hkp, e⟩, rfl⟩ rfl
    obtain ⟨ws, e1, e2, e3⟩ := words_of hkp.all (fun _ _ h => h)
    have hls : ls = ws := by
      have e4 : dL ls = dL ws := by rw [e, e1]; rfl
      have e5 := eqv_L ls ws
      rw [e4] at e5
      have e6 := eqv_L ws ws
      rw [e6, decide_eq_true rfl] at e5
      exact of_decide_eq_true e5.symm
    subst hls
    have hlen := hkp.full (fun _ h => h)
    have hl : l.length = n := by
      have := congrArg List.length hlen
      rw [List.length_map, List.length_range] at this
      exact this
    refine ⟨srt ls, rfl, srt_srt _, ?_, ?_⟩
    · match ls, e2, e3 with
      | [], e2, _ => rw [List.length_nil] at e2; omega
      | x :: r, _, e3 =>
        intro e
        have : x ∈ srt (x :: r) := mem_srt.mpr ⟨six_alpha x (e3 x List.mem_cons_self), List.mem_cons_self⟩
        rw [e] at this
        cases this
    · have := sub_len (C := ls) (l := srt ls) ⟨srt_srt _, fun x hx => (mem_srt.mp hx).2⟩
      omega
  · rintro as ⟨C, rfl, h1, h2, h3⟩
    exact ⟨dS C, ⟨C, rfl, h1, h2, h3⟩, rc_tuple⟩
  obtain ⟨C, rfl, h1, h2, h3⟩ := hd
  refine Sd.set (i := 3) (.tup .nil (by decide)) ?_ sc_law_frame.nd
  refine Sd.forN (.range (C := fun xs => xs.length ≤ 4) B.range (.call (C := fun as => as = [cupD, .int 5]) (p := inI 0 5) C1 hr (Nat.le_refl _) (.of (.cons (vr 0 rfl) (.cons .int .nil)) rfl) roll5) ?_) (fun xs i ds' => ∃ (D : List Dep) (a b c d : Option PyData), ds' = [some cupD, some (.int 5), some (dS C), some (dDeps D), a, b, c, d] ∧ Dp C D i)
    (fun xs _ => ⟨[], _, _, _, _, rfl, ⟨Nat.zero_le _, List.nodup_nil, fun p hp => by cases hp⟩⟩) (fun xs hxs i x ds' hx hI => ?_) fun xs hxs ds' hI => ?_
  · rintro d ⟨z, rfl, b1, b2⟩
    exact ⟨z.toNat, by congr 1; omega, by omega, by rw [List.length_map, List.length_range]; omega⟩
  · obtain ⟨D, a, b, c, d, rfl, hD⟩ := hI
    have hil : i < xs.length := (List.getElem?_eq_some_iff.mp hx).1
    have hDl := hD.few
    refine ⟨_, _, .name (i := 4) sc_law_frame.nd, ?_⟩
    refine Sd.setN (i := 5) (p := fun d => ∃ x, d = .str x ∧ x ∈ C) (.call (C := fun as => as = [cupD, dS C]) C2 hr (Nat.le_refl _) (.of (.cons (vr 0 rfl) (.cons (vr 2 rfl) .nil)) rfl) (fun as e => ⟨_, ⟨C.map .str, _, e, ?_, ?_, .inr (.inl rfl), rfl⟩, fun d hd => ?_⟩)) (fun d hd => ?_) sc_law_frame.nd
    · intro e
      exact h2 (List.map_eq_nil_iff.mp e)
    · rw [List.length_map]
      omega
    · obtain ⟨x, hx, rfl⟩ := List.mem_map.mp hd
      exact ⟨x, rfl, hx⟩
    obtain ⟨col, rfl, hcol⟩ := hd
    refine Sd.setN (i := 6) (p := fun d => ∃ l : Lot, d = dS l ∧ InC C l ∧ col ∉ l) (.callTy (C := fun as => ∃ l : Lot, as = [dL l] ∧ InC C l ∧ col ∉ l) call_tuple_of B.tuple
      (.cons (C := fun as => as = []) (.lc (α := Str) (C := fun ts => ts = C) (Tt := fun _ => True) (enc := .str) (P := fun x d => d = .str x ∧ x ≠ col) (Sk := fun _ => True) (Ps := fun x => x ≠ col) (own := [("_law_word", 7)])
        ⟨blkOk_by (N := ["_law_cup_here", "_law_most", "_law_columns", "_law_found", "_law_turn", "_law_column", "_law_lot", "_law_word"]) (sc := defScope s_law_frame) (by decide +kernel), ⟨[7], fun c => _, by simp, fun s H C' cl fp t ht => ⟨.name sc_law_frame.nd, .one (Wn.t (.and (.cmp op_ne (vr 7 rfl) (vr 5 rfl) rd_neS) (fun ht => .and1 (.cmp (p := inI 0 5) (q := fun d => d = .int 2) op_lt (.call (C := fun as => as = [cupD, .int 5]) C1 hr (Nat.le_refl _) (.of (.cons (vr 0 rfl) (.cons .int .nil)) rfl) roll5) (.of .int rfl) ?_)) ?_)), fun hne => .of (vr 7 rfl) ⟨rfl, hne⟩⟩⟩, ?_, ?_⟩
        (.of (.tup (vr 2 rfl)) ⟨C, rfl, rfl⟩) sc_law_frame.nd) (.nil rfl) ?_) ?_) (fun d hd => ?_) sc_law_frame.nd
    · rintro d1 d2 ⟨z, rfl, _⟩ rfl
      refine ⟨_, ?_, rd_B0⟩
      have hne : t ≠ col := by simpa using ht
      by_cases hz : z < 2
      · rw [decide_eq_true hz, if_pos rfl]
        exact hne
      · rw [decide_eq_false hz, if_neg (by decide)]
        trivial
    · intro _
      rw [if_neg (by decide)]
      trivial
    · rintro t d ⟨rfl, _⟩
      exact noL_str t
    · rintro ts rfl
      exact ⟨by omega, fun _ _ => trivial⟩
    · rintro d as ⟨ts, l, rfl, hkp, rfl⟩ rfl
      have e : l.map (·.2) = (l.map (·.1)).map .str := by
        rw [List.map_map]
        exact List.map_congr_left fun q hq => (hkp.all q hq).1
      refine ⟨l.map (·.1), by rw [e]; rfl, (mem_allLots h1).mp (mem_allLots'.mpr hkp.sub), fun hm => ?_⟩
      obtain ⟨q, hq, e2⟩ := List.mem_map.mp hm
      exact (hkp.all q hq).2 e2
    · rintro as ⟨l, rfl, q1, q2⟩
      exact ⟨dS l, ⟨l, rfl, q1, q2⟩, rc_tuple⟩
    obtain ⟨l, rfl, q1, q2⟩ := hd
    have sh1 : SeqAt.shaped (dDep (l, col)) = true := (sh_Dep q1.lot.wds (alpha_ok _ (h1.al _ hcol))).ok (by omega)
    have sh2 : SeqAt.shaped (dDeps D) = true := (Sh.tup fun d hd => by
      obtain ⟨p, hp, rfl⟩ := List.mem_map.mp hd
      exact sh_Dep (hD.ok p hp).1.lot.wds (alpha_ok _ (h1.al _ (hD.ok p hp).2.1)) : Sh 3 _).ok (by omega)
    by_cases hm : (l, col) ∈ D
    · refine Sd.set (i := 3) (d := dDeps D) (Ed.is (.op op_catA (vr 3 rfl) (.ifE (p := false) (Et.is (.cmp (op_notInT hu) (.tup (.cons (vr 6 rfl) (.cons (vr 5 rfl) .nil)) (by show 2 ≤ 100000; omega)) (vr 3 rfl) (rd_notInT (p := (l, col)) sh1 sh2)) ?_) (fun h => by cases h) fun _ => .tup .nil (by decide)) (rd_catT (by rw [List.length_map]; show D.length + 0 ≤ _; omega))) ?_) (Sd.nil ⟨D, _, _, _, _, rfl, ⟨by omega, hD.nd, hD.ok⟩⟩) sc_law_frame.nd
      · rw [decide_eq_true hm]
        rfl
      · rw [List.append_nil]
        rfl
    · refine Sd.set (i := 3) (d := dDeps (D ++ [(l, col)])) (Ed.is (.op op_catA (vr 3 rfl) (.ifE (p := true) (Et.is (.cmp (op_notInT hu) (.tup (.cons (vr 6 rfl) (.cons (vr 5 rfl) .nil)) (by show 2 ≤ 100000; omega)) (vr 3 rfl) (rd_notInT (p := (l, col)) sh1 sh2)) ?_) (fun _ => .tup (.cons (.tup (.cons (vr 6 rfl) (.cons (vr 5 rfl) .nil)) (by show 2 ≤ 100000; omega)) .nil) (by show 1 ≤ 100000; omega)) (fun h => by cases h)) (rd_catT (by rw [List.length_map]; show D.length + 1 ≤ _; omega))) ?_) (Sd.nil ⟨D ++ [(l, col)], _, _, _, _, rfl, ⟨?_, ?_, ?_⟩⟩) sc_law_frame.nd
      · rw [decide_eq_false hm]
        rfl
      · rw [dDeps, List.map_append]
        rfl
      · rw [List.length_append, List.length_singleton]
        omega
      · rw [List.nodup_append]
        refine ⟨hD.nd, List.nodup_cons.mpr ⟨by simp, List.nodup_nil⟩, fun a ha b hb e => ?_⟩
        rw [List.mem_singleton] at hb
        subst e hb
        exact hm ha
      · intro p hp
        rcases List.mem_append.mp hp with q | q
        · exact hD.ok p q
        · rw [List.mem_singleton] at q
          rw [q]
          exact ⟨q1, hcol, q2⟩
  · obtain ⟨D, a, b, c, d, rfl, hD⟩ := hI
    have := hD.few
    exact Sd.ret (d := dF C D) (.tup (.cons (vr 2 rfl) (.cons (vr 3 rfl) .nil)) (by show 2 ≤ 100000; omega)) ⟨C, D, ⟨h1, h2, h3, by omega, hD.nd, hD.ok⟩, rfl⟩
end
end Pb

set_option Elab.async false
set_option linter.all false
set_option maxRecDepth 100000
set_option maxHeartbeats 1000000
namespace Pb
open PySem PySem.Spec PyProof.Rows L2 PySem.W PySem.SeqAt
open Evl (Ex)
/-! ### telling rows -/
def stepR (D : List Dep) (kn : List Str) (i : Nat) : Option (List Str) := if i < D.length ∧ sbB (dep D i).1 kn = true then some (kn ++ [(dep D i).2]) else none
def runs (D : List Dep) : List Str → List Nat → Option (List Str)
  | kn, [] => some kn
  | kn, i :: r => (stepR D kn i).bind fun k2 => runs D k2 r
theorem runs_app (D : List Dep) : ∀ (r : List Nat) (kn : List Str) (i : Nat), runs D kn (r ++ [i]) = (runs D kn r).bind fun k => stepR D k i
  | [], kn, i => by
    show (stepR D kn i).bind some = stepR D kn i
    cases stepR D kn i <;> rfl
  | j :: r, kn, i => by
    show (stepR D kn j).bind (fun k2 => runs D k2 (r ++ [i])) = ((stepR D kn j).bind fun k2 => runs D k2 r).bind fun k => stepR D k i
    cases stepR D kn j with
    | none => rfl
    | some k2 => exact runs_app D r k2 i
structure TellOk (D : List Dep) (l : List Str) (c : Str) (f : List Nat) (kn : List Str) : Prop where
  nd : f.Nodup
  lt : ∀ i ∈ f, i < D.length
  run : runs D l f = some kn
  mem : c ∈ kn
theorem dep_mem {D : List Dep} {i : Nat} (h : i < D.length) : dep D i ∈ D := by
  unfold dep
  rw [List.getD_eq_getElem?_getD, List.getElem?_eq_getElem h]
  exact List.getElem_mem h
theorem mem_dep {D : List Dep} {p : Dep} (h : p ∈ D) : ∃ i, i < D.length ∧ dep D i = p := by
  obtain ⟨i, hi, e⟩ := List.mem_iff_getElem.mp h
  exact ⟨i, hi, dep_at (by rw [List.getElem?_eq_getElem hi, e])⟩
theorem tell_spec {C : Lot} {D : List Dep} {l : Lot} {c : Str} (h : Frm C D) (hl : IsLot l) : ∀ (m : Nat) (known : List Str) (found : List Nat), Tl D l m known found → runs D l found = some known → Sb l known → Sb known (clo D l) → (∀ i ∈ found, (dep D i).2 ∈ known) →
    (tell D c m known found = none ∧ c ∉ clo D l) ∨ ∃ f kn, tell D c m known found = some f ∧ TellOk D l c f kn ∧ c ∈ clo D l := by
  have L := h.clo hl
  have stop : ∀ (known : List Str) (found : List Nat), Sb l known → Sb known (clo D l) → (∀ i ∈ found, (dep D i).2 ∈ known) → c ∉ known → cand D known found = [] → c ∉ clo D l := fun known found h1 h2 h3 h4 h5 hc => by
    have hk : Sb (clo D l) (srt known) := L.le (srt known) (srt_srt _) (fun p hp hs => by
      obtain ⟨i, hi, rfl⟩ := mem_dep hp
      have hsb : Sb (dep D i).1 known := fun x hx => (mem_srt.mp (hs x hx)).2
      refine mem_srt.mpr ⟨(h.al _ hp).1, ?_⟩
      refine Classical.byContradiction fun hn => ?_
      have hif : i ∉ found := fun q => hn (h3 i q)
      have : i ∈ cand D known found := List.mem_filter.mpr ⟨List.mem_range.mpr hi, by
        unfold candP
        rw [decide_eq_false hif, sbB_iff.mpr hsb]
        rfl⟩
      rw [h5] at this
      cases this) fun x hx => mem_srt.mpr ⟨hl.al x hx, h1 x hx⟩
    exact h4 (mem_srt.mp (hk c hc)).2
  intro m
  induction m with
  | zero =>
    intro known found T h1 h2 h3 h4
    by_cases hc : c ∈ known
    · exact .inr ⟨found, known, tell_in hc 0, ⟨T.nd, T.lt, h1, hc⟩, h3 c hc⟩
    · have e : cand D known found = [] := by
        match e : cand D known found with
        | [] => rfl
        | i :: r =>
          obtain ⟨a1, a2, _⟩ := cand_lt (D := D) (known := known) (found := found) (i := i) (by rw [e]; exact List.mem_cons_self)
          obtain ⟨m', em, _⟩ := T.next a1 a2
          cases em
      exact .inl ⟨tell_no hc e 0, stop known found h2 h3 h4 hc e⟩
  | succ m ih =>
    intro known found T h1 h2 h3 h4
    by_cases hc : c ∈ known
    · exact .inr ⟨found, known, tell_in hc _, ⟨T.nd, T.lt, h1, hc⟩, h3 c hc⟩
    · match e : cand D known found with
      | [] => exact .inl ⟨tell_no hc e _, stop known found h2 h3 h4 hc e⟩
      | i :: r =>
        obtain ⟨a1, a2, a3⟩ := cand_lt (D := D) (known := known) (found := found) (i := i) (by rw [e]; exact List.mem_cons_self)
        obtain ⟨m', em, T'⟩ := T.next a1 a2
        cases em
        rw [tell_go hc e]
        refine ih _ _ T' ?_ (fun x hx => List.mem_append_left _ (h2 x hx)) (fun x hx => ?_) fun j hj => ?_
        · rw [runs_app, h1]
          show stepR D known i = _
          unfold stepR
          rw [if_pos ⟨a1, sbB_iff.mpr a3⟩]
        · rcases List.mem_append.mp hx with q | q
          · exact h3 x q
          · rw [List.mem_singleton] at q
            rw [q]
            exact L.cl _ (dep_mem a1) fun y hy => h3 y (a3 y hy)
        · rcases List.mem_append.mp hj with q | q
          · exact List.mem_append_left _ (h4 j q)
          · rw [List.mem_singleton] at q
            rw [q]
            exact List.mem_append_right _ (List.mem_singleton.mpr rfl)
theorem tell_top {C : Lot} {D : List Dep} {l : Lot} {c : Str} (h : Frm C D) (hl : IsLot l) : (tell D c D.length l [] = none ∧ c ∉ clo D l) ∨ ∃ f kn, tell D c D.length l [] = some f ∧ TellOk D l c f kn ∧ c ∈ clo D l :=
  tell_spec h hl D.length l [] ⟨List.nodup_nil, fun i hi => (by cases hi), by simp, by simp⟩ rfl (fun x hx => hx) (h.clo hl).up fun i hi => (by cases hi)
/-! ### the two rows -/
theorem zeros_len (C : List Str) : (zerosD C).length = C.length := by rw [zerosD, List.length_map]
theorem ones_len (C L : List Str) : (onesD C L).length = C.length := by rw [onesD, List.length_map]
theorem zeros_lt : ∀ (C L : List Str), (∃ x ∈ C, x ∉ L) → zerosD C < onesD C L ∧ ¬ onesD C L < zerosD C
  | [], _, ⟨x, hx, _⟩ => by cases hx
  | c :: C, L, h => by
    by_cases hc : c ∈ L
    · have h2 : ∃ x ∈ C, x ∉ L := by
        obtain ⟨x, hx, hn⟩ := h
        rcases List.mem_cons.mp hx with rfl | hx
        · exact absurd hc hn
        · exact ⟨x, hx, hn⟩
      obtain ⟨a, b⟩ := zeros_lt C L h2
      have e1 : zerosD (c :: C) = 0 :: zerosD C := rfl
      have e2 : onesD (c :: C) L = 0 :: onesD C L := by
        show (if c ∈ L then 0 else 1) :: onesD C L = _
        rw [if_pos hc]
      rw [e1, e2, List.cons_lt_cons_iff, List.cons_lt_cons_iff]
      refine ⟨.inr ⟨rfl, a⟩, ?_⟩
      rintro (q | ⟨_, q⟩)
      · exact absurd q (by decide)
      · exact b q
    · have e1 : zerosD (c :: C) = 0 :: zerosD C := rfl
      have e2 : onesD (c :: C) L = 1 :: onesD C L := by
        show (if c ∈ L then 0 else 1) :: onesD C L = _
        rw [if_neg hc]
      rw [e1, e2, List.cons_lt_cons_iff, List.cons_lt_cons_iff]
      refine ⟨.inl (by decide), ?_⟩
      rintro (q | ⟨q, _⟩)
      · exact absurd q (by decide)
      · exact absurd q (by decide)
theorem row_lt (r o : List Int) : dataLt (dRow r) (dRow o) = decide (r < o) := by
  unfold dRow
  rw [dataLt_tuple]
  exact dataLt_ints r o
theorem rows_ok {C L : List Str} (h : ∃ x ∈ C, x ∉ L) : RowsOk C.length [zerosD C, onesD C L] where
  few := Nat.le_refl 2
  pos := by
    obtain ⟨x, hx, _⟩ := h
    exact List.length_pos_of_mem hx
  len := fun r hr => by
    rcases List.mem_cons.mp hr with rfl | hr
    · exact zeros_len C
    · rw [List.mem_singleton.mp hr]
      exact ones_len C L
  bd := fun r hr x hx => by
    rcases List.mem_cons.mp hr with rfl | hr
    · obtain ⟨y, _, rfl⟩ := List.mem_map.mp hx
      decide
    · rw [List.mem_singleton.mp hr] at hx
      obtain ⟨y, _, rfl⟩ := List.mem_map.mp hx
      split <;> decide
  inc := by
    obtain ⟨a, b⟩ := zeros_lt C L h
    refine List.pairwise_cons.mpr ⟨fun r hr => ?_, List.pairwise_cons.mpr ⟨fun r hr => (by cases hr), .nil⟩⟩
    rw [List.mem_singleton.mp hr, row_lt, row_lt]
    exact ⟨decide_eq_true a, decide_eq_false b⟩
theorem zeros_at {C : List Str} {i : Nat} (h : i < C.length) : (zerosD C).getD i 0 = 0 := by
  unfold zerosD
  rw [List.getD_eq_getElem?_getD, List.getElem?_map, List.getElem?_eq_getElem h]
  rfl
theorem ones_at {C L : List Str} {i : Nat} (h : i < C.length) : (onesD C L).getD i 0 = if C.getD i "" ∈ L then 0 else 1 := by
  unfold onesD
  rw [List.getD_eq_getElem?_getD, List.getElem?_map, List.getD_eq_getElem?_getD, List.getElem?_eq_getElem h]
  rfl
theorem cut_two {C L : List Str} (M : List Str) : cut C M (zerosD C) = cut C M (onesD C L) ↔ ∀ x ∈ C, x ∈ M → x ∈ L := by
  rw [cut_iff M C _ _ (zeros_len C) (ones_len C L)]
  refine ⟨fun h x hx hm => ?_, fun h i hi hm => ?_⟩
  · obtain ⟨i, hi, rfl⟩ := List.mem_iff_getElem.mp hx
    have e : C.getD i "" = C[i] := by rw [List.getD_eq_getElem?_getD, List.getElem?_eq_getElem hi]; rfl
    have := h i hi (by rw [e]; exact hm)
    rw [zeros_at hi, ones_at hi, e] at this
    refine Classical.byContradiction fun hn => ?_
    rw [if_neg hn] at this
    exact absurd this (by decide)
  · have e : C.getD i "" = C[i] := by rw [List.getD_eq_getElem?_getD, List.getElem?_eq_getElem hi]; rfl
    rw [e] at hm
    rw [zeros_at hi, ones_at hi, e, if_pos (h _ (List.getElem_mem hi) hm)]
theorem two_keep {C : Lot} {D : List Dep} {l : Lot} (h : Frm C D) (hl : IsLot l) : KeepsAll C D [zerosD C, onesD C (clo D l)] := by
  have L := h.clo hl
  have key : ∀ p ∈ D, cut C p.1 (zerosD C) = cut C p.1 (onesD C (clo D l)) → cut C [p.2] (zerosD C) = cut C [p.2] (onesD C (clo D l)) := fun p hp q => by
    rw [cut_two] at q ⊢
    intro x hx hm
    rw [List.mem_singleton] at hm
    subst hm
    exact L.cl p hp fun y hy => q y ((h.ok p hp).1.sub y hy) hy
  intro r hr o ho p hp q
  rcases List.mem_cons.mp hr with rfl | hr <;> rcases List.mem_cons.mp ho with rfl | ho
  · rfl
  · rw [List.mem_singleton.mp ho] at q ⊢
    exact key p hp q
  · rw [List.mem_singleton.mp hr] at q ⊢
    exact (key p hp q.symm).symm
  · rw [List.mem_singleton.mp hr, List.mem_singleton.mp ho]
theorem keeps_of {C : List Str} {D : List Dep} {rs : List (List Int)} (h : KeepsAll C D rs) : Keeps C D rs := fun i j _ r o h1 h2 p hp q => h r (List.mem_of_getElem? h1) o (List.mem_of_getElem? h2) p hp q
end Pb

set_option Elab.async false
set_option linter.all false
set_option maxRecDepth 100000
set_option maxHeartbeats 1000000
namespace Pb
open PySem PySem.Spec PyProof.Rows L2 PySem.W PySem.SeqAt
open Evl (Ex)
def noO : Option PyData → Bool
  | none => true
  | some d => noL d
theorem slots_tst {H H' : Hp} (e : Tst H H') : ∀ {σ : L2.St} {ds : DS}, ds.all noO = true → Slots H σ ds → Slots H' σ ds
  | _, _, _, .nil => .nil
  | a :: _, b :: _, hn, .cons r t => by
    rw [List.all_cons, Bool.and_eq_true] at hn
    refine .cons ?_ (slots_tst e hn.2 t)
    match a, b, r, hn.1 with
    | _, none, _, _ => trivial
    | some v, some d, r, n => exact dp_tst e d v n r
    | none, some _, r, _ => exact r.elim
theorem slots_forget {H : Hp} : ∀ {σ : L2.St} {ds : DS} (i : Nat), Slots H σ ds → Slots H σ (ds.set i none)
  | _, _, _, .nil => .nil
  | a :: _, b :: _, 0, .cons _ t => .cons (by cases a <;> trivial) t
  | a :: _, b :: _, i + 1, .cons r t => .cons r (slots_forget i t)
theorem slots_at {H : Hp} {v : V} {d : PyData} (h : Dq H v d) : ∀ {σ : L2.St} {ds : DS} (i : Nat), Slots H σ (ds.set i none) → σ[i]? = some (some v) → Slots H σ (ds.set i (some d))
  | _, [], _, .nil, e => by simp at e
  | a :: _, b :: _, 0, .cons r t, e => by
    have e : a = some v := by simpa using e
    subst e
    exact .cons h t
  | a :: _, b :: _, i + 1, .cons r t, e => .cons r (slots_at h i t (by simpa using e))
section
variable {P : Program} {w : World} {K : PySem.W.Frag} {mg : Str → Option Value} {base : Heap} {k : Nat}
/-- _law_tells -/
def R_tells : List PyData → PyData → Prop := fun as d => ∃ D l c f kn, as = [dDeps D, dS l, .str c, dN f] ∧ D.length ≤ 8 ∧ (∀ p ∈ D, p.1.length ≤ 7 ∧ ∀ x ∈ p.1, x ∈ alpha) ∧ l.length ≤ 7 ∧ TellOk D l c f kn ∧ d = .bool true
theorem runs_take {D : List Dep} {l : List Str} {f : List Nat} {kn : List Str} (h : runs D l f = some kn) {i j : Nat} (hj : f[i]? = some j) : ∃ k1, runs D l (f.take i) = some k1 ∧ j < D.length ∧ sbB (dep D j).1 k1 = true ∧ runs D l (f.take (i + 1)) = some (k1 ++ [(dep D j).2]) := by
  have htk : f.take (i + 1) = f.take i ++ [j] := by rw [List.take_succ, hj]; rfl
  have e : runs D l f = (runs D l (f.take (i + 1))).bind fun k => runs D k (f.drop (i + 1)) := by
    have key : ∀ (a b : List Nat) (l : List Str), runs D l (a ++ b) = (runs D l a).bind fun k => runs D k b := by
      intro a
      induction a with
      | nil => intro b l; rfl
      | cons x a ih =>
        intro b l
        show (stepR D l x).bind (fun k2 => runs D k2 (a ++ b)) = ((stepR D l x).bind fun k2 => runs D k2 a).bind fun k => runs D k b
        cases stepR D l x with
        | none => rfl
        | some k2 => exact ih b k2
    rw [← key, List.take_append_drop]
  rw [htk, runs_app] at e
  rw [h] at e
  cases h1 : runs D l (f.take i) with
  | none => rw [h1] at e; cases e
  | some k1 =>
    rw [h1] at e
    have e2 : some kn = (stepR D k1 j).bind fun k => runs D k (f.drop (i + 1)) := e
    unfold stepR at e2
    by_cases hc : j < D.length ∧ sbB (dep D j).1 k1 = true
    · refine ⟨k1, rfl, hc.1, hc.2, ?_⟩
      rw [htk, runs_app, h1]
      show stepR D k1 j = _
      unfold stepR
      rw [if_pos hc]
    · rw [if_neg hc] at e2
      cases e2
theorem runs_len {D : List Dep} : ∀ (f : List Nat) (l kn : List Str), runs D l f = some kn → kn.length = l.length + f.length
  | [], l, kn, h => by
    cases h
    rfl
  | i :: r, l, kn, h => by
    have h : (stepR D l i).bind (fun k2 => runs D k2 r) = some kn := h
    unfold stepR at h
    split at h
    · have := runs_len r _ _ h
      rw [List.length_append, List.length_singleton] at this
      rw [List.length_cons]
      omega
    · cases h
theorem c_tells (Df0 : Df K mg "_law_tells" s_law_tells ["_law_dependencies", "_law_lot", "_law_column", "_law_row"]) (B : Bi mg) (C1 : Callee P w K mg base "_law_has" k R_has) : Callee P w K mg base "_law_tells" (k + 1) R_tells := callee_df Df0 sc_law_tells (fun as d h => by obtain ⟨_, _, _, _, _, rfl, _⟩ := h; rfl) fun cdv fa A outer s H E hr as d h => by
  obtain ⟨D, l, c, f, kn, rfl, hD, hp, hl, T, rfl⟩ := h
  have hfl := nat_few T.nd T.lt
  have nl : (dN f) = .tuple ((f.map fun (i : Nat) => (Sum.inl (i : Int) : Key)).map kD) := by
    rw [dN, dRow, List.map_map, List.map_map]
    rfl
  refine Sd.skip (Et.is (Ew.t (.or (.not (.val (Ed.isi (n := "tuple") B.isi B.tuple (vr 3 rfl) rfl))) fun _ => .or1 (.cmp op_ne (.lenSet (n := f.length) B.len (.flat (ks := f.map fun (i : Nat) => (Sum.inl (i : Int) : Key)) B.set (vr 3 rfl) (.inr nl) (by rw [List.length_map]; omega)) ?_) (.callB call_len_seq B.len (.cons (vr 3 rfl) .nil) (rc_len (xs := (f.map Int.ofNat).map .int) (.inr rfl))) rd_neI))) ?_) ?_
  · intro es h1 h2
    have nd : ((f.map fun (i : Nat) => (Sum.inl (i : Int) : Key)).map kD).Nodup := by
      rw [List.map_map]
      refine List.pairwise_map.mpr (T.nd.imp fun hne e => hne ?_)
      have e : PyData.int _ = PyData.int _ := e
      injection e with e
      omega
    rw [perm_len h1 nd h2, List.length_map, List.length_map]
  · rw [List.length_map, List.length_map, decide_eq_true rfl]
    rfl
  -- known = list(lot); the loop
  intro H0 σ G Dn e0 hs L
  have hNd := sc_law_tells.nd
  refine wSs.of (pss_cons (ps_set (i := 4) hNd rfl (.inl rfl) (pe_callTy call_list_of rfl B.list (by decide +kernel) (pa_cons wE.pe pa_nil) (by decide) (by decide))) (pss_cons (ps_for PassesOwn.never rfl (pi_tup wE.pe) (pg_name (i := 5) hNd rfl (.inl rfl))
    (pss_cons (ps_if wT.pt wSs.ps pss_nil) (pss_one (ps_expr (pe_bm PySem.F.plainAttrs_list PySem.F.slot_list_append PySem.F.type_list_append mt_append (pv 4) (pa_cons wE.pe pa_nil)))))) wSs.ps)) ?_
  refine (vr (d := dS l) 1 rfl : Ed _ _ [some (dDeps D), some (dS l), some (.str c), some (dN f), none, none] _) σ G _ hs fun v G1 e1 hv => ?_
  cases hv with
  | @tup b0 vs0 _ g1 g2 =>
  have ev := dpAll_strs g2
  subst ev
  refine ⟨_, _, rfl, .inr (.of g1), fun a na => ?_⟩
  have hs1 : Slots (upd G1 a (.lst (l.map V.str))) (σ.set 4 (some (.ref a))) [some (dDeps D), some (dS l), some (.str c), some (dN f), some (dL l), none] :=
    slots_set (ds := [some (dDeps D), some (dS l), some (.str c), some (dN f), none, none]) (.lst upd_same (dpAll_ofStrs l)) 4 (slots_mono (e1.trans (Ex.new na)) hs)
  have s4 : (σ.set 4 (some (V.ref a)))[4]? = some (some (.ref a)) := by
    have hlen : σ.length = 6 := by
      have := Paired.length hs
      exact this
    rw [List.getElem?_set_self (by omega)]
  refine (vr (d := dN f) 3 rfl : Ed _ _ [some (dDeps D), some (dS l), some (.str c), some (dN f), some (dL l), none] _) _ _ _ hs1 fun v G2 e2 hv => ?_
  cases hv with
  | @tup b xs _ f1 f2 =>
  have na2 : G2 a = some (.lst (l.map V.str)) := e2 _ _ upd_same
  -- the row lies apart from the list
  have ev := dpAll_ints f2
  subst ev
  have frow : ∀ H', Tst G2 H' → SqT K H' b ((f.map Int.ofNat).map V.int) := fun H' t => .of (t _ _ f1)
  refine ⟨_, rfl, ⟨_, .of f1⟩, fun i m σ' H' => m = f.length - i ∧ i ≤ f.length ∧ Tst G2 H' ∧ Ex G1 H' ∧ ∃ (k1 : List Str) (x5 : Option PyData), runs D l (f.take i) = some k1 ∧ H' a = some (.lst (k1.map V.str)) ∧ σ'[4]? = some (some (.ref a)) ∧ noO x5 = true ∧ Slots H' σ' [some (dDeps D), some (dS l), some (.str c), some (dN f), some (dL k1), x5],
    ⟨f.length, by omega, Nat.zero_le _, Tst.refl _, (Ex.new na).trans e2, l, none, rfl, na2, s4, rfl, slots_mono e2 hs1⟩, fun i m σ' H' hW => ?_⟩
  obtain ⟨rfl, hi, ht, hx, k1, x5, hrun, ha, h4, hx5, hsl⟩ := hW
  by_cases hlt : i < f.length
  · have hj : f[i]? = some f[i] := List.getElem?_eq_getElem hlt
    obtain ⟨k2, r1, r2, r3, r4⟩ := runs_take T.run hj
    have ek : k2 = k1 := Option.some.inj (r1.symm.trans hrun)
    subst ek
    have hget : ((f.map Int.ofNat).map V.int)[i]? = some (.int (f[i] : Nat)) := by
      rw [List.getElem?_map, List.getElem?_map, hj]
      rfl
    refine .inr ⟨⟨_, _, frow _ ht, hget⟩, fun σ'' H'' => i + 1 ≤ f.length ∧ Tst G2 H'' ∧ Ex G1 H'' ∧ ∃ (k1 : List Str) (x5 : Option PyData), runs D l (f.take (i + 1)) = some k1 ∧ H'' a = some (.lst (k1.map V.str)) ∧ σ''[4]? = some (some (.ref a)) ∧ noO x5 = true ∧ Slots H'' σ'' [some (dDeps D), some (dS l), some (.str c), some (dN f), some (dL k1), x5],
      fun σ'' H'' q => ⟨f.length - (i + 1), by omega, rfl, q⟩, fun x H'' hy => ?_⟩
    obtain ⟨rfl, hfx⟩ := hy
    have ex : x = .int (f[i] : Nat) := Option.some.inj ((hfx _ (frow _ ht)).symm.trans hget)
    subst ex
    have hs2 : Slots H'' (σ'.set 5 (some (.int (f[i] : Nat)))) [some (dDeps D), some (dS l), some (.str c), some (dN f), some (dL k2), some (.int (f[i] : Nat))] := slots_set (ds := [some (dDeps D), some (dS l), some (.str c), some (dN f), some (dL k2), x5]) (.int _) 5 hsl
    have h42 : (σ'.set 5 (some (V.int (f[i] : Nat))))[4]? = some (some (.ref a)) := by
      rw [List.getElem?_set_ne (by decide)]
      exact h4
    have hdi : D[f[i]]? = some (dep D f[i]) := by
      unfold dep
      rw [List.getD_eq_getElem?_getD, List.getElem?_eq_getElem r2]
      rfl
    have hixd : (D.map dDep)[f[i]]? = some (dDep (dep D f[i])) := by
      rw [List.getElem?_map, hdi]
      rfl
    have hpd := hp _ (dep_mem r2)
    have hk2 := runs_len _ _ _ hrun
    rw [List.length_take] at hk2
    refine (Et.is (Ew.t (.or (.not (.val (Ed.isi (n := "int") B.isi B.int (vr 5 rfl) rfl))) fun _ => .or (.val (Ed.isi (n := "bool") B.isi B.bool (vr 5 rfl) rfl)) fun _ => .or (.not (Et.chain op_le op_lt .int (vr 5 rfl) (.callB call_len_seq B.len (.cons (vr 0 rfl) .nil) (rc_len (xs := D.map dDep) (.inr rfl))) rd_B0 fun _ => rd_B0)) fun _ => .or1 (.not (.val (.call C1 hr (Nat.le_refl _) (.cons (vr 4 rfl) (.cons (.ix ix_tup (.ix ix_tup (vr 0 rfl) (vr 5 rfl) (rd_ixT (i := f[i]) (d := dDep (dep D f[i])) hixd)) .int (rd_ixT (i := 0) rfl)) .nil)) ⟨k2, (dep D f[i]).1, _, rfl, .inr rfl, hpd.1, hpd.2, rfl⟩))))) ?_
      : Et _ _ [some (dDeps D), some (dS l), some (.str c), some (dN f), some (dL k2), some (.int (f[i] : Nat))] false) _ _ _ hs2 fun H3 e3 => ?_
    · rw [r3, List.length_map, decide_eq_true (by omega), decide_eq_true (by omega)]
      rfl
    · rw [if_neg Bool.false_ne_true]
      refine ⟨.ref a, h42, .inl ⟨rfl, _, .of (e3 _ _ ha)⟩, ?_⟩
      refine (Ed.ix ix_tup (.ix ix_tup (vr 0 rfl) (vr 5 rfl) (rd_ixT (i := f[i]) (d := dDep (dep D f[i])) hixd)) .int (rd_ixT (i := 1) rfl)
        : Ed _ _ [some (dDeps D), some (dS l), some (.str c), some (dN f), some (dL k2), some (.int (f[i] : Nat))] (.str (dep D f[i]).2)) _ _ _ (slots_mono e3 hs2) fun v H4 e4 hv => ?_
      cases hv
      have ha4 := e4 _ _ (e3 _ _ ha)
      refine ⟨a, _, _, rfl, rfl, ha4, Evl.sz_lt (by rw [List.length_map]; omega), hlt, ?_, ?_, k2 ++ [(dep D f[i]).2], some (.int (f[i] : Nat)), r4, ?_, h42, rfl, ?_⟩
      · exact (ht.trans (Tst.of (e3.trans e4))).trans (Tst.upd ha4)
      · exact (hx.trans (e3.trans e4)).mut na
      · rw [upd_same, List.map_append]
        rfl
      · have hn : ([some (dDeps D), some (dS l), some (.str c), some (dN f), none, some (.int (f[i] : Nat))] : DS).all noO = true := by
          simp only [List.all_cons, List.all_nil, noO, noL_Deps, noL_S, noL_str, noL_int, dN, noL_Row, Bool.and_self]
        have q1 : Slots H4 (σ'.set 5 (some (.int (f[i] : Nat)))) [some (dDeps D), some (dS l), some (.str c), some (dN f), none, some (.int (f[i] : Nat))] := by
          have q0 := slots_mono (e3.trans e4) hs2
          exact slots_forget 4 q0
        have q2 := slots_tst (Tst.upd (o := .lst ((k2.map V.str) ++ [.str (dep D f[i]).2])) ha4) hn q1
        refine slots_at (ds := [some (dDeps D), some (dS l), some (.str c), some (dN f), none, some (.int (f[i] : Nat))]) (i := 4) (.lst upd_same ?_) q2 h42
        rw [List.map_append]
        exact dpAll_app (dpAll_ofStrs k2) (.cons (.str _) .nil)
  · have e : i = f.length := by omega
    subst e
    rw [List.take_length] at hrun
    have ek : k1 = kn := Option.some.inj (hrun.symm.trans T.run)
    subst ek
    refine .inl ⟨⟨_, frow _ ht, by rw [List.length_map, List.length_map]; exact Nat.le_refl _⟩, ?_⟩
    exact (Sd.ret (d := .bool true) (.cmp op_in_seq (vr 2 rfl) (vr 4 rfl) (rd_inL (by rw [decide_eq_true T.mem]; rfl))) rfl : Sd _ _ [some (dDeps D), some (dS l), some (.str c), some (dN f), some (dL k1), x5] { rt := fun d' => d' = PyData.bool true, nx := fun _ => PyData.bool true = PyData.none }) H0 σ' H' Dn ((e0.trans e1).trans hx) hsl L
end
end Pb

set_option Elab.async false
set_option linter.all false
set_option maxRecDepth 100000
set_option maxHeartbeats 1000000
namespace Pb
open PySem PySem.Spec PyProof.Rows L2 PySem.W PySem.SeqAt
open Evl (Ex)
section
variable {P : Program} {w : World} {K : PySem.W.Frag} {mg : Str → Option Value} {base : Heap} {k : Nat}
/-- _law_right -/
def R_right : List PyData → PyData → Prop := fun as d => ∃ C D l c, as = [dF C D, dS l, .str c] ∧ Frm C D ∧ InC C l ∧ c ∈ C ∧ d = .bool true
theorem c_right (Df0 : Df K mg "_law_right" s_law_right ["_law_frame_here", "_law_lot", "_law_column"]) (B : Bi mg) (C1 : Callee P w K mg base "_law_closure" k R_lawClo) (C2 : Callee P w K mg base "telling_row" k R_tellRow) (C3 : Callee P w K mg base "untold_sheet" k R_untold)
    (C4 : Callee P w K mg base "closure_of" k R_cloOf) (C5 : Callee P w K mg base "_law_tells" k R_tells) (C6 : Callee P w K mg base "_law_is_sheet" k R_lawSheet) (C7 : Callee P w K mg base "is_sheet" k R_isSheet) (C8 : Callee P w K mg base "_law_same" k R_same) :
    Callee P w K mg base "_law_right" (k + 1) R_right := callee_df Df0 sc_law_right (fun as d h => by obtain ⟨_, _, _, _, rfl, _⟩ := h; rfl) fun cdv fa A outer s H E hr as d h => by
  obtain ⟨C, D, l, c, rfl, h1, h2, h3, rfl⟩ := h
  have hcl := (h1.clo h2.lot).lot
  have hl7 := h2.lot.len
  have hc5 := h1.few
  have hd4 := h1.deps
  refine Sd.asg (vr (d := .tuple [dS C, dDeps D]) 0 rfl) (.two (i := 4) (j := 5) rfl sc_law_right.nd) ?_
  refine Sd.set (i := 3) (.call C1 hr (Nat.le_refl _) (.cons (vr 4 rfl) (.cons (vr 5 rfl) (.cons (vr 1 rfl) .nil))) ⟨C, D, l, rfl, h1, h2, rfl⟩) ?_ sc_law_right.nd
  refine Sd.par (i := 6) (j := 7) (.call C2 hr (Nat.le_refl _) (.cons (vr 0 rfl) (.cons (vr 1 rfl) (.cons (vr 2 rfl) .nil))) ⟨C, D, l, c, rfl, h1, h2, h3, rfl⟩) (.call C3 hr (Nat.le_refl _) (.cons (vr 0 rfl) (.cons (vr 1 rfl) (.cons (vr 2 rfl) .nil))) ⟨C, D, l, c, rfl, h1, h2, h3, rfl⟩) ?_ sc_law_right.nd
  have shc : SeqAt.shaped (dS (clo D l)) = true := (sh_S hcl.wds).ok (by omega)
  refine Sd.skip (Et.is (Ew.t (.or (.cmp (op_neD hr.units) (.call C4 hr (Nat.le_refl _) (.cons (vr 0 rfl) (.cons (vr 1 rfl) .nil)) ⟨C, D, l, rfl, h1, h2, rfl⟩) (vr 3 rfl) (rd_neD shc shc (eqv_S _ _))) fun _ => .or (.cmp op_ne (.cmp op_isN (vr 6 rfl) .non rd_isN) (.cmp op_notIn_seq (vr 2 rfl) (vr 3 rfl) (rd_inS rfl)) rd_neB) fun _ => .or1 (.cmp op_ne (.cmp op_isN (vr 7 rfl) .non rd_isN) (.cmp op_in_seq (vr 2 rfl) (vr 3 rfl) (rd_inS rfl)) rd_neB))) ?_) ?_
  · rcases tell_top (c := c) h1 h2.lot with ⟨e1, e2⟩ | ⟨f, kn, e1, T, e2⟩
    · rw [e1, sheetD, if_neg e2, decide_eq_false e2, decide_eq_true rfl]
      rfl
    · rw [e1, sheetD, if_pos e2, decide_eq_true e2, decide_eq_true rfl]
      rfl
  rcases tell_top (c := c) h1 h2.lot with ⟨e1, e2⟩ | ⟨f, kn, e1, T, e2⟩
  · rw [e1, sheetD, if_neg e2]
    have hex : ∃ x ∈ C, x ∉ clo D l := ⟨c, h3, e2⟩
    have hro := rows_ok hex
    have hka := two_keep h1 h2.lot
    refine Sd.skip (Et.is (.cmp op_notN (vr 6 rfl) .non rd_notN) rfl) ?_
    refine Sd.skip (Et.is (Ew.t (.or (.not (.val (.call C6 hr (Nat.le_refl _) (.cons (vr 0 rfl) (.cons (vr 7 rfl) (.cons .int .nil))) ⟨C, D, _, 2, rfl, by omega, hro, Int.le_refl 2, hka, rfl⟩))) fun _ => .or (.cmp op_ne (.callB call_len_seq B.len (.cons (vr 7 rfl) .nil) (rc_len (xs := [zerosD C, onesD C (clo D l)].map dRow) (.inr rfl))) .int rd_neI) fun _ => .or1 (.cmp op_notBl (.call C7 hr (Nat.le_refl _) (.cons (vr 0 rfl) (.cons (vr 7 rfl) .nil)) ⟨C, D, _, rfl, h1, hro, keeps_of hka, rfl⟩) .bl rd_notB))) ?_) ?_
    · rfl
    have zl := zeros_len C
    have ol := ones_len C (clo D l)
    refine Sd.ret (Ed.is (.and (.call C8 hr (Nat.le_refl _) (.cons (vr 4 rfl) (.cons (vr 1 rfl) (.cons (.ix ix_tup (vr 7 rfl) .int (rd_ixT (i := 0) rfl)) (.cons (.ix ix_tup (vr 7 rfl) .int (rd_ixT (i := 1) rfl)) .nil)))) ⟨C, l, zerosD C, onesD C (clo D l), rfl, zl, ol, by omega, rfl⟩) fun _ => .and1 (.not (.call C8 hr (Nat.le_refl _) (.cons (vr 4 rfl) (.cons (.tup (.cons (vr 2 rfl) .nil) (by show 1 ≤ 100000; omega)) (.cons (.ix ix_tup (vr 7 rfl) .int (rd_ixT (i := 0) rfl)) (.cons (.ix ix_tup (vr 7 rfl) .int (rd_ixT (i := 1) rfl)) .nil)))) ⟨C, [c], zerosD C, onesD C (clo D l), rfl, zl, ol, by omega, rfl⟩))) ?_) rfl
    rw [decide_eq_true ((cut_two l).mpr fun x _ hx => (h1.clo h2.lot).up x hx), decide_eq_false fun q => e2 ((cut_two [c]).mp q c h3 (List.mem_singleton.mpr rfl))]
    rfl
  · rw [e1, sheetD, if_pos e2]
    refine Sd.if_ (p := true) (Et.is (.cmp op_notN (vr 6 rfl) .non rd_notN) rfl) (fun _ => ?_) (fun h => by cases h)
    exact Sd.ret (.call C5 hr (Nat.le_refl _) (.cons (vr 5 rfl) (.cons (vr 1 rfl) (.cons (vr 2 rfl) (.cons (vr 6 rfl) .nil)))) ⟨D, l, c, f, kn, rfl, by omega, h1.al2, hl7, T, rfl⟩) rfl
end
end Pb

set_option Elab.async false
set_option linter.all false
set_option maxRecDepth 100000
set_option maxHeartbeats 1000000
namespace Pb
open PySem PySem.Spec PyProof.Rows L2 PySem.W PySem.SeqAt
open Evl (Ex)
/-! ### the law's own frames -/
def fC : Lot := ["a", "b", "c"]
def fD : List Dep := [(["a"], "c"), (["b"], "c")]
def gC : Lot := ["a", "b", "c", "d"]
def gD : List Dep := [(["c"], "d"), ([], "a"), (["a", "b"], "c")]
def gR : List Dep := [(["b"], "d"), ([], "a"), ([], "b"), (["c"], "d"), (["d"], "c"), (["b", "d"], "d")]
def xC : Lot := ["x"]
theorem frm_of {C : Lot} {D : List Dep} (h1 : srt C = C) (h2 : C ≠ []) (h3 : C.length ≤ 5) (h4 : D.length ≤ 4) (h5 : D.Nodup) (h6 : ∀ p ∈ D, (srt p.1 = p.1 ∧ ∀ x ∈ p.1, x ∈ C) ∧ p.2 ∈ C ∧ p.2 ∉ p.1) : Frm C D :=
  ⟨h1, h2, h3, h4, h5, fun p hp => ⟨⟨(h6 p hp).1.1, (h6 p hp).1.2⟩, (h6 p hp).2⟩⟩
theorem frm_f : Frm fC fD := frm_of (by decide +kernel) (by decide +kernel) (by decide) (by decide) (by decide +kernel) (by decide +kernel)
theorem frm_g : Frm gC gD := frm_of (by decide +kernel) (by decide +kernel) (by decide) (by decide) (by decide +kernel) (by decide +kernel)
theorem frm_x : Frm xC [] := frm_of (by decide +kernel) (by decide +kernel) (by decide) (by decide) (by decide +kernel) (by decide +kernel)
theorem lots_is {C : Lot} {E : List Lot} (h1 : (allLots C).Perm E) (h2 : E.Pairwise fun a b => dataLe false dS a b = true) (h3 : ∀ a ∈ E, ∀ b ∈ E, dataLe false dS a b = true → dataLe false dS b a = true → a = b) : lots C = E := by
  have p := (List.mergeSort_perm (allLots C) (dataLe false dS)).trans h1
  exact eq_sorted _ _ p (sort_pairwise (dataLe_total dS) _) h2 fun a ha b hb => h3 a (p.mem_iff.mp ha) b (p.mem_iff.mp hb)
def fE : List Lot := [[], ["a"], ["a", "b"], ["a", "b", "c"], ["a", "c"], ["b"], ["b", "c"], ["c"]]
theorem lots_f : lots fC = fE := lots_is (by decide +kernel) (by decide +kernel) (by decide +kernel)
def xE : List Lot := [[], ["x"]]
def fK : List Lot := [[], ["a", "b", "c"], ["a", "c"], ["b", "c"], ["c"]]
def lA : Lot := ["a"]
def lB : Lot := ["b"]
def lAC : Lot := ["a", "c"]
def lc : Lot := ["c"]
theorem lots_x : lots xC = xE := lots_is (by decide +kernel) (by decide +kernel) (by decide +kernel)
theorem closed_f : (lots fC).filter (closedB fD) = fK := by
  rw [lots_f]
  decide +kernel
theorem closed_x : (lots xC).filter (closedB []) = xE := by
  rw [lots_x]
  decide +kernel
theorem clo_fa : clo fD lA = lAC := by decide +kernel
theorem clo_gb : clo gD lB = gC := by decide +kernel
theorem clo_g0 : clo gD [] = lA := by decide +kernel
theorem tell_fb : tell fD "c" fD.length lB [] = some [1] := by decide +kernel
theorem tell_fc : tell fD "a" fD.length lc [] = none := by decide +kernel
theorem clo_fb : ("c" : Str) ∈ clo fD lB := by decide +kernel
theorem inC_of {C l : Lot} (h1 : srt l = l) (h2 : ∀ x ∈ l, x ∈ C) : InC C l := ⟨h1, h2⟩
theorem gR_ok : ∀ p ∈ gR, (srt p.1 = p.1 ∧ ∀ x ∈ p.1, x ∈ gC) ∧ p.2 ∈ gC := by decide +kernel
section
variable {X : Cx} {ds : DS} {es : List Expr} {as : List PyData} {pos : Pos}
theorem Ed.tp {x1} (h : Ea X es ds as) (hl : as.length ≤ 100000 := by decide) : Ed X (.Tuple es x1 pos) ds (.tuple as) := Ed.tup h hl
theorem se_tuple (es1 : List Expr) (k1 : Nat) (p1 : Pos) (es : List Expr) (env : Env) : starEach (.Tuple es1 k1 p1 :: es) env = (false, eval (.Tuple es1 k1 p1) env) :: starEach es env := by rfl
theorem Ea.tup {es1 : List Expr} {k1 : Nat} {p1 : Pos} {d : PyData} (h : Ed X (.Tuple es1 k1 p1) ds d) (r : Ea X es ds as) : Ea X (.Tuple es1 k1 p1 :: es) ds (d :: as) := Ea.cons h r (se_tuple es1 k1 p1 es X.env)
theorem se_const (c1 : Const) (k1 : Nat) (p1 : Pos) (es : List Expr) (env : Env) : starEach (.Constant c1 k1 p1 :: es) env = (false, eval (.Constant c1 k1 p1) env) :: starEach es env := by rfl
theorem Ea.cst {c1 : Const} {k1 : Nat} {p1 : Pos} {d : PyData} (h : Ed X (.Constant c1 k1 p1) ds d) (r : Ea X es ds as) : Ea X (.Constant c1 k1 p1 :: es) ds (d :: as) := Ea.cons h r (se_const c1 k1 p1 es X.env)
theorem Ed.ls (h : Ea X es ds as) (hl : as.length ≤ 100000 := by decide) : Ed X (.List es pos) ds (.list as) := Ed.lst h hl
end
theorem fF_eq : (.tuple [.tuple [.str "a", .str "b", .str "c"], .tuple [.tuple [.tuple [.str "a"], .str "c"], .tuple [.tuple [.str "b"], .str "c"]]] : PyData) = dF fC fD := by simp only [dF, dS, dDeps, dDep, fC, fD, List.map_cons, List.map_nil]
theorem gF_eq : (.tuple [.tuple [.str "a", .str "b", .str "c", .str "d"], .tuple [.tuple [.tuple [.str "c"], .str "d"], .tuple [.tuple [], .str "a"], .tuple [.tuple [.str "a", .str "b"], .str "c"]]] : PyData) = dF gC gD := by simp only [dF, dS, dDeps, dDep, gC, gD, List.map_cons, List.map_nil]
theorem gR_eq : (.list [.tuple [.tuple [.str "b"], .str "d"], .tuple [.tuple [], .str "a"], .tuple [.tuple [], .str "b"], .tuple [.tuple [.str "c"], .str "d"], .tuple [.tuple [.str "d"], .str "c"], .tuple [.tuple [.str "b", .str "d"], .str "d"]] : PyData) = .list (gR.map dDep) := by simp only [dS, dDep, gR, List.map_cons, List.map_nil]
def lst (n : Nat) : Stmt := (defBody s_law).getD n (.Pass ⟨0, 0, 0, 0⟩)
theorem body_eq : defBody s_law = [lst 0, lst 1, lst 2, lst 3, lst 4, lst 5, lst 6, lst 7, lst 8] := by kernel_rfl
section
variable {P : Program} {w : World} {K : PySem.W.Frag} {mg : Str → Option Value} {base : Heap} {k : Nat}
theorem sh1 (l : Lot) (h : IsLot l) : SeqAt.shaped (dS l) = true := (sh_S h.wds).ok (by omega)
theorem iA : InC fC lA := inC_of (by decide +kernel) (by decide +kernel)
theorem iB : InC fC lB := inC_of (by decide +kernel) (by decide +kernel)
theorem ic : InC fC lc := inC_of (by decide +kernel) (by decide +kernel)
theorem jB : InC gC lB := inC_of (by decide +kernel) (by decide +kernel)
theorem j0 : InC gC [] := inC_of (by decide +kernel) (by decide +kernel)
theorem lAC_lot : IsLot lAC := by unfold IsLot; decide +kernel
theorem shK : SeqAt.shaped (dLots fK) = true := by decide +kernel
theorem shE : SeqAt.shaped (dLots xE) = true := by decide +kernel
theorem tv_fb : tellD (tell fD "c" fD.length lB []) = dRow [1] := by rw [tell_fb]; rfl
theorem tv_fc : tellD (tell fD "a" fD.length lc []) = .none := by rw [tell_fc]; rfl
theorem uv_fb : sheetD fC fD lB "c" = .none := by rw [sheetD, if_pos clo_fb]
theorem mc_f : ("c" : Str) ∈ fC := by decide +kernel
theorem ma_f : ("a" : Str) ∈ fC := by decide +kernel
theorem t_ret {f : Addr} {cdv : Value} {A : Around} {outer : List Env} {s : Shared} {H : Hp} {E : XK} (hr : Room k (A.deeper (envOfC "law" (defScope s_law) s.heap.objs.size f cdv))) (C8 : Callee P w K mg base "closure_of" k R_cloOf) (C3 : Callee P w K mg base "closed_lots" k R_closed) (a b c d e : Option PyData) :
    Sd (cxOf CX0 P w K mg base ["_law_script", "_law_cup_here", "_law_turn", "_law_f", "_law_g", "_law_rows", "_law_frame_here", "_law_lot", "_law_column", "_law_again"] "law" (defScope s_law) f cdv A outer s H E).nox (lst 8 :: []) [none, some cupD, a, some (dF fC fD), some (dF gC gD), some (.list (gR.map dDep)), b, c, e, d] { rt := fun d => d = .bool true } := by
  refine Sd.ret (d := .bool (true && (true && true))) (.and ?_ fun _ => .and ?_ fun _ => .and1 ?_) rfl
  · refine .cmp (op_eqD hr.units) (Ed.is (d' := dS gC) (.call C8 hr (Nat.le_refl _) (.cons (vr 4 rfl) (.tup ?_ .nil)) ⟨gC, gD, lB, rfl, frm_g, jB, rfl⟩) (congrArg dS clo_gb)) (Ed.is (d := .tuple [.str "a", .str "b", .str "c", .str "d"]) (d' := dS gC) ?_ rfl) (rd_eqD (b := true) (sh1 _ frm_g.lot) (sh1 _ frm_g.lot) ((eqv_S _ _).trans (decide_eq_true rfl)))
    · refine Ed.is (d := .tuple [.str "b"]) ?_ rfl
      repeat' (first | exact Ed.str | exact Ed.int | exact Ea.nil | apply Ea.cst | apply Ea.tup | refine Ed.tp ?_ (by decide) | refine Ed.ls ?_ (by decide))
    · repeat' (first | exact Ed.str | exact Ed.int | exact Ea.nil | apply Ea.cst | apply Ea.tup | refine Ed.tp ?_ (by decide) | refine Ed.ls ?_ (by decide))
  · refine .cmp (op_eqD hr.units) (Ed.is (d' := dS lA) (.call C8 hr (Nat.le_refl _) (.cons (vr 4 rfl) (.tup ?_ .nil)) ⟨gC, gD, [], rfl, frm_g, j0, rfl⟩) (congrArg dS clo_g0)) (Ed.is (d := .tuple [.str "a"]) (d' := dS lA) ?_ rfl) (rd_eqD (b := true) (sh1 _ iA.lot) (sh1 _ iA.lot) ((eqv_S _ _).trans (decide_eq_true rfl)))
    · refine Ed.is (d := .tuple []) ?_ rfl
      repeat' (first | exact Ed.str | exact Ed.int | exact Ea.nil | apply Ea.cst | apply Ea.tup | refine Ed.tp ?_ (by decide) | refine Ed.ls ?_ (by decide))
    · repeat' (first | exact Ed.str | exact Ed.int | exact Ea.nil | apply Ea.cst | apply Ea.tup | refine Ed.tp ?_ (by decide) | refine Ed.ls ?_ (by decide))
  · refine .cmp (op_eqD hr.units) (Ed.is (d' := dLots xE) (.call C3 hr (Nat.le_refl _) (.tup ?_ .nil) ⟨xC, [], rfl, frm_x, rfl⟩ rfl (by decide) (se_tuple _ _ _ _ _)) (congrArg dLots closed_x)) (Ed.is (d := .list [.tuple [], .tuple [.str "x"]]) (d' := dLots xE) ?_ rfl) (rd_eqD (b := true) shE shE ((eqv_Lots _ _).trans (decide_eq_true rfl)))
    · refine Ed.is (d := .tuple [.tuple [.str "x"], .tuple []]) ?_ rfl
      repeat' (first | exact Ed.str | exact Ed.int | exact Ea.nil | apply Ea.cst | apply Ea.tup | refine Ed.tp ?_ (by decide) | refine Ed.ls ?_ (by decide))
    · repeat' (first | exact Ed.str | exact Ed.int | exact Ea.nil | apply Ea.cst | apply Ea.tup | refine Ed.tp ?_ (by decide) | refine Ed.ls ?_ (by decide))
theorem t_for {f : Addr} {cdv : Value} {A : Around} {outer : List Env} {s : Shared} {H : Hp} {E : XK} (hr : Room k (A.deeper (envOfC "law" (defScope s_law) s.heap.objs.size f cdv))) (C7 : Callee P w K mg base "_law_right" k R_right) (C8 : Callee P w K mg base "closure_of" k R_cloOf) (C3 : Callee P w K mg base "closed_lots" k R_closed) (a b c d e : Option PyData) :
    Sd (cxOf CX0 P w K mg base ["_law_script", "_law_cup_here", "_law_turn", "_law_f", "_law_g", "_law_rows", "_law_frame_here", "_law_lot", "_law_column", "_law_again"] "law" (defScope s_law) f cdv A outer s H E).nox (lst 7 :: [lst 8]) [none, some cupD, a, some (dF fC fD), some (dF gC gD), some (.list (gR.map dDep)), b, c, e, d] { rt := fun d => d = .bool true } := by
  refine Sd.for_ (.list (vr 5 rfl)) (fun i ds' => ∃ a b c e, ds' = [none, some cupD, a, some (dF fC fD), some (dF gC gD), some (.list (gR.map dDep)), b, c, e, d]) ⟨_, _, _, _, rfl⟩ (fun i x ds' hx hI => ?_) fun ds' hI => ?_
  · obtain ⟨a, b, c, e, rfl⟩ := hI
    obtain ⟨p, hp, rfl⟩ := List.mem_map.mp (List.mem_of_getElem? hx)
    refine ⟨_, _, .two (i := 7) (j := 8) rfl sc_law.nd, ?_⟩
    exact Sd.skip (Et.is (.not (.val (.call C7 hr (Nat.le_refl _) (.cons (vr 4 rfl) (.cons (vr 7 rfl) (.cons (vr 8 rfl) .nil))) ⟨gC, gD, p.1, p.2, rfl, frm_g, ⟨(gR_ok p hp).1.1, (gR_ok p hp).1.2⟩, (gR_ok p hp).2, rfl⟩))) rfl) (Sd.nil ⟨_, _, _, _, rfl⟩)
  · obtain ⟨a, b, c, e, rfl⟩ := hI
    exact t_ret hr C8 C3 a b c d e
theorem t_rows {f : Addr} {cdv : Value} {A : Around} {outer : List Env} {s : Shared} {H : Hp} {E : XK} (hr : Room k (A.deeper (envOfC "law" (defScope s_law) s.heap.objs.size f cdv))) (C7 : Callee P w K mg base "_law_right" k R_right) (C8 : Callee P w K mg base "closure_of" k R_cloOf) (C3 : Callee P w K mg base "closed_lots" k R_closed) (a b c d e x4 x5 : Option PyData) :
    Sd (cxOf CX0 P w K mg base ["_law_script", "_law_cup_here", "_law_turn", "_law_f", "_law_g", "_law_rows", "_law_frame_here", "_law_lot", "_law_column", "_law_again"] "law" (defScope s_law) f cdv A outer s H E).nox [lst 5, lst 6, lst 7, lst 8] [none, some cupD, a, some (dF fC fD), x4, x5, b, c, e, d] { rt := fun d => d = .bool true } := by
  refine Sd.set (i := 4) (d := dF gC gD) (Ed.is (d := .tuple [.tuple [.str "a", .str "b", .str "c", .str "d"], .tuple [.tuple [.tuple [.str "c"], .str "d"], .tuple [.tuple [], .str "a"], .tuple [.tuple [.str "a", .str "b"], .str "c"]]]) ?_ gF_eq) ?_ sc_law.nd
  · repeat' (first | exact Ed.str | exact Ed.int | exact Ea.nil | apply Ea.cst | apply Ea.tup | refine Ed.tp ?_ (by decide) | refine Ed.ls ?_ (by decide))
  refine Sd.set (i := 5) (d := .list (gR.map dDep)) (Ed.is (d := .list [.tuple [.tuple [.str "b"], .str "d"], .tuple [.tuple [], .str "a"], .tuple [.tuple [], .str "b"], .tuple [.tuple [.str "c"], .str "d"], .tuple [.tuple [.str "d"], .str "c"], .tuple [.tuple [.str "b", .str "d"], .str "d"]]) ?_ gR_eq) ?_ sc_law.nd
  · repeat' (first | exact Ed.str | exact Ed.int | exact Ea.nil | apply Ea.cst | apply Ea.tup | refine Ed.tp ?_ (by decide) | refine Ed.ls ?_ (by decide))
  exact t_for hr C7 C8 C3 a b c d e
theorem t_if2 {f : Addr} {cdv : Value} {A : Around} {outer : List Env} {s : Shared} {H : Hp} {E : XK} (hr : Room k (A.deeper (envOfC "law" (defScope s_law) s.heap.objs.size f cdv))) (C9 : Callee P w K mg base "telling_row" k R_tellRow) (C10 : Callee P w K mg base "untold_sheet" k R_untold) (a b c d e x4 x5 : Option PyData)
    (hrest : Sd (cxOf CX0 P w K mg base ["_law_script", "_law_cup_here", "_law_turn", "_law_f", "_law_g", "_law_rows", "_law_frame_here", "_law_lot", "_law_column", "_law_again"] "law" (defScope s_law) f cdv A outer s H E).nox [lst 5, lst 6, lst 7, lst 8] [none, some cupD, a, some (dF fC fD), x4, x5, b, c, e, d] { rt := fun d => d = .bool true }) :
    Sd (cxOf CX0 P w K mg base ["_law_script", "_law_cup_here", "_law_turn", "_law_f", "_law_g", "_law_rows", "_law_frame_here", "_law_lot", "_law_column", "_law_again"] "law" (defScope s_law) f cdv A outer s H E).nox [lst 4, lst 5, lst 6, lst 7, lst 8] [none, some cupD, a, some (dF fC fD), x4, x5, b, c, e, d] { rt := fun d => d = .bool true } := by
  refine Sd.skip (Et.is (p := false || (false || false)) (Ew.t (.or ?_ fun _ => .or ?_ fun _ => .or1 ?_)) rfl) hrest
  · refine Et.cmp (op_neD hr.units) (Ed.is (d' := dRow [1]) (.call C9 hr (Nat.le_refl _) (.cons (vr 3 rfl) (.tup ?_ (.cst .str .nil))) ⟨fC, fD, lB, "c", rfl, frm_f, iB, mc_f, rfl⟩) tv_fb) (Ed.is (d := .tuple [.int 1]) (d' := dRow [1]) ?_ rfl) (rd_neD (b := true) ((sh_Row _).ok (by omega)) ((sh_Row _).ok (by omega)) ((eqv_Row _ _).trans (decide_eq_true rfl)))
    · refine Ed.is (d := .tuple [.str "b"]) ?_ rfl
      repeat' (first | exact Ed.str | exact Ed.int | exact Ea.nil | apply Ea.cst | apply Ea.tup | refine Ed.tp ?_ (by decide) | refine Ed.ls ?_ (by decide))
    · repeat' (first | exact Ed.str | exact Ed.int | exact Ea.nil | apply Ea.cst | apply Ea.tup | refine Ed.tp ?_ (by decide) | refine Ed.ls ?_ (by decide))
  · refine Et.cmp op_notN (Ed.is (d' := .none) (.call C9 hr (Nat.le_refl _) (.cons (vr 3 rfl) (.tup ?_ (.cst .str .nil))) ⟨fC, fD, lc, "a", rfl, frm_f, ic, ma_f, rfl⟩) tv_fc) .non rd_notN
    refine Ed.is (d := .tuple [.str "c"]) ?_ rfl
    repeat' (first | exact Ed.str | exact Ed.int | exact Ea.nil | apply Ea.cst | apply Ea.tup | refine Ed.tp ?_ (by decide) | refine Ed.ls ?_ (by decide))
  · refine Et.cmp op_notN (Ed.is (d' := .none) (.call C10 hr (Nat.le_refl _) (.cons (vr 3 rfl) (.tup ?_ (.cst .str .nil))) ⟨fC, fD, lB, "c", rfl, frm_f, iB, mc_f, rfl⟩) uv_fb) .non rd_notN
    refine Ed.is (d := .tuple [.str "b"]) ?_ rfl
    repeat' (first | exact Ed.str | exact Ed.int | exact Ea.nil | apply Ea.cst | apply Ea.tup | refine Ed.tp ?_ (by decide) | refine Ed.ls ?_ (by decide))
theorem t_if1 {f : Addr} {cdv : Value} {A : Around} {outer : List Env} {s : Shared} {H : Hp} {E : XK} (hr : Room k (A.deeper (envOfC "law" (defScope s_law) s.heap.objs.size f cdv))) (C3 : Callee P w K mg base "closed_lots" k R_closed) (C8 : Callee P w K mg base "closure_of" k R_cloOf) (a b c d e x4 x5 : Option PyData)
    (hrest : Sd (cxOf CX0 P w K mg base ["_law_script", "_law_cup_here", "_law_turn", "_law_f", "_law_g", "_law_rows", "_law_frame_here", "_law_lot", "_law_column", "_law_again"] "law" (defScope s_law) f cdv A outer s H E).nox [lst 4, lst 5, lst 6, lst 7, lst 8] [none, some cupD, a, some (dF fC fD), x4, x5, b, c, e, d] { rt := fun d => d = .bool true }) :
    Sd (cxOf CX0 P w K mg base ["_law_script", "_law_cup_here", "_law_turn", "_law_f", "_law_g", "_law_rows", "_law_frame_here", "_law_lot", "_law_column", "_law_again"] "law" (defScope s_law) f cdv A outer s H E).nox [lst 3, lst 4, lst 5, lst 6, lst 7, lst 8] [none, some cupD, a, some (dF fC fD), x4, x5, b, c, e, d] { rt := fun d => d = .bool true } := by
  refine Sd.skip (Et.is (p := false || false) (Ew.t (.or ?_ fun _ => .or1 ?_)) rfl) hrest
  · refine Et.cmp (op_neD hr.units) (Ed.is (d' := dLots fK) (.call C3 hr (Nat.le_refl _) (.cons (vr 3 rfl) .nil) ⟨fC, fD, rfl, frm_f, rfl⟩) (congrArg dLots closed_f)) (Ed.is (d := .list [.tuple [], .tuple [.str "a", .str "b", .str "c"], .tuple [.str "a", .str "c"], .tuple [.str "b", .str "c"], .tuple [.str "c"]]) (d' := dLots fK) ?_ rfl) (rd_neD (b := true) shK shK ((eqv_Lots _ _).trans (decide_eq_true rfl)))
    repeat' (first | exact Ed.str | exact Ed.int | exact Ea.nil | apply Ea.cst | apply Ea.tup | refine Ed.tp ?_ (by decide) | refine Ed.ls ?_ (by decide))
  · refine Et.cmp (op_neD hr.units) (Ed.is (d' := dS lAC) (.call C8 hr (Nat.le_refl _) (.cons (vr 3 rfl) (.tup ?_ .nil)) ⟨fC, fD, lA, rfl, frm_f, iA, rfl⟩) (congrArg dS clo_fa)) (Ed.is (d := .tuple [.str "a", .str "c"]) (d' := dS lAC) ?_ rfl) (rd_neD (b := true) (sh1 _ lAC_lot) (sh1 _ lAC_lot) ((eqv_S _ _).trans (decide_eq_true rfl)))
    · refine Ed.is (d := .tuple [.str "a"]) ?_ rfl
      repeat' (first | exact Ed.str | exact Ed.int | exact Ea.nil | apply Ea.cst | apply Ea.tup | refine Ed.tp ?_ (by decide) | refine Ed.ls ?_ (by decide))
    · repeat' (first | exact Ed.str | exact Ed.int | exact Ea.nil | apply Ea.cst | apply Ea.tup | refine Ed.tp ?_ (by decide) | refine Ed.ls ?_ (by decide))
theorem t_f {f : Addr} {cdv : Value} {A : Around} {outer : List Env} {s : Shared} {H : Hp} {E : XK} (hr : Room k (A.deeper (envOfC "law" (defScope s_law) s.heap.objs.size f cdv))) (a b c d e x3 x4 x5 : Option PyData)
    (hrest : Sd (cxOf CX0 P w K mg base ["_law_script", "_law_cup_here", "_law_turn", "_law_f", "_law_g", "_law_rows", "_law_frame_here", "_law_lot", "_law_column", "_law_again"] "law" (defScope s_law) f cdv A outer s H E).nox [lst 3, lst 4, lst 5, lst 6, lst 7, lst 8] [none, some cupD, a, some (dF fC fD), x4, x5, b, c, e, d] { rt := fun d => d = .bool true }) :
    Sd (cxOf CX0 P w K mg base ["_law_script", "_law_cup_here", "_law_turn", "_law_f", "_law_g", "_law_rows", "_law_frame_here", "_law_lot", "_law_column", "_law_again"] "law" (defScope s_law) f cdv A outer s H E).nox [lst 2, lst 3, lst 4, lst 5, lst 6, lst 7, lst 8] [none, some cupD, a, x3, x4, x5, b, c, e, d] { rt := fun d => d = .bool true } := by
  refine Sd.set (i := 3) (d := dF fC fD) (Ed.is (d := .tuple [.tuple [.str "a", .str "b", .str "c"], .tuple [.tuple [.tuple [.str "a"], .str "c"], .tuple [.tuple [.str "b"], .str "c"]]]) ?_ fF_eq) hrest sc_law.nd
  repeat' (first | exact Ed.str | exact Ed.int | exact Ea.nil | apply Ea.cst | apply Ea.tup | refine Ed.tp ?_ (by decide) | refine Ed.ls ?_ (by decide))
end
section
variable {P : Program} {w : World} {K : PySem.W.Frag} {mg : Str → Option Value} {base : Heap} {k : Nat}
/-- law -/
def spLaw (K : PySem.W.Frag) : Sp := fun vs H Q _ => ∃ (a : Addr) (ns : List Int), vs = [.ref a] ∧ SqL K H a (ns.map V.int) ∧ ns.length ≤ 63 ∧ ∀ H', Q (.bl true) H'
theorem sh_lots {C : Lot} (h : IsLot C) (p : Lot → Bool) : SeqAt.shaped (dLots ((lots C).filter p)) = true := (sh_Lots fun l hl => ((mem_lots h).mp (List.mem_filter.mp hl).1).lot.wds).ok (by omega)
theorem c_law {f : Addr} {fd : FuncData} (F : Fun K "law" "law" s_law f fd) (B : Bi mg) (C0 : ∃ (f : Addr) (fd : FuncData) (ps : List Str), FnOk P w K mg base CX0 k f fd ps (spCup K) ∧ mg "_law_cup" = some (.ref f) ∧ PySem.W.keepIn K (.ref f) = true ∧ Binds K fd ps [])
    (C1 : CalleeN P w K mg base "_law_frame" k R_lawFrame) (C2 : Callee P w K mg base "is_frame" k R_frame) (C3 : Callee P w K mg base "closed_lots" k R_closed) (C4 : Callee P w K mg base "_law_lots" k R_lots) (C5 : Callee P w K mg base "_law_is_closed" k R_isClosed) (C6 : CalleeN P w K mg base "_law_some" k R_some)
    (C7 : Callee P w K mg base "_law_right" k R_right) (C8 : Callee P w K mg base "closure_of" k R_cloOf) (C9 : Callee P w K mg base "telling_row" k R_tellRow) (C10 : Callee P w K mg base "untold_sheet" k R_untold) : FnOk P w K mg base CX0 (k + 1) f fd ["_law_script"] (spLaw K) := by
  refine F.ok sc_law (fun vs H Q E h => ?_) (fun cdv A outer s H vs Q E hr h => ?_)
  · obtain ⟨a, ns, rfl, _⟩ := h
    rfl
  · obtain ⟨a, ns, rfl, hS, hl, q⟩ := h
    obtain ⟨fc, fdc, psc, GS, gS, kS, bS⟩ := C0
    have hN := sc_law.nd
    have rest : Sd (cxOf CX0 P w K mg base ["_law_script", "_law_cup_here", "_law_turn", "_law_f", "_law_g", "_law_rows", "_law_frame_here", "_law_lot", "_law_column", "_law_again"] "law" (defScope s_law) f cdv A outer s H E).nox [lst 1, lst 2, lst 3, lst 4, lst 5, lst 6, lst 7, lst 8] [none, some cupD, none, none, none, none, none, none, none, none] { rt := fun d => d = .bool true } := by
      refine Sd.for_ (.range (n := 3) B.range .int (by decide)) (fun i ds' => ∃ a b c d, ds' = [none, some cupD, a, none, none, none, b, c, none, d]) ⟨_, _, _, _, rfl⟩ (fun i x ds' hx hI => ?_) fun ds' hI => ?_
      · obtain ⟨a, b, c, d, rfl⟩ := hI
        refine ⟨_, _, .name (i := 2) hN, ?_⟩
        refine Sd.setN (i := 6) (p := fun d => ∃ C D, Frm C D ∧ d = dF C D) (.call (C := fun as => as = [cupD, .int 5]) C1 hr (Nat.le_refl _) (.of (.cons (vr 1 rfl) (.cons .int .nil)) rfl) (fun as e => ⟨_, ⟨e, rfl⟩, fun d h => h⟩)) (fun d hd => ?_) hN
        obtain ⟨C, D, h1, rfl⟩ := hd
        have hc := h1.few
        have hd4 := h1.deps
        have hfew := few_lots (C := C) (by omega)
        refine Sd.skip (Et.is (Ew.t (.or (.cmp op_notBl (.call C2 hr (Nat.le_refl _) (.cons (vr 6 rfl) .nil) ⟨C, D, rfl, h1, rfl⟩) .bl rd_notB) fun _ => .or1 (.cmp (op_neD hr.units) (.call C3 hr (Nat.le_refl _) (.cons (vr 6 rfl) .nil) ⟨C, D, rfl, h1, rfl⟩) (.lc (ts := lots C) (enc := dS) (y := dS) (b := closedB D) (own := [("_law_lot", 7)])
          ⟨blkOk_by (N := ["_law_script", "_law_cup_here", "_law_turn", "_law_f", "_law_g", "_law_rows", "_law_frame_here", "_law_lot", "_law_column", "_law_again"]) (sc := defScope s_law) (by decide +kernel), ⟨[7], fun c => _, by simp, fun s H C' cl fp m hm => ⟨.name hN, .one (.val (.call C5 hr (Nat.le_refl _) (.cons (.ix ix_tup (vr 6 rfl) .int (rd_ixT (i := 1) rfl)) (.cons (vr 7 rfl) .nil)) ⟨D, m, rfl, by omega, h1.al2, rfl⟩)), fun _ => vr 7 rfl⟩⟩, fun c _ _ => noL_S _, by omega⟩ (.list (.call C4 hr (Nat.le_refl _) (.cons (.ix ix_tup (vr 6 rfl) .int (rd_ixT (i := 0) rfl)) .nil) ⟨C, rfl, by omega, rfl⟩)) hN) (rd_neD (sh_lots h1.lot _) (sh_lots h1.lot _) (eqv_Lots _ _))))) ?_) ?_
        · simp
        refine Sd.forN (p := fun xs => xs.length ≤ 3 ∧ ∀ d ∈ xs, ∃ l, d = dS l ∧ InC C l) (.list (En.lc (α := Nat) (C := fun ts => ts = List.range 3) (Tt := fun _ => True) (enc := fun i => .int (i : Nat)) (P := fun _ d => ∃ l, d = dS l ∧ InC C l) (Sk := fun _ => False) (Ps := fun _ => True) (own := [("_law_again", 9)])
          ⟨blkOk_by (N := ["_law_script", "_law_cup_here", "_law_turn", "_law_f", "_law_g", "_law_rows", "_law_frame_here", "_law_lot", "_law_column", "_law_again"]) (sc := defScope s_law) (by decide +kernel), ⟨[9], fun c => _, by simp, fun s H C' cl fp t ht => ⟨.name hN, .nil trivial, fun _ => .call (C := fun as => as = [cupD, dLots (lots C)]) C6 hr (Nat.le_refl _) (.of (.cons (vr 1 rfl) (.cons (.call C4 hr (Nat.le_refl _) (.cons (.ix ix_tup (vr 6 rfl) .int (rd_ixT (i := 0) rfl)) .nil) ⟨C, rfl, by omega, rfl⟩) .nil)) rfl) ?_⟩⟩, ?_, ?_⟩
          (.of (.range (n := 3) B.range .int (by decide)) ⟨_, rfl, rfl⟩) hN) ?_) (fun xs i ds' => ∃ a c, ds' = [none, some cupD, a, none, none, none, some (dF C D), c, none, d]) (fun xs _ => ⟨_, _, rfl⟩) (fun xs hxs i x ds' hx hI => ?_) fun xs hxs ds' hI => ?_
        · intro as e
          refine ⟨_, ⟨(lots C).map dS, _, e, ?_, by rw [List.length_map]; omega, .inl rfl, rfl⟩, fun d hd => ?_⟩
          · intro e
            have := lots_len C
            rw [List.map_eq_nil_iff.mp e, List.length_nil] at this
            have h2 : 0 < 2 ^ C.length := Nat.pow_pos (by decide)
            omega
          · obtain ⟨l, hl, rfl⟩ := List.mem_map.mp hd
            exact ⟨l, rfl, (mem_lots h1.lot).mp hl⟩
        · rintro t d ⟨l, rfl, _⟩
          exact noL_S l
        · rintro ts rfl
          exact ⟨by decide, fun _ _ => trivial⟩
        · rintro d ⟨ts, l, rfl, hkp, rfl⟩
          have h3 := hkp.len
          rw [List.length_range] at h3
          refine ⟨_, rfl, by rw [List.length_map]; exact h3, fun d hd => ?_⟩
          obtain ⟨q, hq, rfl⟩ := List.mem_map.mp hd
          exact hkp.all q hq
        · obtain ⟨a, c, rfl⟩ := hI
          obtain ⟨l, rfl, hlC⟩ := hxs.2 x (List.mem_of_getElem? hx)
          refine ⟨_, _, .name (i := 7) hN, ?_⟩
          refine Sd.skip (Et.is (.not (.val (.callA (d := .bool true) (C := fun as => ∃ c, as = [dF C D, dS l, .str c] ∧ c ∈ C) C7 hr (Nat.le_refl _) (.cons (p := fun d => d = dF C D) (C := fun as => ∃ c, as = [dS l, .str c] ∧ c ∈ C) (.of (vr 6 rfl) rfl) (.cons (p := fun d => d = dS l) (C := fun as => ∃ c, as = [.str c] ∧ c ∈ C) (.of (vr 7 rfl) rfl) (.cons (p := fun d => ∃ c, d = .str c ∧ c ∈ C) (C := fun as => as = [])
            (.call (C := fun as => as = [cupD, dS C]) C6 hr (Nat.le_refl _) (.of (.cons (vr 1 rfl) (.cons (.ix ix_tup (vr 6 rfl) .int (rd_ixT (i := 0) rfl)) .nil)) rfl) (fun as e => ⟨_, ⟨C.map .str, _, e, fun e => h1.ne (List.map_eq_nil_iff.mp e), by rw [List.length_map]; omega, .inr (.inl rfl), rfl⟩, fun d hd => ?_⟩)) (.nil rfl) ?_) ?_) ?_) ?_))) rfl) (Sd.nil ⟨_, _, rfl⟩)
          · obtain ⟨c, hc, rfl⟩ := List.mem_map.mp hd
            exact ⟨c, rfl, hc⟩
          · rintro d as ⟨c, rfl, hc⟩ rfl
            exact ⟨c, rfl, hc⟩
          · rintro d as rfl ⟨c, rfl, hc⟩
            exact ⟨c, rfl, hc⟩
          · rintro d as rfl ⟨c, rfl, hc⟩
            exact ⟨c, rfl, hc⟩
          · rintro as ⟨c, rfl, hc⟩
            exact ⟨C, D, l, c, rfl, h1, hlC, hc, rfl⟩
        · obtain ⟨a, c, rfl⟩ := hI
          exact Sd.nil ⟨_, _, _, _, rfl⟩
      · obtain ⟨a, b, c, d, rfl⟩ := hI
        exact t_f hr _ _ _ _ _ _ _ _ (t_if1 hr C3 C8 _ _ _ _ _ _ _ (t_if2 hr C9 C10 _ _ _ _ _ _ _ (t_rows hr C7 C8 C3 _ _ _ _ _ _ _)))
    rw [body_eq]
    refine ⟨_, pss_cons (ps_set (i := 1) hN rfl (by first | exact .inl rfl | exact .inr rfl) (pe_call GS hr (by rfl) gS kS bS .nil pass0 (pa_cons (pv 0) pa_nil))) wSs.ps, ?_⟩
    refine ⟨.ref a, rfl, a, ns, rfl, hS, hl, fun v H' e1 hv => ?_⟩
    exact rest H _ H' _ e1 (.cons trivial (.cons hv (.cons trivial (.cons trivial (.cons trivial (.cons trivial (.cons trivial (.cons trivial (.cons trivial (.cons trivial .nil)))))))))) ⟨fun ds σ H' h e _ => h.elim, fun d' v H' h e hv => by
      have h : d' = .bool true := h
      subst h
      cases hv
      exact q H', fun _ _ _ h _ _ => h.elim, fun _ _ _ h _ _ => h.elim⟩
end
end Pb

set_option Elab.async false
set_option linter.all false
set_option maxRecDepth 100000
set_option maxHeartbeats 1000000
namespace Pb
open PySem PySem.Spec PyProof.Rows L2 PySem.W PySem.SeqAt
open Evl (Ex)
/-- what the top has bound -/
structure Tp (K : PySem.W.Frag) (mg : Str → Option Value) : Prop where
  B : Bi mg
  g1 : ∃ t, mg "LETTERS" = some (.str "abcdefghijklmnopqrstuvwxyz" t)
  g2 : ∃ t, mg "WORD" = some (.int 8 t)
  g3 : ∃ t, mg "COLUMNS" = some (.int 6 t)
  g4 : ∃ t, mg "DEPENDENCIES" = some (.int 8 t)
  g5 : ∃ t, mg "ROWS" = some (.int 12 t)
  g6 : ∃ t, mg "AMOUNT" = some (.int 1000000 t)
  d_is_whole : Df K mg "is_whole" s_is_whole ["value", "low", "high"]
  d_is_row_of : Df K mg "is_row_of" s_is_row_of ["value", "low", "high"]
  d_fits_word : Df K mg "fits_word" s_fits_word ["value"]
  d_are_unlike : Df K mg "are_unlike" s_are_unlike ["items"]
  d_fits_columns : Df K mg "fits_columns" s_fits_columns ["value"]
  d_fits_lot : Df K mg "fits_lot" s_fits_lot ["columns", "value"]
  d_fits_dependency : Df K mg "fits_dependency" s_fits_dependency ["columns", "value"]
  d_fits_frame : Df K mg "fits_frame" s_fits_frame ["value"]
  d_fits_rows : Df K mg "fits_rows" s_fits_rows ["columns", "value", "most"]
  d_cut_row : Df K mg "cut_row" s_cut_row ["columns", "lot", "row"]
  d_are_alike : Df K mg "are_alike" s_are_alike ["columns", "lot", "row", "other"]
  d_keeps : Df K mg "keeps" s_keeps ["columns", "dependencies", "rows"]
  d_fits_sheet : Df K mg "fits_sheet" s_fits_sheet ["frame", "value", "most"]
  d_closure_in : Df K mg "closure_in" s_closure_in ["dependencies", "lot"]
  d_lots_in : Df K mg "lots_in" s_lots_in ["columns"]
  d_telling_in : Df K mg "telling_in" s_telling_in ["dependencies", "lot", "column"]
  d_two_rows : Df K mg "two_rows" s_two_rows ["columns", "lot"]
  d_need_frame : Df K mg "need_frame" s_need_frame ["value"]
  d_need_lot : Df K mg "need_lot" s_need_lot ["frame", "value"]
  d_need_column : Df K mg "need_column" s_need_column ["frame", "value"]
  d_is_frame : Df K mg "is_frame" s_is_frame ["value"]
  d_is_sheet : Df K mg "is_sheet" s_is_sheet ["frame", "value"]
  d_closure_of : Df K mg "closure_of" s_closure_of ["frame", "lot"]
  d_closed_lots : Df K mg "closed_lots" s_closed_lots ["frame"]
  d_telling_row : Df K mg "telling_row" s_telling_row ["frame", "lot", "column"]
  d_untold_sheet : Df K mg "untold_sheet" s_untold_sheet ["frame", "lot", "column"]
  d_law_cup : Df K mg "_law_cup" s_law_cup ["_law_script"]
  d_law_roll : Df K mg "_law_roll" s_law_roll ["_law_cup_here", "_law_many"]
  d_law_some : Df K mg "_law_some" s_law_some ["_law_cup_here", "_law_things"]
  d_law_lots : Df K mg "_law_lots" s_law_lots ["_law_columns"]
  d_law_has : Df K mg "_law_has" s_law_has ["_law_lot", "_law_other"]
  d_law_is_closed : Df K mg "_law_is_closed" s_law_is_closed ["_law_dependencies", "_law_lot"]
  d_law_closure : Df K mg "_law_closure" s_law_closure ["_law_columns", "_law_dependencies", "_law_lot"]
  d_law_same : Df K mg "_law_same" s_law_same ["_law_columns", "_law_lot", "_law_row", "_law_other"]
  d_law_keeps : Df K mg "_law_keeps" s_law_keeps ["_law_columns", "_law_dependencies", "_law_rows"]
  d_law_is_rows : Df K mg "_law_is_rows" s_law_is_rows ["_law_columns", "_law_v", "_law_most"]
  d_law_is_sheet : Df K mg "_law_is_sheet" s_law_is_sheet ["_law_frame_here", "_law_v", "_law_most"]
  d_law_frame : Df K mg "_law_frame" s_law_frame ["_law_cup_here", "_law_most"]
  d_law_tells : Df K mg "_law_tells" s_law_tells ["_law_dependencies", "_law_lot", "_law_column", "_law_row"]
  d_law_right : Df K mg "_law_right" s_law_right ["_law_frame_here", "_law_lot", "_law_column"]
section
variable {P : Program} {w : World} {K : PySem.W.Frag} {mg : Str → Option Value} {base : Heap}
theorem Tp.isRow (T : Tp K mg) (k : Nat) : Callee P w K mg base "is_row_of" (k + 1) R_isRow := c_isRow T.d_is_row_of T.B
theorem Tp.isWhole (T : Tp K mg) (k : Nat) : Callee P w K mg base "is_whole" (k + 1) R_isWhole := c_isWhole T.d_is_whole T.B
theorem Tp.word (T : Tp K mg) (k : Nat) : Callee P w K mg base "fits_word" (k + 1) R_word := by
  obtain ⟨t1, h1⟩ := T.g1
  obtain ⟨t2, h2⟩ := T.g2
  exact c_word T.d_fits_word T.B h1 h2
theorem Tp.unlike (T : Tp K mg) (k : Nat) : Callee P w K mg base "are_unlike" (k + 1) R_unlike := c_unlike T.d_are_unlike T.B
theorem Tp.cols (T : Tp K mg) (k : Nat) : Callee P w K mg base "fits_columns" (k + 2) R_cols := by
  obtain ⟨t1, h1⟩ := T.g3
  exact c_cols T.d_fits_columns T.B (T.isRow k) (T.word k) h1
theorem Tp.fitsLot (T : Tp K mg) (k : Nat) : Callee P w K mg base "fits_lot" (k + 3) R_fitsLot := c_fitsLot T.d_fits_lot T.B (T.cols k)
theorem Tp.fitsDep (T : Tp K mg) (k : Nat) : Callee P w K mg base "fits_dependency" (k + 4) R_fitsDep := c_fitsDep T.d_fits_dependency T.B (T.isRow (k + 2)) (T.fitsLot k) (T.word (k + 2))
theorem Tp.frame (T : Tp K mg) (k : Nat) : Callee P w K mg base "fits_frame" (k + 5) R_frame := by
  obtain ⟨t1, h1⟩ := T.g4
  exact c_frame (t2 := 0) T.d_fits_frame T.B h1 (T.isRow (k + 3)) (T.cols (k + 2)) (T.fitsDep k) (T.unlike (k + 3))
theorem Tp.fitsRows (T : Tp K mg) (k : Nat) : Callee P w K mg base "fits_rows" (k + 2) R_fitsRows := by
  obtain ⟨t1, h1⟩ := T.g6
  exact c_fitsRows T.d_fits_rows T.B h1 (T.isRow k) (T.isWhole k)
theorem Tp.cutR (T : Tp K mg) (k : Nat) : Callee P w K mg base "cut_row" (k + 1) R_cut := c_cut T.d_cut_row T.B
theorem Tp.alike (T : Tp K mg) (k : Nat) : Callee P w K mg base "are_alike" (k + 2) R_alike := c_alike T.d_are_alike (T.cutR k)
theorem Tp.keeps (T : Tp K mg) (k : Nat) : Callee P w K mg base "keeps" (k + 3) R_keeps := c_keeps T.d_keeps T.B (T.alike k)
theorem Tp.fitsSheet (T : Tp K mg) (k : Nat) : Callee P w K mg base "fits_sheet" (k + 4) R_fitsSheet := c_fitsSheet T.d_fits_sheet (T.fitsRows (k + 1)) (T.keeps k)
theorem Tp.cloIn (T : Tp K mg) (k : Nat) : Callee P w K mg base "closure_in" (k + 1) R_clo := c_clo T.d_closure_in T.B
theorem Tp.lotsIn (T : Tp K mg) (k : Nat) : Callee P w K mg base "lots_in" (k + 1) R_lots := c_lots T.d_lots_in T.B
theorem Tp.tellIn (T : Tp K mg) (k : Nat) : Callee P w K mg base "telling_in" (k + 1) R_tell := c_tell T.d_telling_in T.B
theorem Tp.two (T : Tp K mg) (k : Nat) : Callee P w K mg base "two_rows" (k + 1) R_two := c_two T.d_two_rows T.B
theorem Tp.needF (T : Tp K mg) (k : Nat) : Callee P w K mg base "need_frame" (k + 6) R_needF := c_needF T.d_need_frame (T.frame k)
theorem Tp.needL (T : Tp K mg) (k : Nat) : Callee P w K mg base "need_lot" (k + 4) R_needL := c_needL T.d_need_lot (T.fitsLot k)
theorem Tp.needC (T : Tp K mg) (k : Nat) : Callee P w K mg base "need_column" (k + 2) R_needC := c_needC T.d_need_column (T.word k)
theorem Tp.isFrame (T : Tp K mg) (k : Nat) : Callee P w K mg base "is_frame" (k + 6) R_frame := c_isFrame T.d_is_frame (T.frame k)
theorem Tp.isSheet (T : Tp K mg) (k : Nat) : Callee P w K mg base "is_sheet" (k + 7) R_isSheet := by
  obtain ⟨t1, h1⟩ := T.g5
  exact c_isSheet T.d_is_sheet h1 (T.needF k) (T.fitsSheet (k + 2))
theorem Tp.cloOf (T : Tp K mg) (k : Nat) : Callee P w K mg base "closure_of" (k + 7) R_cloOf := c_cloOf T.d_closure_of (T.needF k) (T.needL (k + 2)) (T.cloIn (k + 5))
theorem Tp.closed (T : Tp K mg) (k : Nat) : Callee P w K mg base "closed_lots" (k + 7) R_closed := c_closed T.d_closed_lots T.B (T.needF k) (T.lotsIn (k + 5)) (T.cloIn (k + 5))
theorem Tp.tellRow (T : Tp K mg) (k : Nat) : Callee P w K mg base "telling_row" (k + 7) R_tellRow := c_tellRow T.d_telling_row (T.needF k) (T.needL (k + 2)) (T.needC (k + 4)) (T.tellIn (k + 5))
theorem Tp.untold (T : Tp K mg) (k : Nat) : Callee P w K mg base "untold_sheet" (k + 7) R_untold := c_untold T.d_untold_sheet (T.needF k) (T.needL (k + 2)) (T.needC (k + 4)) (T.cloIn (k + 5)) (T.two (k + 5))
theorem Tp.lawLots (T : Tp K mg) (k : Nat) : Callee P w K mg base "_law_lots" (k + 1) R_lots := c_lawLots T.d_law_lots T.B
theorem Tp.has (T : Tp K mg) (k : Nat) : Callee P w K mg base "_law_has" (k + 1) R_has := c_has T.d_law_has
theorem Tp.isClosed (T : Tp K mg) (k : Nat) : Callee P w K mg base "_law_is_closed" (k + 2) R_isClosed := c_isClosed T.d_law_is_closed (T.has k)
theorem Tp.lawClo (T : Tp K mg) (k : Nat) : Callee P w K mg base "_law_closure" (k + 3) R_lawClo := c_lawClo T.d_law_closure T.B (T.lawLots (k + 1)) (T.has (k + 1)) (T.isClosed k)
theorem Tp.same (T : Tp K mg) (k : Nat) : Callee P w K mg base "_law_same" (k + 1) R_same := c_same T.d_law_same T.B
theorem Tp.lawKeeps (T : Tp K mg) (k : Nat) : Callee P w K mg base "_law_keeps" (k + 2) R_lawKeeps := c_lawKeeps T.d_law_keeps (T.same k)
theorem Tp.lawRows (T : Tp K mg) (k : Nat) : Callee P w K mg base "_law_is_rows" (k + 1) R_fitsRows := c_lawRows T.d_law_is_rows T.B
theorem Tp.lawSheet (T : Tp K mg) (k : Nat) : Callee P w K mg base "_law_is_sheet" (k + 3) R_lawSheet := c_lawSheet T.d_law_is_sheet (T.lawRows (k + 1)) (T.lawKeeps k)
theorem Tp.tells (T : Tp K mg) (k : Nat) : Callee P w K mg base "_law_tells" (k + 2) R_tells := c_tells T.d_law_tells T.B (T.has k)
theorem Tp.right (T : Tp K mg) (k : Nat) : Callee P w K mg base "_law_right" (k + 8) R_right := c_right T.d_law_right T.B (T.lawClo (k + 4)) (T.tellRow k) (T.untold k) (T.cloOf k) (T.tells (k + 5)) (T.lawSheet (k + 4)) (T.isSheet k) (T.same (k + 6))
theorem Tp.roll (T : Tp K mg) (k : Nat) : CalleeN P w K mg base "_law_roll" (k + 1) R_roll := c_roll T.d_law_roll T.B
theorem Tp.some (T : Tp K mg) (k : Nat) : CalleeN P w K mg base "_law_some" (k + 2) R_some := c_some T.d_law_some T.B (T.roll k)
theorem Tp.lawFrame (T : Tp K mg) (k : Nat) : CalleeN P w K mg base "_law_frame" (k + 3) R_lawFrame := c_lawFrame T.d_law_frame T.B (T.roll (k + 1)) (T.some k) (Nat.le_add_left 1 (k + 1))
theorem Tp.law (T : Tp K mg) {f : Addr} {fd : FuncData} (F : Fun K "law" "law" s_law f fd) : FnOk P w K mg base CX0 9 f fd ["_law_script"] (spLaw K) :=
  c_law F T.B (c_cup (k := 7) T.d_law_cup T.B) (T.lawFrame 5) (T.isFrame 2) (T.closed 1) (T.lawLots 7) (T.isClosed 6) (T.some 6) (T.right 0) (T.cloOf 1) (T.tellRow 1) (T.untold 1)
end
/-! ### the top's facts -/
theorem df_mk {K : PySem.W.Frag} {h : Heap} {mg : Str → Option Value} {x : Str} {st : Stmt} {ps : List Str} {f : Addr} {od an : Option Addr} {sl : Array (Option Value)} {oc kV dc pm cd ct : Value} (X : K.In h) (G : h.Ns mainGlobals mg)
    (a : PySem.W.nsIn K mainGlobals x = some (some (.ref f))) (l : K.lookup f = some ⟨oc, od, .func (PySem.W.fnOf x x (defArgs st) (defBody st) (defScope st) .none kV dc pm an cd ct), sl⟩) (c : PySem.W.codeIn K cd x = true) (k : PySem.W.keepIn K (.ref f) = true)
    (hb : ∀ (kV doc pm : Value) (an : Option Addr) (cdv ct : Value) (us : List Value), us.length = ps.length → bindArgs (PySem.W.fnOf x x (defArgs st) (defBody st) (defScope st) .none kV doc pm an cdv ct) ⟨us, []⟩ = pure (ps.zip us)) : Df K mg x st ps :=
  ⟨f, _, fun_mk l c k, PySem.W.mg_of X G a, (fun_mk l c k).binds hb⟩
theorem law_mk {l : PySem.W.OpenLaw} {w : World} {K : PySem.W.Frag} {h : Heap} {mg : Str → Option Value} {fa f : Addr} (X : K.In h) (G : h.Ns mainGlobals mg) (hfa : mg "law" = some (.ref fa)) {od an : Option Addr} {sl : Array (Option Value)} {oc kV dc pm cd ct : Value}
    (a : PySem.W.nsIn K mainGlobals "law" = some (some (.ref f))) (lk : K.lookup f = some ⟨oc, od, .func (PySem.W.fnOf "law" "law" (defArgs s_law) (defBody s_law) (defScope s_law) .none kV dc pm an cd ct), sl⟩) (c : PySem.W.codeIn K cd "law" = true) (k : PySem.W.keepIn K (.ref f) = true) (T : Tp K mg) :
    ∃ fd : FuncData, (∀ (s : Shared) (v : Value), BindsTo s fd ⟨[v], []⟩ [("_law_script", v)]) ∧ ∀ base : Heap, K.In base → base.Ns mainGlobals mg → FnOk l.prog w K mg base CX0 9 fa fd ["_law_script"] (spLaw K) := by
  have e := hfa.symm.trans (PySem.W.mg_of X G a)
  cases e
  exact ⟨PySem.W.fnOf "law" "law" (defArgs s_law) (defBody s_law) (defScope s_law) .none kV dc pm an cd ct, fun s v => .of_eq rfl, fun base _ _ => T.law (fun_mk lk c k)⟩
end Pb
open PySem PySem.W PyProof.Rows
set_option maxHeartbeats 0 in
theorem PySem.Challenge.cw_puttingback_k36_whole_closures_of_lots_holds : PySem.Challenge.rw_puttingback_k36_whole_closures_of_lots.Holds := by
  w_on; o_law; k_head; (case hw => w_witness2)
  k_fill
  refine L2.walk_of (l := PySem.Challenge.rw_puttingback_k36_whole_closures_of_lots) (n := 63) (k := 9) (x := "_law_script") (CX := fun _ => L2.CX0) (sp := fun w => Pb.spLaw _) rfl (by decide) rfl ⟨rfl, by decide, by decide⟩ (fun w h Y => PySem.W.kIn_of Y) ?F (fun _ _ a ns hl _ hS => ⟨a, ns, rfl, hS, hl, fun _ => rfl⟩) (fun _ _ _ _ _ h => h)
  case F =>
    intro w mg fa h KX G hmg
    refine' Pb.law_mk KX G hmg ?a0 ?l0 ?c0 ?k0 ?T
    (case a0 => k_is); (case l0 => k_is); (case c0 => k_is); (case k0 => k_is)
    case T =>
      refine ⟨?B, ?g1, ?g2, ?g3, ?g4, ?g5, ?g6, ?d_is_whole, ?d_is_row_of, ?d_fits_word, ?d_are_unlike, ?d_fits_columns, ?d_fits_lot, ?d_fits_dependency, ?d_fits_frame, ?d_fits_rows, ?d_cut_row, ?d_are_alike, ?d_keeps, ?d_fits_sheet, ?d_closure_in, ?d_lots_in, ?d_telling_in, ?d_two_rows, ?d_need_frame, ?d_need_lot, ?d_need_column, ?d_is_frame, ?d_is_sheet, ?d_closure_of, ?d_closed_lots, ?d_telling_row, ?d_untold_sheet, ?d_law_cup, ?d_law_roll, ?d_law_some, ?d_law_lots, ?d_law_has, ?d_law_is_closed, ?d_law_closure, ?d_law_same, ?d_law_keeps, ?d_law_is_rows, ?d_law_is_sheet, ?d_law_frame, ?d_law_tells, ?d_law_right⟩
      case B =>
        refine ⟨?_, ?_, ?_, ?_, ?_, ?_, ?_, ?_, ?_, ?_, ?_, ?_, ?_, ?_⟩ <;> refine PySem.W.mg_none_of KX G ?_ <;> k_is
      case g1 => exact ⟨_, PySem.W.mg_of KX G (by k_is)⟩
      case g2 => exact ⟨_, PySem.W.mg_of KX G (by k_is)⟩
      case g3 => exact ⟨_, PySem.W.mg_of KX G (by k_is)⟩
      case g4 => exact ⟨_, PySem.W.mg_of KX G (by k_is)⟩
      case g5 => exact ⟨_, PySem.W.mg_of KX G (by k_is)⟩
      case g6 => exact ⟨_, PySem.W.mg_of KX G (by k_is)⟩
      case d_is_whole =>
        refine' Pb.df_mk KX G ?a ?l ?c ?k (fun _ _ _ _ _ _ us hl => match us, hl with | [_, _, _], _ => rfl)
        (case a => k_is); (case l => k_is); (case c => k_is); (case k => k_is)
      case d_is_row_of =>
        refine' Pb.df_mk KX G ?a ?l ?c ?k (fun _ _ _ _ _ _ us hl => match us, hl with | [_, _, _], _ => rfl)
        (case a => k_is); (case l => k_is); (case c => k_is); (case k => k_is)
      case d_fits_word =>
        refine' Pb.df_mk KX G ?a ?l ?c ?k (fun _ _ _ _ _ _ us hl => match us, hl with | [_], _ => rfl)
        (case a => k_is); (case l => k_is); (case c => k_is); (case k => k_is)
      case d_are_unlike =>
        refine' Pb.df_mk KX G ?a ?l ?c ?k (fun _ _ _ _ _ _ us hl => match us, hl with | [_], _ => rfl)
        (case a => k_is); (case l => k_is); (case c => k_is); (case k => k_is)
      case d_fits_columns =>
        refine' Pb.df_mk KX G ?a ?l ?c ?k (fun _ _ _ _ _ _ us hl => match us, hl with | [_], _ => rfl)
        (case a => k_is); (case l => k_is); (case c => k_is); (case k => k_is)
      case d_fits_lot =>
        refine' Pb.df_mk KX G ?a ?l ?c ?k (fun _ _ _ _ _ _ us hl => match us, hl with | [_, _], _ => rfl)
        (case a => k_is); (case l => k_is); (case c => k_is); (case k => k_is)
      case d_fits_dependency =>
        refine' Pb.df_mk KX G ?a ?l ?c ?k (fun _ _ _ _ _ _ us hl => match us, hl with | [_, _], _ => rfl)
        (case a => k_is); (case l => k_is); (case c => k_is); (case k => k_is)
      case d_fits_frame =>
        refine' Pb.df_mk KX G ?a ?l ?c ?k (fun _ _ _ _ _ _ us hl => match us, hl with | [_], _ => rfl)
        (case a => k_is); (case l => k_is); (case c => k_is); (case k => k_is)
      case d_fits_rows =>
        refine' Pb.df_mk KX G ?a ?l ?c ?k (fun _ _ _ _ _ _ us hl => match us, hl with | [_, _, _], _ => rfl)
        (case a => k_is); (case l => k_is); (case c => k_is); (case k => k_is)
      case d_cut_row =>
        refine' Pb.df_mk KX G ?a ?l ?c ?k (fun _ _ _ _ _ _ us hl => match us, hl with | [_, _, _], _ => rfl)
        (case a => k_is); (case l => k_is); (case c => k_is); (case k => k_is)
      case d_are_alike =>
        refine' Pb.df_mk KX G ?a ?l ?c ?k (fun _ _ _ _ _ _ us hl => match us, hl with | [_, _, _, _], _ => rfl)
        (case a => k_is); (case l => k_is); (case c => k_is); (case k => k_is)
      case d_keeps =>
        refine' Pb.df_mk KX G ?a ?l ?c ?k (fun _ _ _ _ _ _ us hl => match us, hl with | [_, _, _], _ => rfl)
        (case a => k_is); (case l => k_is); (case c => k_is); (case k => k_is)
      case d_fits_sheet =>
        refine' Pb.df_mk KX G ?a ?l ?c ?k (fun _ _ _ _ _ _ us hl => match us, hl with | [_, _, _], _ => rfl)
        (case a => k_is); (case l => k_is); (case c => k_is); (case k => k_is)
      case d_closure_in =>
        refine' Pb.df_mk KX G ?a ?l ?c ?k (fun _ _ _ _ _ _ us hl => match us, hl with | [_, _], _ => rfl)
        (case a => k_is); (case l => k_is); (case c => k_is); (case k => k_is)
      case d_lots_in =>
        refine' Pb.df_mk KX G ?a ?l ?c ?k (fun _ _ _ _ _ _ us hl => match us, hl with | [_], _ => rfl)
        (case a => k_is); (case l => k_is); (case c => k_is); (case k => k_is)
      case d_telling_in =>
        refine' Pb.df_mk KX G ?a ?l ?c ?k (fun _ _ _ _ _ _ us hl => match us, hl with | [_, _, _], _ => rfl)
        (case a => k_is); (case l => k_is); (case c => k_is); (case k => k_is)
      case d_two_rows =>
        refine' Pb.df_mk KX G ?a ?l ?c ?k (fun _ _ _ _ _ _ us hl => match us, hl with | [_, _], _ => rfl)
        (case a => k_is); (case l => k_is); (case c => k_is); (case k => k_is)
      case d_need_frame =>
        refine' Pb.df_mk KX G ?a ?l ?c ?k (fun _ _ _ _ _ _ us hl => match us, hl with | [_], _ => rfl)
        (case a => k_is); (case l => k_is); (case c => k_is); (case k => k_is)
      case d_need_lot =>
        refine' Pb.df_mk KX G ?a ?l ?c ?k (fun _ _ _ _ _ _ us hl => match us, hl with | [_, _], _ => rfl)
        (case a => k_is); (case l => k_is); (case c => k_is); (case k => k_is)
      case d_need_column =>
        refine' Pb.df_mk KX G ?a ?l ?c ?k (fun _ _ _ _ _ _ us hl => match us, hl with | [_, _], _ => rfl)
        (case a => k_is); (case l => k_is); (case c => k_is); (case k => k_is)
      case d_is_frame =>
        refine' Pb.df_mk KX G ?a ?l ?c ?k (fun _ _ _ _ _ _ us hl => match us, hl with | [_], _ => rfl)
        (case a => k_is); (case l => k_is); (case c => k_is); (case k => k_is)
      case d_is_sheet =>
        refine' Pb.df_mk KX G ?a ?l ?c ?k (fun _ _ _ _ _ _ us hl => match us, hl with | [_, _], _ => rfl)
        (case a => k_is); (case l => k_is); (case c => k_is); (case k => k_is)
      case d_closure_of =>
        refine' Pb.df_mk KX G ?a ?l ?c ?k (fun _ _ _ _ _ _ us hl => match us, hl with | [_, _], _ => rfl)
        (case a => k_is); (case l => k_is); (case c => k_is); (case k => k_is)
      case d_closed_lots =>
        refine' Pb.df_mk KX G ?a ?l ?c ?k (fun _ _ _ _ _ _ us hl => match us, hl with | [_], _ => rfl)
        (case a => k_is); (case l => k_is); (case c => k_is); (case k => k_is)
      case d_telling_row =>
        refine' Pb.df_mk KX G ?a ?l ?c ?k (fun _ _ _ _ _ _ us hl => match us, hl with | [_, _, _], _ => rfl)
        (case a => k_is); (case l => k_is); (case c => k_is); (case k => k_is)
      case d_untold_sheet =>
        refine' Pb.df_mk KX G ?a ?l ?c ?k (fun _ _ _ _ _ _ us hl => match us, hl with | [_, _, _], _ => rfl)
        (case a => k_is); (case l => k_is); (case c => k_is); (case k => k_is)
      case d_law_cup =>
        refine' Pb.df_mk KX G ?a ?l ?c ?k (fun _ _ _ _ _ _ us hl => match us, hl with | [_], _ => rfl)
        (case a => k_is); (case l => k_is); (case c => k_is); (case k => k_is)
      case d_law_roll =>
        refine' Pb.df_mk KX G ?a ?l ?c ?k (fun _ _ _ _ _ _ us hl => match us, hl with | [_, _], _ => rfl)
        (case a => k_is); (case l => k_is); (case c => k_is); (case k => k_is)
      case d_law_some =>
        refine' Pb.df_mk KX G ?a ?l ?c ?k (fun _ _ _ _ _ _ us hl => match us, hl with | [_, _], _ => rfl)
        (case a => k_is); (case l => k_is); (case c => k_is); (case k => k_is)
      case d_law_lots =>
        refine' Pb.df_mk KX G ?a ?l ?c ?k (fun _ _ _ _ _ _ us hl => match us, hl with | [_], _ => rfl)
        (case a => k_is); (case l => k_is); (case c => k_is); (case k => k_is)
      case d_law_has =>
        refine' Pb.df_mk KX G ?a ?l ?c ?k (fun _ _ _ _ _ _ us hl => match us, hl with | [_, _], _ => rfl)
        (case a => k_is); (case l => k_is); (case c => k_is); (case k => k_is)
      case d_law_is_closed =>
        refine' Pb.df_mk KX G ?a ?l ?c ?k (fun _ _ _ _ _ _ us hl => match us, hl with | [_, _], _ => rfl)
        (case a => k_is); (case l => k_is); (case c => k_is); (case k => k_is)
      case d_law_closure =>
        refine' Pb.df_mk KX G ?a ?l ?c ?k (fun _ _ _ _ _ _ us hl => match us, hl with | [_, _, _], _ => rfl)
        (case a => k_is); (case l => k_is); (case c => k_is); (case k => k_is)
      case d_law_same =>
        refine' Pb.df_mk KX G ?a ?l ?c ?k (fun _ _ _ _ _ _ us hl => match us, hl with | [_, _, _, _], _ => rfl)
        (case a => k_is); (case l => k_is); (case c => k_is); (case k => k_is)
      case d_law_keeps =>
        refine' Pb.df_mk KX G ?a ?l ?c ?k (fun _ _ _ _ _ _ us hl => match us, hl with | [_, _, _], _ => rfl)
        (case a => k_is); (case l => k_is); (case c => k_is); (case k => k_is)
      case d_law_is_rows =>
        refine' Pb.df_mk KX G ?a ?l ?c ?k (fun _ _ _ _ _ _ us hl => match us, hl with | [_, _, _], _ => rfl)
        (case a => k_is); (case l => k_is); (case c => k_is); (case k => k_is)
      case d_law_is_sheet =>
        refine' Pb.df_mk KX G ?a ?l ?c ?k (fun _ _ _ _ _ _ us hl => match us, hl with | [_, _, _], _ => rfl)
        (case a => k_is); (case l => k_is); (case c => k_is); (case k => k_is)
      case d_law_frame =>
        refine' Pb.df_mk KX G ?a ?l ?c ?k (fun _ _ _ _ _ _ us hl => match us, hl with | [_, _], _ => rfl)
        (case a => k_is); (case l => k_is); (case c => k_is); (case k => k_is)
      case d_law_tells =>
        refine' Pb.df_mk KX G ?a ?l ?c ?k (fun _ _ _ _ _ _ us hl => match us, hl with | [_, _, _, _], _ => rfl)
        (case a => k_is); (case l => k_is); (case c => k_is); (case k => k_is)
      case d_law_right =>
        refine' Pb.df_mk KX G ?a ?l ?c ?k (fun _ _ _ _ _ _ us hl => match us, hl with | [_, _, _], _ => rfl)
        (case a => k_is); (case l => k_is); (case c => k_is); (case k => k_is)
