import PyProof.Rows.All
import Wide.All
import OpenK.AllK
import Wide.FinOn
import KE.KStateDown
import HandS.ForMost
import HandS.Evl
import HandS.Deep
import HandS.IsInst
import HandS.Conv
import HandS.StrMore
import HandS.ReplaceList
import HandS.ReplaceDef
import HandS.ReplaceLit
import HandS.Steps
import HandS.Exc
import HandS.Defaults
import HandS.TupSets
import HandS.Head0
import HandS.Head1
import HandS.Head2
import HandS.HeadEnd
import HandS.HeadHook1
import HandS.HeadHook2
import PySem.Challenge.RW_corpuskeep_k16_whole_cleaning
set_option Elab.async false
set_option linter.all false
set_option maxRecDepth 100000
set_option maxHeartbeats 4000000
namespace Ck
open PySem PySem.Spec PyProof.Rows L2 TL

/-! ### data in the known part F of the heap -/
mutual
inductive Rp (F : Hp) : V → PyData → Prop
  | non : Rp F .non .none
  | bl (b : Bool) : Rp F (.bl b) (.bool b)
  | int (i : Int) : Rp F (.int i) (.int i)
  | str (x : Str) : Rp F (.str x) (.str x)
  | lst {a : Addr} {xs : List V} {ds : List PyData} : F a = some (.lst xs) → Rps F xs ds → Rp F (.ref a) (.list ds)
  | tup {a : Addr} {xs : List V} {ds : List PyData} : F a = some (.tup xs) → Rps F xs ds → Rp F (.ref a) (.tuple ds)
inductive Rps (F : Hp) : List V → List PyData → Prop
  | nil : Rps F [] []
  | cons {v : V} {vs : List V} {d : PyData} {ds : List PyData} : Rp F v d → Rps F vs ds → Rps F (v :: vs) (d :: ds)
end

section
variable {F F' H : Hp}
mutual
theorem Rp.up (s : Same F F') : ∀ {v : V} (d : PyData), Rp F v d → Rp F' v d
  | _, .none, h => by cases h; exact .non
  | _, .bool _, h => by cases h; exact .bl _
  | _, .int _, h => by cases h; exact .int _
  | _, .str _, h => by cases h; exact .str _
  | _, .list ds, h => by
    cases h with
    | lst e r => exact .lst (s _ _ e) (Rps.up s ds r)
  | _, .tuple ds, h => by
    cases h with
    | tup e r => exact .tup (s _ _ e) (Rps.up s ds r)
  | _, .dict _, h => by cases h
theorem Rps.up (s : Same F F') : ∀ {vs : List V} (ds : List PyData), Rps F vs ds → Rps F' vs ds
  | _, [], h => by cases h; exact .nil
  | _, d :: ds, h => by
    cases h with
    | cons a b => exact .cons (Rp.up s d a) (Rps.up s ds b)
end
mutual
theorem Rp.dp {K : PySem.W.Frag} : ∀ {v : V} (d : PyData), Rp F v d → Dp K F v d
  | _, .none, h => by cases h; exact .non
  | _, .bool _, h => by cases h; exact .bl _
  | _, .int _, h => by cases h; exact .int _
  | _, .str _, h => by cases h; exact .str _
  | _, .list ds, h => by
    cases h with
    | lst e r => exact .lst (SqL.of e) (Rps.dp ds r)
  | _, .tuple ds, h => by
    cases h with
    | tup e r => exact .tup (SqT.of e) (Rps.dp ds r)
  | _, .dict _, h => by cases h
theorem Rps.dp {K : PySem.W.Frag} : ∀ {vs : List V} (ds : List PyData), Rps F vs ds → DpAll K F vs ds
  | _, [], h => by cases h; exact .nil
  | _, d :: ds, h => by
    cases h with
    | cons a b => exact .cons (Rp.dp d a) (Rps.dp ds b)
end
theorem Rps.length : ∀ {vs : List V} {ds : List PyData}, Rps F vs ds → vs.length = ds.length
  | [], _, h => by cases h; rfl
  | v :: vs, _, h => by
    cases h with
    | cons a b => exact congrArg Nat.succ (Rps.length b)
theorem Rps.append : ∀ {vs us : List V} {ds es : List PyData}, Rps F vs ds → Rps F us es → Rps F (vs ++ us) (ds ++ es)
  | [], _, _, _, h, k => by cases h; exact k
  | v :: vs, _, _, _, h, k => by
    cases h with
    | cons a b => exact .cons a (Rps.append b k)
theorem Rps.one {v : V} {d : PyData} (h : Rp F v d) : Rps F [v] [d] := .cons h .nil
theorem Rps.snoc {vs : List V} {ds : List PyData} {v : V} {d : PyData} (h : Rps F vs ds) (k : Rp F v d) : Rps F (vs ++ [v]) (ds ++ [d]) := h.append (.one k)
theorem Rps.get : ∀ {vs : List V} {ds : List PyData} {i : Nat} {v : V}, Rps F vs ds → vs[i]? = some v → ∃ d, ds[i]? = some d ∧ Rp F v d
  | _, _, _, _, .nil, e => by simp at e
  | _, _, 0, _, .cons r _, e => by simp at e; subst e; exact ⟨_, rfl, r⟩
  | _, _, i + 1, x, .cons _ t, e => by
    obtain ⟨u, h1, h2⟩ := Rps.get (i := i) (v := x) t (by simpa using e)
    exact ⟨u, by simpa using h1, h2⟩
theorem Rps.at : ∀ {vs : List V} {ds : List PyData} {i : Nat} {d : PyData}, Rps F vs ds → ds[i]? = some d → ∃ v, vs[i]? = some v ∧ Rp F v d
  | _, _, _, _, .nil, e => by simp at e
  | _, _, 0, _, .cons r _, e => by simp at e; subst e; exact ⟨_, rfl, r⟩
  | _, _, i + 1, x, .cons _ t, e => by
    obtain ⟨u, h1, h2⟩ := Rps.at (i := i) (d := x) t (by simpa using e)
    exact ⟨u, by simpa using h1, h2⟩
theorem Rp.int_inv {v : V} {i : Int} (h : Rp F v (.int i)) : v = .int i := by cases h; rfl
theorem Rp.str_inv {v : V} {x : Str} (h : Rp F v (.str x)) : v = .str x := by cases h; rfl
theorem Rp.bl_inv {v : V} {x : Bool} (h : Rp F v (.bool x)) : v = .bl x := by cases h; rfl
theorem Rp.non_inv {v : V} (h : Rp F v .none) : v = .non := by cases h; rfl
theorem Rp.lst_inv {v : V} {ds : List PyData} (h : Rp F v (.list ds)) : ∃ a xs, v = .ref a ∧ F a = some (.lst xs) ∧ Rps F xs ds := by
  cases h with
  | lst e r => exact ⟨_, _, rfl, e, r⟩
theorem Rp.tup_inv {v : V} {ds : List PyData} (h : Rp F v (.tuple ds)) : ∃ a xs, v = .ref a ∧ F a = some (.tup xs) ∧ Rps F xs ds := by
  cases h with
  | tup e r => exact ⟨_, _, rfl, e, r⟩
theorem Rps.nil_inv {vs : List V} (h : Rps F vs []) : vs = [] := by cases h; rfl
theorem Rps.cons_inv {vs : List V} {d : PyData} {ds : List PyData} (h : Rps F vs (d :: ds)) : ∃ v us, vs = v :: us ∧ Rp F v d ∧ Rps F us ds := by
  cases h with
  | cons a b => exact ⟨_, _, rfl, a, b⟩
theorem Rps.strs : ∀ l : List Str, Rps F (l.map V.str) (l.map PyData.str)
  | [] => .nil
  | x :: l => .cons (.str x) (Rps.strs l)
theorem Rps.strs_inv : ∀ {l : List Str} {vs : List V}, Rps F vs (l.map PyData.str) → vs = l.map V.str
  | [], _, h => by cases h; rfl
  | x :: l, _, h => by
    cases h with
    | cons a b => rw [Rps.strs_inv b, Rp.str_inv a]; rfl
theorem Rps.ints : ∀ l : List Int, Rps F (l.map V.int) (l.map PyData.int)
  | [] => .nil
  | x :: l => .cons (.int x) (Rps.ints l)
theorem Rps.ints_inv : ∀ {l : List Int} {vs : List V}, Rps F vs (l.map PyData.int) → vs = l.map V.int
  | [], _, h => by cases h; rfl
  | x :: l, _, h => by
    cases h with
    | cons a b => rw [Rps.ints_inv b, Rp.int_inv a]; rfl
/-- a list of tuples of three: a text, two ints -/
theorem Rps.take {vs : List V} {ds : List PyData} : ∀ (n : Nat), Rps F vs ds → Rps F (vs.take n) (ds.take n) := by
  intro n h
  induction n generalizing vs ds with
  | zero => exact .nil
  | succ n ih =>
    cases h with
    | nil => exact .nil
    | cons a b => exact .cons a (ih b)
end

theorem take_more {α : Type} {l : List α} {i : Nat} {x : α} (h : l[i]? = some x) : l.take (i + 1) = l.take i ++ [x] := by
  obtain ⟨hl, e⟩ := List.getElem?_eq_some_iff.mp h
  rw [List.take_succ_eq_append_getElem hl, e]
/-! ### how the heap goes on: F is known and stands still, H is all that is tracked; what is at M may change -/
structure Grow (M : List Addr) (F H F' H' : Hp) : Prop where
  ff : Same F F'
  fh : Same F' H'
  keep : ∀ a o, a ∉ M → H a = some o → H' a = some o
  new : ∀ a, F' a ≠ none → F a = none → H a = none ∨ a ∈ M
def Mu (F H : Hp) (l : Addr) (o : HO) : Prop := H l = some o ∧ F l = none
section
variable {M M2 : List Addr} {F H F' H' F0 H0 F1 H1 F2 H2 : Hp} {a l p : Addr} {o u : HO} {xs : List V} {K : PySem.W.Frag}
theorem opt_of {α : Type} {x : Option α} (h : x ≠ none) : ∃ y, x = some y := by
  cases x with
  | none => exact absurd rfl h
  | some y => exact ⟨y, rfl⟩
theorem none_of {α : Type} {x : Option α} (h : ∀ y, x ≠ some y) : x = none := by
  cases x with
  | none => rfl
  | some y => exact absurd rfl (h y)
theorem Grow.refl (ok : Same F H) : Grow M F H F H := ⟨fun _ _ e => e, ok, fun _ _ _ e => e, fun a h n => absurd n h⟩
theorem Grow.comp (G : Grow M F0 H0 F1 H1) (g : Grow M2 F1 H1 F2 H2) (s : ∀ a ∈ M2, a ∈ M ∨ H0 a = none) : Grow M F0 H0 F2 H2 where
  ff := fun a o e => g.ff a o (G.ff a o e)
  fh := g.fh
  keep := fun a o h e => by
    refine g.keep a o (fun m => ?_) (G.keep a o h e)
    rcases s a m with z | z
    · exact h z
    · rw [z] at e; cases e
  new := fun a h n => by
    cases q : F1 a with
    | some o =>
      rcases G.new a (by rw [q]; exact fun z => nomatch z) n with z | z
      · exact .inl z
      · exact .inr z
    | none =>
      rcases g.new a h q with z | z
      · cases q0 : H0 a with
        | none => exact .inl rfl
        | some o =>
          by_cases hm : a ∈ M
          · exact .inr hm
          · rw [G.keep a o hm q0] at z; cases z
      · rcases s a z with y | y
        · exact .inr y
        · exact .inl y
theorem Grow.back (G : Grow M F0 H0 F1 H1) (n : H1 a = none) : a ∈ M ∨ H0 a = none := by
  by_cases hm : a ∈ M
  · exact .inl hm
  · refine .inr (none_of fun o e => ?_)
    rw [G.keep a o hm e] at n; cases n
theorem Grow.back0 (G : Grow [] F0 H0 F1 H1) (n : H1 a = none) : H0 a = none := by
  rcases G.back n with z | z
  · cases z
  · exact z
theorem Grow.mu (g : Grow M F H F' H') (hl : l ∉ M) (m : Mu F H l o) : Mu F' H' l o := by
  refine ⟨g.keep l o hl m.1, none_of fun u e => ?_⟩
  rcases g.new l (by rw [e]; exact fun z => nomatch z) m.2 with z | z
  · rw [m.1] at z; cases z
  · exact hl z
theorem Grow.rp {v : V} {d : PyData} (g : Grow M F H F' H') (r : Rp F v d) : Rp F' v d := Rp.up g.ff d r
theorem Grow.rps {v : List V} {d : List PyData} (g : Grow M F H F' H') (r : Rps F v d) : Rps F' v d := Rps.up g.ff d r
theorem Grow.at (g : Grow M F H F' H') (r : F a = some o) : F' a = some o := g.ff a o r
theorem Grow.mono (g : Grow M F H F' H') (h : ∀ a ∈ M, a ∈ M2) : Grow M2 F H F' H' :=
  ⟨g.ff, g.fh, fun a o n e => g.keep a o (fun z => n (h a z)) e, fun a h1 n => (g.new a h1 n).imp id (h a)⟩
/-- what changes is new since the start -/
theorem Grow.drop (g : Grow (l :: M) F H F' H') (n : H l = none) : Grow M F H F' H' :=
  ⟨g.ff, g.fh, fun a o h e => g.keep a o (fun z => by
      rcases List.mem_cons.mp z with q | q
      · rw [q, n] at e; cases e
      · exact h q) e, fun a h1 n1 => by
      rcases g.new a h1 n1 with z | z
      · exact .inl z
      · rcases List.mem_cons.mp z with q | q
        · rw [q]; exact .inl n
        · exact .inr q⟩
theorem fz_new (ok : Same F H) (hp : H p = none) : Grow [] F H (upd F p o) (upd H p o) where
  ff := fun a u e => by rw [upd_ne (ne_of_none (ok a u e) hp)]; exact e
  fh := fun a u e => by
    by_cases h : a = p
    · subst h; rw [upd_same] at e ⊢; exact e
    · rw [upd_ne h] at e ⊢; exact ok a u e
  keep := fun a u _ e => by rw [upd_ne (ne_of_none e hp)]; exact e
  new := fun a h n => by
    by_cases q : a = p
    · subst q; exact .inl hp
    · rw [upd_ne q] at h; exact absurd n h
theorem free_in (ok : Same F H) (hp : H p = none) : F p = none := ok.free hp
theorem mu_new (ok : Same F H) (hp : H p = none) : Grow [] F H F (upd H p o) where
  ff := fun _ _ e => e
  fh := fun a u e => by rw [upd_ne (ne_of_none (ok a u e) hp)]; exact ok a u e
  keep := fun a u _ e => by rw [upd_ne (ne_of_none e hp)]; exact e
  new := fun a h n => absurd n h
theorem mu_wr (ok : Same F H) (m : Mu F H l o) : Grow [l] F H F (upd H l u) where
  ff := fun _ _ e => e
  fh := fun a u e => by
    have ne : a ≠ l := fun z => by rw [z, m.2] at e; cases e
    rw [upd_ne ne]; exact ok a u e
  keep := fun a u h e => by
    have ne : a ≠ l := fun z => h (by rw [z]; exact List.mem_singleton.mpr rfl)
    rw [upd_ne ne]; exact e
  new := fun a h n => absurd n h
theorem fz_mu (ok : Same F H) (m : Mu F H l o) : Grow [l] F H (upd F l o) H where
  ff := fun a u e => by
    have ne : a ≠ l := fun z => by rw [z, m.2] at e; cases e
    rw [upd_ne ne]; exact e
  fh := fun a u e => by
    by_cases h : a = l
    · subst h; rw [upd_same] at e; cases e; exact m.1
    · rw [upd_ne h] at e; exact ok a u e
  keep := fun a u _ e => e
  new := fun a h n => by
    by_cases q : a = l
    · subst q; exact .inr (List.mem_singleton.mpr rfl)
    · rw [upd_ne q] at h; exact absurd n h
/-! the forms for the walk -/
def New (o : HO) (H : Hp) (Q : VK) : Prop := ∀ p, H p = none → Q (.ref p) (upd H p o)
def Wr (a : Addr) (o : HO) (H : Hp) (Q : Hp → Prop) : Prop := Q (upd H a o)
theorem k_new {Q : VK} (ok : Same F H) (k : ∀ p F' H', Grow [] F H F' H' → F' p = some o → H p = none → Q (.ref p) H') : New o H Q :=
  fun p hp => k p _ _ (fz_new ok hp) upd_same hp
theorem k_mu {Q : VK} (ok : Same F H) (k : ∀ p F' H', Grow [] F H F' H' → Mu F' H' p o → H p = none → Q (.ref p) H') : New o H Q :=
  fun p hp => k p _ _ (mu_new ok hp) ⟨upd_same, free_in ok hp⟩ hp
theorem k_wr {Q : Hp → Prop} (ok : Same F H) (m : Mu F H l o) (k : ∀ F' H', Grow [l] F H F' H' → Mu F' H' l u → Q H') : Wr l u H Q :=
  k _ _ (mu_wr ok m) ⟨upd_same, m.2⟩
theorem k_fz {A : Prop} (ok : Same F H) (m : Mu F H l o) (k : ∀ F', Grow [l] F H F' H → F' l = some o → A) : A := k _ (fz_mu ok m) upd_same
theorem sql_fz (ok : Same F H) (h : F a = some (.lst xs)) : SqL K H a xs := SqL.of (ok _ _ h)
theorem sqt_fz (ok : Same F H) (h : F a = some (.tup xs)) : SqT K H a xs := SqT.of (ok _ _ h)
theorem sql_mu (h : Mu F H a (.lst xs)) : SqL K H a xs := SqL.of h.1
theorem nil_not {a : Addr} : a ∉ ([] : List Addr) := fun z => nomatch z
theorem one_not {a b : Addr} (h : a ≠ b) : a ∉ [b] := fun z => h (List.mem_singleton.mp z)
theorem side_nil {P : Addr → Prop} : ∀ a ∈ ([] : List Addr), P a := fun _ z => nomatch z
theorem side_one {P : Addr → Prop} {b : Addr} (h : P b) : ∀ a ∈ [b], P a := fun a z => by rw [List.mem_singleton.mp z]; exact h
theorem Mu.ne (m : Mu F H l o) (n : H p = none) : l ≠ p := fun z => by rw [← z, m.1] at n; cases n
theorem at_ne (ok : Same F H) (m : F l = some o) (n : H p = none) : l ≠ p := fun z => by rw [← z, ] at n; rw [ok _ _ m] at n; cases n
end

/-! ### what a reading asks, a step at a time -/
section
variable {σ : L2.St} {H : Hp} {Q : VK} {i : Nat} {v x y : V} {ta tb te : TE} {b : Bool} {K : PySem.W.Frag} {tr : TA} {QA : List V → Hp → Prop} {QT : Bool → Hp → Prop} {t u : TT}
theorem r_var (h : σ[i]? = some (some v)) (q : Q v H) : tVar i σ H Q := ⟨v, h, q⟩
theorem r_c (q : Q v H) : tC v σ H Q := q
theorem r_op {r : R2} (q : ta σ H fun x H1 => tb σ H1 fun y H2 => r x y H2 Q) : tOp r ta tb σ H Q := q
theorem r_un {r : V → Hp → VK → Prop} (q : ta σ H fun x H1 => r x H1 Q) : tUn r ta σ H Q := q
theorem r_nil (q : QA [] H) : tNil σ H QA := q
theorem r_cons (q : ta σ H fun x H1 => tr σ H1 fun xs H2 => QA (x :: xs) H2) : tCons ta tr σ H QA := q
theorem r_tup (q : tr σ H fun xs H1 => xs.length ≤ sizeLine ∧ New (.tup xs) H1 Q) : tTup tr σ H Q := q
theorem r_lst (q : tr σ H fun xs H1 => xs.length ≤ sizeLine ∧ New (.lst xs) H1 Q) : tLst tr σ H Q := q
theorem r_cb {r : List V → Hp → VK → Prop} (q : tr σ H fun vs H1 => r vs H1 Q) : tCB r tr σ H Q := q
theorem r_call {sp : Sp} {dvs : List V} {E : XK} (q : tr σ H fun vs H1 => sp (vs ++ dvs) H1 Q E) : tCall sp dvs E tr σ H Q := q
theorem r_test (q : te σ H fun x H1 => ∃ k, x = V.bl k ∧ QT k H1) : tTest te σ H QT := q
theorem r_B (q : te σ H fun x H1 => ∃ k, x = V.bl k ∧ QT k H1) : tB te σ H QT := q
theorem r_bl {P : Bool → Prop} (q : P b) : ∃ k, V.bl b = V.bl k ∧ P k := ⟨b, rfl, q⟩
theorem r_and (q : t σ H fun c H1 => if c = true then u σ H1 QT else QT false H1) : tAnd t u σ H QT := q
theorem r_or (q : t σ H fun c H1 => if c = true then QT true H1 else u σ H1 QT) : tOr t u σ H QT := q
theorem r_not (q : t σ H fun c H1 => QT (!c) H1) : tNot t σ H QT := q
theorem r_andV (q : ta σ H fun x H1 => ∃ c, x = V.bl c ∧ if c = true then tb σ H1 Q else Q (.bl false) H1) : tAndV ta tb σ H Q := q
theorem r_orV (q : ta σ H fun x H1 => ∃ c, x = V.bl c ∧ if c = true then Q (.bl true) H1 else tb σ H1 Q) : tOrV ta tb σ H Q := q
theorem r_notV (q : ta σ H fun x H1 => ∃ c, x = V.bl c ∧ Q (.bl (!c)) H1) : tNotV ta σ H Q := q
theorem r_ifE (q : t σ H fun c H1 => if c = true then ta σ H1 Q else tb σ H1 Q) : tIf t ta tb σ H Q := q
theorem r_yes (q : QT true H) : tYes σ H QT := q
/-! on values -/
theorem r_I0 {g : Int → Int → V} {i j : Int} (q : Q (g i j) H) : rI0 g (.int i) (.int j) H Q := ⟨i, j, rfl, rfl, q⟩
theorem r_I {C : Int → Int → Prop} {g : Int → Int → V} {i j : Int} (c : C i j) (q : Q (g i j) H) : rI C g (.int i) (.int j) H Q := ⟨i, j, rfl, rfl, c, q⟩
theorem r_eq (h : scal x y = true) (q : Q (.bl (decide (x = y))) H) : rEq x y H Q := ⟨h, q⟩
theorem r_ne (h : scal x y = true) (q : Q (.bl (!decide (x = y))) H) : rNe x y H Q := ⟨h, q⟩
theorem r_isN (q : Q (.bl (decide (x = .non))) H) : rIsN x .non H Q := ⟨rfl, q⟩
theorem r_notN (q : Q (.bl (!decide (x = .non))) H) : rNotN x .non H Q := ⟨rfl, q⟩
theorem r_inS {c : Nat} {z : Str} (q : Q (.bl (decide (c ∈ z.cps.toList))) H) : rInS (.str ⟨#[c]⟩) (.str z) H Q := ⟨c, z, rfl, rfl, q⟩
theorem r_notInS {c : Nat} {z : Str} (q : Q (.bl (!decide (c ∈ z.cps.toList))) H) : rNotInS (.str ⟨#[c]⟩) (.str z) H Q := ⟨c, z, rfl, rfl, q⟩
def rCatS : R2 := fun x y H Q => ∃ i j, x = .str i ∧ y = .str j ∧ i.length + j.length ≤ sizeLine ∧ Q (.str (i ++ j)) H
theorem op_catS {X : Cx} : OpR X (binaryOp .Add) rCatS := op_add_str
theorem sz_of {n : Nat} (h : n ≤ 16777216) : n ≤ sizeLine := by rw [sizeLine_eq]; exact h
theorem sz_lt {n : Nat} (h : n < 16777216) : n < sizeLine := by rw [sizeLine_eq]; exact h
theorem r_catS {i j : Str} (h : i.length + j.length ≤ 16777216) (q : Q (.str (i ++ j)) H) : rCatS (.str i) (.str j) H Q := ⟨i, j, rfl, rfl, sz_of h, q⟩
theorem r_ixL {a : Addr} {xs : List V} {i : Int} {n : Nat} (h : SqL K H a xs) (e : i = (n : Int)) (g : xs[n]? = some v) (q : Q v H) : rIxL K (.ref a) (.int i) H Q := ⟨a, xs, i, v, rfl, rfl, h, by rw [e]; exact atI_nat g, q⟩
theorem r_ixT {a : Addr} {xs : List V} {i : Int} {n : Nat} (h : SqT K H a xs) (e : i = (n : Int)) (g : xs[n]? = some v) (q : Q v H) : rIxT K (.ref a) (.int i) H Q := ⟨a, xs, i, v, rfl, rfl, h, by rw [e]; exact atI_nat g, q⟩
theorem r_ixS {z : Str} {i : Int} {n c : Nat} (hz : z.length ≤ 16777216) (e : i = (n : Int)) (g : z.cps.toList[n]? = some c) (q : Q (.str ⟨#[c]⟩) H) : rIxS (.str z) (.int i) H Q := ⟨z, i, c, rfl, rfl, sz_of hz, by rw [e]; exact atI_nat g, q⟩
theorem r_inL {a : Addr} {xs : List V} (h : SqL K H a xs) (f : flatV x = true) (fs : xs.all flatV = true) (q : Q (.bl (inV x xs)) H) : rIn K false x (.ref a) H Q := ⟨a, xs, rfl, .inl h, f, fs, q⟩
theorem r_inT {a : Addr} {xs : List V} (h : SqT K H a xs) (f : flatV x = true) (fs : xs.all flatV = true) (q : Q (.bl (inV x xs)) H) : rIn K false x (.ref a) H Q := ⟨a, xs, rfl, .inr h, f, fs, q⟩
theorem r_notInL {a : Addr} {xs : List V} (h : SqL K H a xs) (f : flatV x = true) (fs : xs.all flatV = true) (q : Q (.bl (!inV x xs)) H) : rIn K true x (.ref a) H Q := ⟨a, xs, rfl, .inl h, f, fs, q⟩
/-! calls of built-in names -/
def rLenS : List V → Hp → VK → Prop := fun xs H Q => ∃ z, xs = [.str z] ∧ z.length ≤ sizeLine ∧ Q (.int z.length) H
theorem cr_lenS {X : Cx} : CallR X (.builtin "len") rLenS := call_len_str
theorem r_lenS {z : Str} (h : z.length ≤ 16777216) (q : Q (.int (z.length : Int)) H) : rLenS [.str z] H Q := ⟨z, rfl, sz_of h, q⟩
def rLenL (K : PySem.W.Frag) : List V → Hp → VK → Prop := fun xs H Q => ∃ p ys, xs = [.ref p] ∧ (SqL K H p ys ∨ SqT K H p ys) ∧ Q (.int ys.length) H
theorem cr_lenL {X : Cx} : CallR X (.builtin "len") (rLenL X.K) := call_len_seq
theorem r_lenL {a : Addr} {xs : List V} (h : SqL K H a xs) (q : Q (.int (xs.length : Int)) H) : rLenL K [.ref a] H Q := ⟨a, xs, rfl, .inl h, q⟩
theorem r_lenT {a : Addr} {xs : List V} (h : SqT K H a xs) (q : Q (.int (xs.length : Int)) H) : rLenL K [.ref a] H Q := ⟨a, xs, rfl, .inr h, q⟩
def rIntI : List V → Hp → VK → Prop := fun xs H Q => (∃ i, xs = [.int i] ∧ Q (.int i) H) ∨ ∃ k, xs = [.bl k] ∧ Q (.int (if k then 1 else 0)) H
theorem cr_intI {X : Cx} : CallR X (.type "int") rIntI := call_int1
theorem r_intI {i : Int} (q : Q (.int i) H) : rIntI [.int i] H Q := .inl ⟨i, rfl, q⟩
def rIntS : List V → Hp → VK → Prop := fun xs H Q => ∃ a n, xs = [.str a] ∧ PySem.intText? a = some n ∧ a.length ≤ 640 ∧ Q (.int n) H
theorem cr_intS {X : Cx} : CallR X (.type "int") rIntS := call_int_str
theorem r_intS {a : Str} {n : Int} (h : PySem.intText? a = some n) (hl : a.length ≤ 640) (q : Q (.int n) H) : rIntS [.str a] H Q := ⟨a, n, rfl, h, hl, q⟩
def rStrI : List V → Hp → VK → Prop := fun xs H Q => ∃ i, xs = [.int i] ∧ i.natAbs.log2 < 1920 ∧ Q (.str (toString i)) H
theorem cr_strI {X : Cx} : CallR X (.type "str") rStrI := call_str_int
def rTupOf (K : PySem.W.Frag) : List V → Hp → VK → Prop := fun xs H Q => ∃ p ys, xs = [.ref p] ∧ ((SqL K H p ys ∧ ∀ l, H l = none → Q (.ref l) (upd H l (.tup ys))) ∨ (SqT K H p ys ∧ Q (.ref p) H))
theorem cr_tupOf {X : Cx} : CallR X (.type "tuple") (rTupOf X.K) := call_tuple_of
theorem r_tupOf {a : Addr} {xs : List V} (h : SqL K H a xs) (q : New (.tup xs) H Q) : rTupOf K [.ref a] H Q := ⟨a, xs, rfl, .inl ⟨h, q⟩⟩
def rLstOf (K : PySem.W.Frag) : List V → Hp → VK → Prop := fun xs H Q => ∃ p ys, xs = [.ref p] ∧ (SqL K H p ys ∨ SqT K H p ys) ∧ ∀ l, H l = none → Q (.ref l) (upd H l (.lst ys))
theorem cr_lstOf {X : Cx} : CallR X (.type "list") (rLstOf X.K) := call_list_of
theorem r_lstOf {a : Addr} {xs : List V} (h : SqL K H a xs) (q : New (.lst xs) H Q) : rLstOf K [.ref a] H Q := ⟨a, xs, rfl, .inl h, q⟩
theorem r_max {a : Addr} {ns : List Int} (h : SqL K H a (ns.map V.int)) (h0 : 0 < ns.length) (q : ∀ m, m ∈ ns → (∀ y, y ∈ ns → y ≤ m) → Q (.int m) H) : rMax K [.ref a] H Q := ⟨a, ns, rfl, h, h0, q⟩
/-! fields, methods -/
theorem r_fld {f : Str} (q : ta σ H fun x H1 => ∃ a C dx fs v, x = V.ref a ∧ H1 a = some (.ins C dx fs) ∧ Cls K C ∧ NoAttr K C f ∧ fs.lookup f = some v ∧ Q v H1) : tFld K ta f σ H Q := q
theorem r_fldV {P : V → Prop} {a C dx : Addr} {fs : List (Str × V)} {f : Str} (h : H a = some (.ins C dx fs)) (c : Cls K C) (n : NoAttr K C f) (l : fs.lookup f = some v) (q : P v) :
    ∃ a' C' dx' fs' v', V.ref a = V.ref a' ∧ H a' = some (.ins C' dx' fs') ∧ Cls K C' ∧ NoAttr K C' f ∧ fs'.lookup f = some v' ∧ P v' := ⟨a, C, dx, fs, v, rfl, h, c, n, l, q⟩
theorem r_bm {T : String} {r : V → List V → Hp → VK → Prop} {to : TE} (q : to σ H fun x H1 => tyV K T x H1 ∧ tr σ H1 fun xs H2 => r x xs H2 Q) : tBM K T r to tr σ H Q := q
theorem r_bm0 {T : String} {r : V → List V → Hp → VK → Prop} {to : TE} (q : to σ H fun x H1 => tyV K T x H1 ∧ r x [] H1 Q) : tBM0 K T r to σ H Q := q
theorem tyL {a : Addr} {xs : List V} (h : SqL K H a xs) : tyV K "list" (.ref a) H := .inl ⟨rfl, _, h⟩
theorem r_append {a : Addr} {xs : List V} (h : H a = some (.lst xs)) (hl : xs.length < 16777216) (q : Wr a (.lst (xs ++ [v])) H (Q .non)) : rAppend (.ref a) [v] H Q := ⟨a, xs, v, rfl, rfl, h, sz_lt hl, q⟩
theorem r_extend {a c : Addr} {xs zs : List V} (h : H a = some (.lst xs)) (h2 : H c = some (.lst zs)) (hl : xs.length + zs.length ≤ 16777216) (q : Wr a (.lst (xs ++ zs)) H (Q .non)) : rExtend (.ref a) [.ref c] H Q := ⟨a, c, xs, zs, rfl, rfl, h, h2, sz_of hl, q⟩
theorem r_meth {C : Addr} {m : Str} {sp : Sp} {dvs : List V} {E : XK} (q : ta σ H fun x H1 => ∃ a dx fs, x = V.ref a ∧ H1 a = some (.ins C dx fs) ∧ fs.lookup m = none ∧ tr σ H1 fun vs H2 => sp (x :: (vs ++ dvs)) H2 Q E) : tMeth C m sp dvs E ta tr σ H Q := q
theorem r_methV {C a dx : Addr} {m : Str} {fs : List (Str × V)} {P : Prop} (h : H a = some (.ins C dx fs)) (l : fs.lookup m = none) (q : P) : ∃ a' dx' fs', V.ref a = V.ref a' ∧ H a' = some (.ins C dx' fs') ∧ fs'.lookup m = none ∧ P := ⟨a, dx, fs, rfl, h, l, q⟩
theorem r_sl {r : V → Option Int → Option Int → Hp → VK → Prop} {tl th : TO} (q : te σ H fun x H1 => tl σ H1 fun l H2 => th σ H2 fun u H3 => r x l u H3 Q) : tSl r te tl th σ H Q := q
theorem r_noPart {QO : Option Int → Hp → Prop} (q : QO none H) : tNoPart σ H QO := q
theorem r_part {QO : Option Int → Hp → Prop} (q : te σ H fun x H1 => ∃ i, x = V.int i ∧ QO (some i) H1) : tPart te σ H QO := q
theorem r_int {P : Int → Prop} {i : Int} (q : P i) : ∃ j, V.int i = V.int j ∧ P j := ⟨i, rfl, q⟩
theorem r_slS {z : Str} {lo hi : Option Int} (h : z.length ≤ 16777216) (q : Q (.str (cutS z lo hi)) H) : rSlS (.str z) lo hi H Q := ⟨z, rfl, sz_of h, q⟩
theorem r_m1 {r : V → List V → Hp → VK → Prop} (q : ta σ H fun x H1 => (∃ a, x = V.str a) ∧ tb σ H1 fun y H2 => r x [y] H2 Q) : tM1 r ta tb σ H Q := q
theorem r_m1V {a : Str} {P : Prop} (q : P) : (∃ a', V.str a = V.str a') ∧ P := ⟨⟨a, rfl⟩, q⟩
theorem r_repl {y z : Str} (q : te σ H fun v H1 => ∃ x, v = V.str x ∧ x.length + (x.length + 1) * z.length ≤ 16777216 ∧ Q (.str (Txt.replace x y z)) H1) : CwR.tReplC te y z σ H Q := q
end

/-! ### rules -/
section
variable {X : Cx}
theorem pe_gS {x z : Str} {t : Tok} {pos : Pos} (hg : Gl X x) (hm : X.mg x = some (.str z t)) (hd : (x == ("__debug__" : Str)) = false := by decide) : PE X (.Name x pos) (tC (.str z)) := pe_glob hg hm ⟨t, rfl⟩ hd
theorem pe_gI {x : Str} {i : Int} {t : Tok} {pos : Pos} (hg : Gl X x) (hm : X.mg x = some (.int i t)) (hd : (x == ("__debug__" : Str)) = false := by decide) : PE X (.Name x pos) (tC (.int i)) := pe_glob hg hm ⟨t, rfl⟩ hd
theorem pe_gR {x : Str} {a : Addr} {pos : Pos} (hg : Gl X x) (hm : X.mg x = some (.ref a)) (hd : (x == ("__debug__" : Str)) = false := by decide) : PE X (.Name x pos) (tC (.ref a)) := pe_glob hg hm rfl hd
end

/-! ### statements -/
section
variable {σ : L2.St} {H : Hp} {i : Nat} {v x y : V} {ta tb te : TE} {b : Bool} {K : PySem.W.Frag} {c : TT} {t u : TS} {g : TG} {nx bk ct : L2.St → Hp → Prop} {rt : VK} {A B : Prop}
theorem r_seq (q : t ⟨u ⟨nx, rt, bk, ct⟩, rt, bk, ct⟩ σ H) : tSeq t u ⟨nx, rt, bk, ct⟩ σ H := q
theorem r_next (q : nx σ H) : tNext ⟨nx, rt, bk, ct⟩ σ H := q
theorem r_brk (q : bk σ H) : tBreak ⟨nx, rt, bk, ct⟩ σ H := q
theorem r_ret (q : te σ H rt) : tRet te ⟨nx, rt, bk, ct⟩ σ H := q
theorem r_retN (q : rt .non H) : tRetN ⟨nx, rt, bk, ct⟩ σ H := q
theorem r_drop (q : te σ H fun _ H1 => nx σ H1) : tDrop te ⟨nx, rt, bk, ct⟩ σ H := q
theorem r_set (q : te σ H fun x H1 => nx (σ.set i (some x)) H1) : tAsg te (gName i) ⟨nx, rt, bk, ct⟩ σ H := q
theorem r_asg (q : te σ H fun x H1 => g x σ H1 nx) : tAsg te g ⟨nx, rt, bk, ct⟩ σ H := q
theorem r_if (q : c σ H fun b H1 => if b = true then t ⟨nx, rt, bk, ct⟩ σ H1 else u ⟨nx, rt, bk, ct⟩ σ H1) : tIfS c t u ⟨nx, rt, bk, ct⟩ σ H := q
theorem r_cut {M : L2.St → Hp → Prop} (h : t ⟨M, rt, bk, ct⟩ σ H) (k : ∀ σ' H', M σ' H' → u ⟨nx, rt, bk, ct⟩ σ' H') : Evl.tCut t u ⟨nx, rt, bk, ct⟩ σ H := ⟨M, h, k⟩
theorem r_ite (h1 : b = true → A) (h2 : b = false → B) : if b = true then A else B := by
  cases b with
  | true => exact h1 rfl
  | false => exact h2 rfl
theorem r_iteT (h : b = true) (q : A) : if b = true then A else B := by rw [h]; exact q
theorem r_iteF (h : b = false) (q : B) : if b = true then A else B := by
  rw [h]
  exact q
theorem r_itet (q : A) : if true = true then A else B := q
theorem r_itef (q : B) : if false = true then A else B := q
theorem r_aug {ti : TIp} (h : σ[i]? = some (some x)) (q : te σ H fun y H1 => ti x y H1 fun z H2 => nx (σ.set i (some z)) H2) : tAug i te ti ⟨nx, rt, bk, ct⟩ σ H := ⟨x, h, q⟩
theorem r_ipI {f : Int → Int → Int} {i j : Int} {Q : VK} (q : Q (.int (f i j)) H) : ipI f (.int i) (.int j) H Q := ⟨i, j, rfl, rfl, q⟩
/-! targets -/
theorem r_gName {Q : L2.St → Hp → Prop} (q : Q (σ.set i (some v)) H) : gName i v σ H Q := q
theorem r_gNil {Q : L2.St → Hp → Prop} (q : Q σ H) : gNil [] σ H Q := ⟨rfl, q⟩
theorem r_gCons {tg : TG} {tgs : TGs} {vs : List V} {Q : L2.St → Hp → Prop} (q : tg v σ H fun σ' H' => tgs vs σ' H' Q) : gCons tg tgs (v :: vs) σ H Q := ⟨v, vs, rfl, q⟩
theorem r_gTup {n : Nat} {tgs : TGs} {a : Addr} {xs : List V} {Q : L2.St → Hp → Prop} (h : SqT K H a xs) (hn : xs.length = n) (q : tgs xs σ H Q) : gTup K n tgs (.ref a) σ H Q := ⟨a, xs, rfl, h, hn, q⟩
theorem r_gSub {to ti : TE} {ts : TSet} {Q : L2.St → Hp → Prop} (q : to σ H fun o H1 => ti σ H1 fun i H2 => ts o i v H2 fun H3 => Q σ H3) : gSub to ti ts v σ H Q := q
theorem r_setL {a : Addr} {xs : List V} {i : Int} {j : Nat} {Q : Hp → Prop} (h : H a = some (.lst xs)) (e : ixN xs.length i = some j) (q : Wr a (.lst (xs.set j v)) H Q) : rSetL (.ref a) (.int i) v H Q := ⟨a, xs, i, j, rfl, rfl, h, e, q⟩
theorem ixN_nat {n j : Nat} (h : j < n) : ixN n (j : Int) = some j := by
  unfold ixN
  rw [if_pos (Int.natCast_nonneg j), if_pos (by omega)]
  rfl
theorem ixN_last {n : Nat} (h : 0 < n) : ixN n (-1) = some (n - 1) := by
  unfold ixN
  rw [if_neg (by omega), if_pos (by omega)]
  congr 1
  omega
/-! loops -/
def LoopW (J : It) (g : TG) (tb : TS) (D : Ends) (σ : L2.St) (H1 : Hp) : Prop := ∃ W : Nat → Nat → L2.St → Hp → Prop, (∃ m, W 0 m σ H1) ∧ ∀ i m σ H, W i m σ H →
  (J.stop i H ∧ D.nx σ H) ∨ (J.go i H ∧ ∃ N : L2.St → Hp → Prop, (∀ σ' H', N σ' H' → ∃ m', m' < m ∧ W (i + 1) m' σ' H') ∧ ∀ x H', J.yld i H x H' → g x σ H' fun σ2 H2 => tb { D with nx := N, ct := N, bk := D.nx } σ2 H2)
theorem r_for {wi : TI} {tb : TS} (q : wi σ H fun J H1 => LoopW J g tb ⟨nx, rt, bk, ct⟩ σ H1) : tFor wi g tb ⟨nx, rt, bk, ct⟩ σ H := q
theorem r_iList {tl : TE} {R : It → Hp → Prop} (q : tl σ H fun x H1 => ∃ a, x = V.ref a ∧ (∃ xs, SqL K H1 a xs) ∧ R (Itl K a) H1) : iList K tl σ H R := q
theorem r_iTup {tl : TE} {R : It → Hp → Prop} (q : tl σ H fun x H1 => ∃ a, x = V.ref a ∧ (∃ xs, SqT K H1 a xs) ∧ R (Itt K a) H1) : iTup K tl σ H R := q
theorem r_itL {a : Addr} {xs : List V} {P : Addr → Prop} (h : SqL K H a xs) (q : P a) : ∃ a', V.ref a = V.ref a' ∧ (∃ xs, SqL K H a' xs) ∧ P a' := ⟨a, rfl, ⟨xs, h⟩, q⟩
theorem r_iStr {tl : TE} {R : It → Hp → Prop} (q : tl σ H fun v H1 => ∃ x, v = V.str x ∧ R (Its x) H1) : iStr tl σ H R := q
theorem r_str {P : Str → Prop} {z : Str} (q : P z) : ∃ x, V.str z = V.str x ∧ P x := ⟨z, rfl, q⟩
theorem r_rng1 {tr : TA} {R : It → Hp → Prop} (q : tr σ H fun vs H1 => ∃ j : Int, vs = [V.int j] ∧ -(2 ^ 62) ≤ j ∧ j < 2 ^ 62 ∧ R (Itr 0 j.toNat) H1) : iRng1 tr σ H R := q
theorem r_rng1V {P : Int → Prop} {n : Nat} (h : n < 2 ^ 62) (q : P (n : Int)) : ∃ j : Int, [V.int (n : Int)] = [V.int j] ∧ -(2 ^ 62) ≤ j ∧ j < 2 ^ 62 ∧ P j := ⟨_, rfl, by omega, by omega, q⟩
theorem r_rng2 {tr : TA} {R : It → Hp → Prop} (q : tr σ H fun vs H1 => ∃ i j : Int, vs = [V.int i, V.int j] ∧ (-(2 ^ 62) ≤ i ∧ i < 2 ^ 62 ∧ -(2 ^ 62) ≤ j ∧ j < 2 ^ 62) ∧ R (Itr i (j - i).toNat) H1) : iRng2 tr σ H R := q
theorem loopL {tb : TS} {a : Addr} {xs : List V} (Pv : Nat → L2.St → Hp → Prop) (h0 : Pv 0 σ H) (hl : ∀ i σ H, i ≤ xs.length → Pv i σ H → SqL K H a xs)
    (hs : ∀ i x σ H, xs[i]? = some x → Pv i σ H → g x σ H fun σ2 H2 => tb ⟨Pv (i + 1), rt, nx, Pv (i + 1)⟩ σ2 H2) (hd : ∀ σ H, Pv xs.length σ H → nx σ H) : LoopW (Itl K a) g tb ⟨nx, rt, bk, ct⟩ σ H := for_list Pv h0 hl hs hd
theorem loopT {tb : TS} {a : Addr} {xs : List V} (Pv : Nat → L2.St → Hp → Prop) (h0 : Pv 0 σ H) (hl : ∀ i σ H, i ≤ xs.length → Pv i σ H → SqT K H a xs)
    (hs : ∀ i x σ H, xs[i]? = some x → Pv i σ H → g x σ H fun σ2 H2 => tb ⟨Pv (i + 1), rt, nx, Pv (i + 1)⟩ σ2 H2) (hd : ∀ σ H, Pv xs.length σ H → nx σ H) : LoopW (Itt K a) g tb ⟨nx, rt, bk, ct⟩ σ H := for_tup Pv h0 hl hs hd
theorem loopR {tb : TS} {lo : Int} {n : Nat} (Pv : Nat → L2.St → Hp → Prop) (h0 : Pv 0 σ H)
    (hs : ∀ i σ H, i < n → Pv i σ H → g (.int (lo + i)) σ H fun σ2 H2 => tb ⟨Pv (i + 1), rt, nx, Pv (i + 1)⟩ σ2 H2) (hd : ∀ σ H, Pv n σ H → nx σ H) : LoopW (Itr lo n) g tb ⟨nx, rt, bk, ct⟩ σ H := for_range Pv h0 hs hd
theorem loopS {tb : TS} {z : Str} (Pv : Nat → L2.St → Hp → Prop) (h0 : Pv 0 σ H)
    (hs : ∀ i k σ H, z.cps.toList[i]? = some k → Pv i σ H → g (.str ⟨#[k]⟩) σ H fun σ2 H2 => tb ⟨Pv (i + 1), rt, nx, Pv (i + 1)⟩ σ2 H2) (hd : ∀ σ H, Pv z.length σ H → nx σ H) : LoopW (Its z) g tb ⟨nx, rt, bk, ct⟩ σ H := by
  refine ⟨fun i m σ H => m = z.length - i ∧ i ≤ z.length ∧ Pv i σ H, ⟨z.length, by simp, Nat.zero_le _, h0⟩, ?_⟩
  rintro i m σ H ⟨rfl, hi, p⟩
  by_cases hlt : i < z.length
  · refine .inr ⟨hlt, Pv (i + 1), fun σ' H' p' => ⟨z.length - (i + 1), by omega, rfl, hlt, p'⟩, fun x H' y => ?_⟩
    obtain ⟨e, k, hk, ex⟩ := y
    subst e ex
    exact hs i k σ _ (by rw [Array.getElem?_toList]; exact hk) p
  · have e : i = z.length := by omega
    subst e
    exact .inl ⟨Nat.le_refl _, hd σ H p⟩
def WhN (W : Nat → L2.St → Hp → Prop) (m : Nat) (tb : TS) (nx : L2.St → Hp → Prop) (rt : VK) (σ : L2.St) (H : Hp) : Prop := ∃ N : L2.St → Hp → Prop, (∀ σ' H', N σ' H' → ∃ m', m' < m ∧ W m' σ' H') ∧ tb ⟨N, rt, nx, N⟩ σ H
theorem r_whN {W : Nat → L2.St → Hp → Prop} {m : Nat} {tb : TS} (q : tb ⟨fun σ' H' => ∃ m', m' < m ∧ W m' σ' H', rt, nx, fun σ' H' => ∃ m', m' < m ∧ W m' σ' H'⟩ σ H) : WhN W m tb nx rt σ H := ⟨_, fun _ _ n => n, q⟩
theorem loopW {tb : TS} (W : Nat → L2.St → Hp → Prop) (m : Nat) (h0 : W m σ H)
    (hs : ∀ m σ H, W m σ H → c σ H fun b H1 => if b = true then WhN W m tb nx rt σ H1 else nx σ H1) : tWhile c tb ⟨nx, rt, bk, ct⟩ σ H :=
  ⟨W, ⟨m, h0⟩, fun m σ H w => hs m σ H w⟩
end
section
variable {σ : L2.St} {H : Hp} {g : TG} {nx bk ct : L2.St → Hp → Prop} {rt : VK} {Q : VK}
theorem r_rng1E {tb : TS} {D : Ends} {i : Int} {n : Nat} (e : i = (n : Int)) (h : n < 100000000) (q : LoopW (Itr 0 n) g tb D σ H) : ∃ j : Int, [V.int i] = [V.int j] ∧ -(2 ^ 62) ≤ j ∧ j < 2 ^ 62 ∧ LoopW (Itr 0 j.toNat) g tb D σ H := by
  subst e
  exact ⟨_, rfl, by omega, by omega, q⟩
theorem r_rng2E {tb : TS} {D : Ends} {i j : Int} {lo hi : Nat} (e1 : i = (lo : Int)) (e2 : j = (hi : Int)) (h1 : lo < 100000000) (h2 : hi < 100000000) (q : LoopW (Itr (lo : Int) (hi - lo)) g tb D σ H) :
    ∃ i' j' : Int, [V.int i, V.int j] = [V.int i', V.int j'] ∧ (-(2 ^ 62) ≤ i' ∧ i' < 2 ^ 62 ∧ -(2 ^ 62) ≤ j' ∧ j' < 2 ^ 62) ∧ LoopW (Itr i' (j' - i').toNat) g tb D σ H := by
  subst e1 e2
  refine ⟨_, _, rfl, ⟨by omega, by omega, by omega, by omega⟩, ?_⟩
  have e : ((hi : Int) - (lo : Int)).toNat = hi - lo := by omega
  rw [e]
  exact q
theorem loopR0 {tb : TS} {n : Nat} (Pv : Nat → L2.St → Hp → Prop) (h0 : Pv 0 σ H)
    (hs : ∀ (i : Nat) σ H, i < n → Pv i σ H → g (.int (i : Int)) σ H fun σ2 H2 => tb ⟨Pv (i + 1), rt, nx, Pv (i + 1)⟩ σ2 H2) (hd : ∀ σ H, Pv n σ H → nx σ H) : LoopW (Itr 0 n) g tb ⟨nx, rt, bk, ct⟩ σ H :=
  loopR Pv h0 (fun i σ H hi p => by rw [Int.zero_add]; exact hs i σ H hi p) hd
theorem flat_one {α : Type} (n : Nat) (x : α) : (List.replicate n [x]).flatten = List.replicate n x := by
  induction n with
  | zero => rfl
  | succ n ih =>
    rw [List.replicate_succ, List.flatten_cons, ih, List.replicate_succ]
    rfl
theorem r_rep1 {a : Addr} {x : V} {i : Int} {n : Nat} (h : H a = some (.lst [x])) (e : i = (n : Int)) (hn : n ≤ 16777216) (q : New (.lst (List.replicate n x)) H Q) : rRep (.ref a) (.int i) H Q := by
  subst e
  refine ⟨a, (n : Int), [x], rfl, rfl, h, by omega, by omega, ?_, fun p hp => ?_⟩
  · rw [List.length_singleton, Int.toNat_natCast, Nat.one_mul]
    exact sz_of hn
  · have e : (List.replicate ((n : Int)).toNat [x]).flatten = List.replicate n x := by rw [Int.toNat_natCast, flat_one]
    rw [e]
    exact q p hp
theorem r_cat {a b : Addr} {xs ys : List V} (h : H a = some (.lst xs)) (h2 : H b = some (.lst ys)) (hl : xs.length + ys.length ≤ 16777216) (q : New (.lst (xs ++ ys)) H Q) : rCat (.ref a) (.ref b) H Q :=
  ⟨a, b, xs, ys, rfl, rfl, h, h2, sz_of hl, q⟩
theorem r_sz {xs : List V} {A : Prop} (h : Nat.ble xs.length 1000 = true) (q : A) : xs.length ≤ sizeLine ∧ A := ⟨sz_of (Nat.le_trans (Nat.le_of_ble_eq_true h) (by decide)), q⟩
theorem sz_nil {α : Type} : ([] : List α).length ≤ sizeLine := Nat.zero_le _
end
/-! comprehensions -/
def LcW (J : It) (g : TG) (tt : TT) (te : TE) (vs : List Nat) (σ : L2.St) (D : Addr) (Qd : Hp → Prop) (H1 : Hp) : Prop := ∃ W : Nat → Nat → Hp → Prop, (∃ m, W 0 m (upd H1 D (.lst []))) ∧ ∀ i m H, W i m H →
  (J.stop i H ∧ Qd H) ∨ (J.go i H ∧ ∃ Nx : Hp → Prop, (∀ H', Nx H' → ∃ m', m' < m ∧ W (i + 1) m' H') ∧ ∀ x H', J.yld i H x H' → g x (wipe σ vs) H' fun σ2 H2 => wipe σ2 vs = wipe σ vs ∧ tt σ2 H2 fun b H3 =>
    if b = true then te σ2 H3 fun y H4 => ∃ acc, H4 D = some (.lst acc) ∧ acc.length < sizeLine ∧ Nx (upd H4 D (.lst (acc ++ [y]))) else Nx H3)
section
variable {σ : L2.St} {H H1 F : Hp} {g : TG} {tt : TT} {te : TE} {vs : List Nat} {Q : VK} {D a : Addr} {xs : List V} {K : PySem.W.Frag} {Qd : Hp → Prop} {j : Nat}
theorem r_lc {wi : TI} (q : wi σ H fun J H1 => ∀ D, H1 D = none → LcW J g tt te vs σ D (Q (.ref D)) H1) : tLc wi g tt te vs σ H Q := q
theorem lcL_map {ds es : List PyData} (ok : Same F H1) (hD : H1 D = none) (ha : F a = some (.lst xs)) (hr : Rps F xs ds) (hl : es.length = ds.length) (hz : ds.length < 16777216)
    (turn : ∀ (i : Nat) x d e F' H' (Kc : VK), ds[i]? = some d → es[i]? = some e → Rp F' x d → Grow [] F H1 F' H' → (∀ y F4 H4, Grow [] F' H' F4 H4 → Rp F4 y e → Kc y H4) → g x (wipe σ vs) H' fun σ2 H2 => wipe σ2 vs = wipe σ vs ∧ te σ2 H2 Kc)
    (q : ∀ F' H', Grow [] F H1 F' H' → Rp F' (.ref D) (.list es) → Qd H') : LcW (Itl K a) g tYes te vs σ D Qd H1 := by
  refine lc_list (K := K) (a := a) (xs := xs) (fun i H' => ∃ (F' : Hp) (us : List V), Grow [] F H1 F' H' ∧ Mu F' H' D (.lst us) ∧ Rps F' us (es.take i))
    ⟨F, [], mu_new ok hD, ⟨upd_same, free_in ok hD⟩, .nil⟩ (fun i H' _ ⟨F', us, G, _, _⟩ => sql_fz G.fh (G.at ha)) ?_ ?_
  · rintro i x H' hx ⟨F', us, G, m, r⟩
    obtain ⟨d, hd, rd⟩ := (G.rps hr).get hx
    have hi : i < es.length := by
      rw [hl]
      exact (List.getElem?_eq_some_iff.mp hd).1
    refine turn i x d es[i] F' H' _ hd (List.getElem?_eq_getElem hi) rd G fun y F4 H4 g4 r4 => ?_
    have m4 := g4.mu nil_not m
    have r2 := g4.rps r
    refine ⟨us, m4.1, ?_, F4, us ++ [y], ?_, ⟨upd_same, m4.2⟩, ?_⟩
    · have e := r.length
      rw [List.length_take] at e
      exact sz_lt (by omega)
    · have g5 := mu_wr (u := .lst (us ++ [y])) g4.fh m4
      exact (G.comp g4 side_nil).comp g5 (side_one (.inr hD))
    · rw [take_more (List.getElem?_eq_getElem hi)]
      exact r2.snoc r4
  · rintro H' ⟨F', us, G, m, r⟩
    rw [hr.length, ← hl, List.take_length] at r
    refine q _ H' ((G.comp (fz_mu G.fh m) (side_one (.inr hD)))) (.lst upd_same (Rps.up (fz_mu G.fh m).ff _ r))
/-- [x for x in xs if t], the target a name -/
theorem lcL_filter {ds : List PyData} (f : PyData → Bool) (ok : Same F H1) (hD : H1 D = none) (ha : F a = some (.lst xs)) (hr : Rps F xs ds) (hz : ds.length < 16777216)
    (hw : ∀ x, wipe ((wipe σ vs).set j (some x)) vs = wipe σ vs) (hj : ∀ x, ((wipe σ vs).set j (some x))[j]? = some (some x))
    (turn : ∀ (i : Nat) x d F' H' (Kt : Bool → Hp → Prop), ds[i]? = some d → Rp F' x d → Grow [] F H1 F' H' → (∀ F4 H4, Grow [] F' H' F4 H4 → Kt (f d) H4) → tt ((wipe σ vs).set j (some x)) H' Kt)
    (q : ∀ F' H', Grow [] F H1 F' H' → Rp F' (.ref D) (.list (ds.filter f)) → Qd H') : LcW (Itl K a) (gName j) tt (tVar j) vs σ D Qd H1 := by
  refine lc_list (K := K) (a := a) (xs := xs) (fun i H' => ∃ (F' : Hp) (us : List V), Grow [] F H1 F' H' ∧ Mu F' H' D (.lst us) ∧ Rps F' us ((ds.take i).filter f))
    ⟨F, [], mu_new ok hD, ⟨upd_same, free_in ok hD⟩, .nil⟩ (fun i H' _ ⟨F', us, G, _, _⟩ => sql_fz G.fh (G.at ha)) ?_ ?_
  · rintro i x H' hx ⟨F', us, G, m, r⟩
    obtain ⟨d, hd, rd⟩ := (G.rps hr).get hx
    refine ⟨hw x, turn i x d F' H' _ hd rd G fun F4 H4 g4 => ?_⟩
    have m4 := g4.mu nil_not m
    have r2 := g4.rps r
    refine r_ite (fun c => ?_) (fun c => ?_)
    · refine ⟨x, hj x, us, m4.1, ?_, F4, us ++ [x], ?_, ⟨upd_same, m4.2⟩, ?_⟩
      · have e := r.length
        have e2 := List.length_filter_le f (ds.take i)
        rw [List.length_take] at e2
        exact sz_lt (by omega)
      · have g5 := mu_wr (u := .lst (us ++ [x])) g4.fh m4
        exact (G.comp g4 side_nil).comp g5 (side_one (.inr hD))
      · rw [take_more hd, List.filter_append, List.filter_cons, if_pos c]
        exact r2.snoc (g4.rp rd)
    · refine ⟨F4, us, G.comp g4 side_nil, m4, ?_⟩
      rw [take_more hd, List.filter_append, List.filter_cons, if_neg (by rw [c]; decide), List.filter_nil, List.append_nil]
      exact r2
  · rintro H' ⟨F', us, G, m, r⟩
    rw [hr.length, List.take_length] at r
    exact q _ H' ((G.comp (fz_mu G.fh m) (side_one (.inr hD)))) (.lst upd_same (Rps.up (fz_mu G.fh m).ff _ r))
theorem Rps.get_map {α : Type} {f : α → PyData} {l : List α} {i : Nat} {v : V} (r : Rps F xs (l.map f)) (h : xs[i]? = some v) : ∃ e, l[i]? = some e ∧ Rp F v (f e) := by
  obtain ⟨d, h1, h2⟩ := r.get h
  rw [List.getElem?_map] at h1
  cases q : l[i]? with
  | none => rw [q] at h1; cases h1
  | some e =>
    rw [q] at h1
    cases h1
    exact ⟨e, rfl, h2⟩
theorem Rps.at_map {α : Type} {f : α → PyData} {l : List α} {i : Nat} {e : α} (r : Rps F xs (l.map f)) (h : l[i]? = some e) : ∃ v, xs[i]? = some v ∧ Rp F v (f e) := r.at (by rw [List.getElem?_map, h]; rfl)
theorem Rps.len_map {α : Type} {f : α → PyData} {l : List α} (r : Rps F xs (l.map f)) : xs.length = l.length := by rw [r.length, List.length_map]
def rJoin (K : PySem.W.Frag) : V → List V → Hp → VK → Prop := fun x xs H Q => ∃ a p, ∃ ys : List Str, x = .str a ∧ xs = [.ref p] ∧ (SqL K H p (ys.map V.str) ∨ SqT K H p (ys.map V.str)) ∧ (ys.map (·.length)).sum + ys.length * a.length ≤ 16777216 ∧ Q (.str (Txt.join a ys)) H
theorem pe_joinN {X : Cx} {o e : Expr} {to te : TE} {apos pos : Pos} (ho : PE X o to) (he : PE X e te) (hs : starEach [e] X.env = [(false, eval e X.env)] := by rfl) (hbase : attributeBase o "join" X.env (eval o X.env) = eval o X.env := by rfl) (hline : (apos.endLine == pos.line) = true := by rfl) :
    PE X (.Call (.Attribute o "join" apos) [e] [] pos) (tM1 (rJoin X.K) to te) := pe_join ho he hs hbase hline
theorem r_join {z : Str} {ys : List Str} (h : SqL K H a (ys.map V.str)) (hz : (ys.map (·.length)).sum + ys.length * z.length ≤ 16777216) (q : Q (.str (Txt.join z ys)) H) : rJoin K (.str z) [.ref a] H Q := ⟨z, a, ys, rfl, rfl, .inl h, hz, q⟩
end
section
variable {σ : L2.St} {H : Hp} {Q : VK} {td ty tx tv te : TE} {nx bk ct : L2.St → Hp → Prop} {rt : VK} {K : PySem.W.Frag} {a : Addr} {xs : List V} {A : Prop} {f : Str}
theorem r_din (q : ty σ H fun y H1 => td σ H1 fun x H2 => ∃ a o, x = V.ref a ∧ DGet H2 a y o ∧ Q (.bl o.isSome) H2) : tDIn ty td σ H Q := q
theorem r_dnotin (q : ty σ H fun y H1 => td σ H1 fun x H2 => ∃ a o, x = V.ref a ∧ DGet H2 a y o ∧ Q (.bl (!o.isSome)) H2) : tDNotIn ty td σ H Q := q
theorem r_dput (q : tv σ H fun v H1 => td σ H1 fun x H2 => ty σ H2 fun y H3 => ∃ a H4, x = V.ref a ∧ DPut H3 a y v H4 ∧ nx σ H4) : sDPut td ty tv ⟨nx, rt, bk, ct⟩ σ H := q
theorem r_dget (q : td σ H fun x H1 => ty σ H1 fun y H2 => ∃ a v, x = V.ref a ∧ DGet H2 a y (some v) ∧ Q v H2) : tDGet td ty σ H Q := q
theorem r_dget2 (q : td σ H fun x H1 => ∃ a, x = V.ref a ∧ IsD H1 a ∧ ty σ H1 fun y H2 => tx σ H2 fun z H3 => ∃ o, DGet H3 a y o ∧ Q (o.getD z) H3) : tDGet2 td ty tx σ H Q := q
theorem r_dnewK (q : New (.dK []) H Q) : tDNewK σ H Q := q
theorem r_dnewT (q : New (.dT []) H Q) : tDNewT σ H Q := q
theorem r_ty (h : SqL K H a xs) (q : A) : tyV K "list" (.ref a) H ∧ A := ⟨tyL h, q⟩
theorem r_sfld (q : tv σ H fun y H1 => te σ H1 fun x H2 => ∃ a C dx fs, x = V.ref a ∧ H2 a = some (.ins C dx fs) ∧ Cls K C ∧ NoAttr K C f ∧ fs.length < 1000 ∧ nx σ (upd H2 a (.ins C dx (putF f y fs)))) : sFld K te tv f ⟨nx, rt, bk, ct⟩ σ H := q
theorem r_sfldaug {rd : V → V → Hp → VK → Prop} (q : te σ H fun x H1 => ∃ a C dx fs v, x = V.ref a ∧ H1 a = some (.ins C dx fs) ∧ Cls K C ∧ NoAttr K C f ∧ fs.lookup f = some v ∧
    tv σ H1 fun y H2 => rd v y H2 fun z H3 => ∃ dx' fs', H3 a = some (.ins C dx' fs') ∧ fs'.length < 1000 ∧ nx σ (upd H3 a (.ins C dx' (putF f z fs')))) : sFldAug K te tv rd f ⟨nx, rt, bk, ct⟩ σ H := q
end

section
variable {F H : Hp} {a b : Addr} {v : V} {P : Hp → Prop}
theorem k_dputT {kvs : List (List Key × V)} {k : List Key} (ok : Same F H) (m : Mu F H a (.dT kvs)) (hb : H b = some (.tup (k.map kV))) (hl : kvs.length < 16777216)
    (q : ∀ F' H', Grow [a] F H F' H' → Mu F' H' a (.dT (putK kvs k v)) → P H') : ∃ a' H4, V.ref a = V.ref a' ∧ DPut H a' (.ref b) v H4 ∧ P H4 :=
  ⟨a, _, rfl, DPut.t m.1 hb (sz_lt hl), q _ _ (mu_wr ok m) ⟨upd_same, m.2⟩⟩
theorem k_dputK {kvs : List (Key × V)} {k : Key} (ok : Same F H) (m : Mu F H a (.dK kvs)) (hl : kvs.length < 16777216)
    (q : ∀ F' H', Grow [a] F H F' H' → Mu F' H' a (.dK (putK kvs k v)) → P H') : ∃ a' H4, V.ref a = V.ref a' ∧ DPut H a' (kV k) v H4 ∧ P H4 :=
  ⟨a, _, rfl, DPut.k m.1 (sz_lt hl), q _ _ (mu_wr ok m) ⟨upd_same, m.2⟩⟩
end
theorem r_U {g : Int → V} {i : Int} {H : Hp} {Q : VK} (q : Q (g i) H) : rU g (.int i) H Q := ⟨i, rfl, q⟩
theorem r_ixLast {a : Addr} {xs : List V} {v : V} {H : Hp} {Q : VK} {K : PySem.W.Frag} (h : SqL K H a (xs ++ [v])) (q : Q v H) : rIxL K (.ref a) (.int (-1)) H Q := ⟨a, xs ++ [v], -1, v, rfl, rfl, h, atI_last xs v, q⟩
theorem set_last {xs : List V} {v u : V} : (xs ++ [v]).set ((xs ++ [v]).length - 1) u = xs ++ [u] := by
  rw [List.length_append, List.length_singleton, Nat.add_sub_cancel, List.set_append_right _ _ (Nat.le_refl _), Nat.sub_self]
  rfl
theorem r_setLast {a : Addr} {xs : List V} {v u : V} {H : Hp} {Q : Hp → Prop} (h : H a = some (.lst (xs ++ [v]))) (q : Wr a (.lst (xs ++ [u])) H Q) : rSetL (.ref a) (.int (-1)) u H Q := by
  refine r_setL h (ixN_last (by rw [List.length_append, List.length_singleton]; omega)) ?_
  rw [set_last]
  exact q
theorem hu65 {k : Nat} {A : Around} (r : Room k A) : A.units + 65 < cLine := by have := r.un; omega
theorem r_inD {x y : V} {d : PyData} {ds : List PyData} {H : Hp} {Q : VK} {K : PySem.W.Frag} (h1 : Dp K H x d) (h2 : Dp K H y (.list ds)) (s1 : SeqAt.shaped d = true) (s2 : SeqAt.shaped (.list ds) = true) (q : Q (.bl (ds.any fun z => PyData.eqv z d)) H) : rInD K x y H Q := ⟨d, ds, h1, h2, s1, s2, q⟩
theorem ixK_tup {X : Cx} {K : PySem.W.Frag} (h : X.K = K := by rfl) : IxR X (rIxT K) := h ▸ ix_tup
theorem ixK_list {X : Cx} {K : PySem.W.Frag} (h : X.K = K := by rfl) : IxR X (rIxL K) := h ▸ ix_list
theorem opK_inD {X : Cx} {K : PySem.W.Frag} (hu : X.A.units + 65 < cLine) (h : X.K = K := by rfl) : OpR X (compareOp .In) (rInD K) := h ▸ op_inD hu

/-! ### texts, kinds, shapes -/
abbrev S (l : List Nat) : Str := ⟨l.toArray⟩
theorem S_tl (x : Str) : S (tl x) = x := mk_tl x
theorem tl_S (l : List Nat) : tl (S l) = l := rfl
theorem S_len (l : List Nat) : (S l).length = l.length := by rw [len_tl]
theorem S_inj {l m : List Nat} (h : S l = S m) : l = m := by rw [← tl_S l, h]
theorem S_app (l m : List Nat) : S l ++ S m = S (l ++ m) := ext_tl (by rw [tl_append])
theorem S_iff {l m : List Nat} : (V.str (S l) = V.str (S m)) ↔ l = m := ⟨fun h => S_inj (V.str.inj h), fun h => by rw [h]⟩
def lettersS : Str := "abcdefghijklmnopqrstuvwxyzABCDEFGHIJKLMNOPQRSTUVWXYZ"
def digitsS : Str := "0123456789"
def isLetter (c : Nat) : Bool := decide (c ∈ lettersS.cps.toList)
def isDigit (c : Nat) : Bool := decide (c ∈ digitsS.cps.toList)
def isBlank (c : Nat) : Bool := c == 32 || c == 10
inductive Kind where
  | letter | digit | any | ch (c : Nat)
  deriving DecidableEq
def Kind.s : Kind → Str
  | .letter => "letter"
  | .digit => "digit"
  | .any => "any"
  | .ch c => ⟨#[c]⟩
def Kind.fits : Kind → Nat → Bool
  | .letter, c => isLetter c
  | .digit, c => isDigit c
  | .any, _ => true
  | .ch d, c => decide (c = d)
theorem sp_str : (" " : Str) = S [32] := by decide +kernel
theorem nl_str : ("\n" : Str) = S [10] := by decide +kernel
theorem one_ne {c : Nat} {z : Str} (h : z.length ≠ 1) : ¬ ((⟨#[c]⟩ : Str) = z) := fun e => h (by rw [← e]; rfl)
theorem letter_len : ("letter" : Str).length = 6 := by decide +kernel
theorem digit_len : ("digit" : Str).length = 5 := by decide +kernel
theorem any_len : ("any" : Str).length = 3 := by decide +kernel
theorem Kind.is_letter (k : Kind) : decide (V.str k.s = V.str "letter") = decide (k = .letter) := by
  cases k with
  | letter => rfl
  | digit => decide +kernel
  | any => decide +kernel
  | ch c =>
    rw [decide_eq_false (p := Kind.ch c = Kind.letter) (fun h => nomatch h), decide_eq_false]
    exact fun h => one_ne (c := c) (z := "letter") (by rw [letter_len]; decide) (V.str.inj h)
theorem Kind.is_digit (k : Kind) : decide (V.str k.s = V.str "digit") = decide (k = .digit) := by
  cases k with
  | letter => decide +kernel
  | digit => rfl
  | any => decide +kernel
  | ch c =>
    rw [decide_eq_false (p := Kind.ch c = Kind.digit) (fun h => nomatch h), decide_eq_false]
    exact fun h => one_ne (c := c) (z := "digit") (by rw [digit_len]; decide) (V.str.inj h)
theorem Kind.is_any (k : Kind) : decide (V.str k.s = V.str "any") = decide (k = .any) := by
  cases k with
  | letter => decide +kernel
  | digit => decide +kernel
  | any => rfl
  | ch c =>
    rw [decide_eq_false (p := Kind.ch c = Kind.any) (fun h => nomatch h), decide_eq_false]
    exact fun h => one_ne (c := c) (z := "any") (by rw [any_len]; decide) (V.str.inj h)
theorem one_iff {c d : Nat} : (V.str ⟨#[c]⟩ = V.str ⟨#[d]⟩) ↔ c = d := ⟨fun h => by
  have q := congrArg tl (V.str.inj h)
  have q2 : [c] = [d] := q
  exact (List.cons.inj q2).1, fun h => by rw [h]⟩
theorem one_S {c : Nat} {l : List Nat} : (V.str ⟨#[c]⟩ = V.str (S l)) ↔ [c] = l := ⟨fun h => congrArg tl (V.str.inj h), fun h => by rw [← h]⟩
/-- behind letter and digit: kind == "any" or char == kind -/
theorem Kind.rest {k : Kind} {c : Nat} (h1 : k ≠ .letter) (h2 : k ≠ .digit) : (decide (k = .any) || decide (V.str ⟨#[c]⟩ = V.str k.s)) = k.fits c := by
  cases k with
  | letter => exact absurd rfl h1
  | digit => exact absurd rfl h2
  | any => rfl
  | ch d =>
    rw [decide_eq_false (p := Kind.ch d = Kind.any) (fun h => nomatch h), Bool.false_or]
    show decide (V.str ⟨#[c]⟩ = V.str ⟨#[d]⟩) = decide (c = d)
    exact decide_eq_decide.mpr one_iff
abbrev Elem := Kind × Nat × Nat
abbrev Shape := List Elem
def encE (e : Elem) : PyData := .tuple [.str e.1.s, .int (e.2.1 : Int), .int (e.2.2 : Int)]
def encSh (s : Shape) : PyData := .list (s.map encE)
def encShs (l : List Shape) : PyData := .list (l.map encSh)
def Fit (w : List Nat) (d : Kind) (i : Nat) : Prop := ∃ c, w[i]? = some c ∧ d.fits c = true
/-- a part for e ends at j that begins at a place of R -/
def step (w : List Nat) (e : Elem) (R : Nat → Prop) (j : Nat) : Prop :=
  ∃ s, R s ∧ s + e.2.1 ≤ j ∧ j ≤ s + e.2.2 ∧ j ≤ w.length ∧ ∀ i, s ≤ i → i < j → Fit w e.1 i
def Rch (w : List Nat) (sh : Shape) : Nat → Prop := sh.foldl (fun R e => step w e R) (fun i => i = 0)
theorem Rch_more {w : List Nat} {sh : Shape} {i : Nat} {e : Elem} (h : sh[i]? = some e) : Rch w (sh.take (i + 1)) = step w e (Rch w (sh.take i)) := by
  unfold Rch
  rw [take_more h, List.foldl_append]
  rfl
noncomputable def has (w : List Nat) (sh : Shape) : Bool := @decide (Rch w sh w.length) (Classical.propDecidable _)
theorem has_iff {w : List Nat} {sh : Shape} : has w sh = true ↔ Rch w sh w.length := by
  unfold has
  exact @decide_eq_true_iff _ (Classical.propDecidable _)
noncomputable def hasAny (w : List Nat) (shs : List Shape) : Bool := shs.any (has w)
theorem all_take {α : Type} {l : List α} {i : Nat} {x : α} (h : l[i]? = some x) {p : α → Bool} : (l.take (i + 1)).any p = ((l.take i).any p || p x) := by
  rw [take_more h, List.any_append]
  simp
section
variable {H : Hp} {Q : VK} {w u : List Nat} {i : Int} {n c : Nat}
theorem r_lenSS (h : w.length ≤ 16777216) (q : Q (.int (w.length : Int)) H) : rLenS [.str (S w)] H Q := r_lenS (by rw [S_len]; exact h) (by rw [S_len]; exact q)
theorem r_ixSS (hz : w.length ≤ 16777216) (e : i = (n : Int)) (g : w[n]? = some c) (q : Q (.str ⟨#[c]⟩) H) : rIxS (.str (S w)) (.int i) H Q := r_ixS (by rw [S_len]; exact hz) e g q
theorem r_catSS (h : w.length + u.length ≤ 16777216) (q : Q (.str (S (w ++ u))) H) : rCatS (.str (S w)) (.str (S u)) H Q := r_catS (by rw [S_len, S_len]; exact h) (by rw [S_app]; exact q)
end

section
variable {F H : Hp} {v : V}
theorem encE_inv {e : Elem} (h : Rp F v (encE e)) : ∃ a, v = .ref a ∧ F a = some (.tup [.str e.1.s, .int (e.2.1 : Int), .int (e.2.2 : Int)]) := by
  obtain ⟨a, xs, rfl, ha, r⟩ := h.tup_inv
  obtain ⟨_, _, rfl, r1, r⟩ := r.cons_inv
  obtain ⟨_, _, rfl, r2, r⟩ := r.cons_inv
  obtain ⟨_, _, rfl, r3, r⟩ := r.cons_inv
  cases r.nil_inv
  cases r1.str_inv
  cases r2.int_inv
  cases r3.int_inv
  exact ⟨a, rfl, ha⟩
end
/-- the longest run from st on, of at most m, ends at n: where a part can end -/
theorem run_iff {w : List Nat} {d : Kind} {st m n j : Nat} (h1 : n ≤ m) (h2 : st + n ≤ w.length) (h3 : ∀ i, st ≤ i → i < st + n → Fit w d i) (h4 : n = m ∨ ¬ Fit w d (st + n)) (hj : st ≤ j) :
    j ≤ st + n ↔ (j ≤ st + m ∧ j ≤ w.length ∧ ∀ i, st ≤ i → i < j → Fit w d i) := by
  constructor
  · intro h
    exact ⟨by omega, by omega, fun i a b => h3 i a (by omega)⟩
  · rintro ⟨a, b, c⟩
    refine Nat.le_of_not_lt fun q => ?_
    rcases h4 with e | e
    · omega
    · exact e (c (st + n) (by omega) q)
theorem step_succ {w : List Nat} {e : Elem} {R : Nat → Prop} {i j n : Nat} (h1 : n ≤ e.2.2) (h2 : i + n ≤ w.length) (h3 : ∀ t, i ≤ t → t < i + n → Fit w e.1 t) (h4 : n = e.2.2 ∨ ¬ Fit w e.1 (i + n)) (hR : R i) :
    step w e (fun s => s < i + 1 ∧ R s) j ↔ (step w e (fun s => s < i ∧ R s) j ∨ (i + e.2.1 ≤ j ∧ j ≤ i + n)) := by
  constructor
  · rintro ⟨s, ⟨hs, r⟩, a, b, c, d⟩
    by_cases q : s = i
    · subst q
      exact .inr ⟨a, (run_iff h1 h2 h3 h4 (by omega)).mpr ⟨b, c, d⟩⟩
    · exact .inl ⟨s, ⟨by omega, r⟩, a, b, c, d⟩
  · rintro (⟨s, ⟨hs, r⟩, a, b, c, d⟩ | ⟨a, b⟩)
    · exact ⟨s, ⟨by omega, r⟩, a, b, c, d⟩
    · obtain ⟨x, y, z⟩ := (run_iff h1 h2 h3 h4 (by omega)).mp b
      exact ⟨i, ⟨by omega, hR⟩, a, x, y, z⟩
theorem step_skip {w : List Nat} {e : Elem} {R : Nat → Prop} {i j : Nat} (hR : ¬ R i) : step w e (fun s => s < i + 1 ∧ R s) j ↔ step w e (fun s => s < i ∧ R s) j := by
  constructor
  · rintro ⟨s, ⟨hs, r⟩, q⟩
    have ne : s ≠ i := fun z => hR (z ▸ r)
    exact ⟨s, ⟨by omega, r⟩, q⟩
  · rintro ⟨s, ⟨hs, r⟩, q⟩
    exact ⟨s, ⟨by omega, r⟩, q⟩
theorem step_congr {w : List Nat} {e : Elem} {R R' : Nat → Prop} (h : ∀ s, s ≤ w.length → (R s ↔ R' s)) {j : Nat} : step w e R j ↔ step w e R' j := by
  constructor
  · rintro ⟨s, r, a, b, c, d⟩
    exact ⟨s, (h s (by omega)).mp r, a, b, c, d⟩
  · rintro ⟨s, r, a, b, c, d⟩
    exact ⟨s, (h s (by omega)).mpr r, a, b, c, d⟩
theorem step_none {w : List Nat} {e : Elem} {R : Nat → Prop} {j : Nat} : ¬ step w e (fun s => s < 0 ∧ R s) j := fun ⟨_, ⟨h, _⟩, _⟩ => absurd h (by omega)
theorem set_true {bs : List Bool} {i j : Nat} (hi : i < bs.length) : (bs.set i true)[j]? = some true ↔ (bs[j]? = some true ∨ j = i) := by
  by_cases e : i = j
  · subst e
    rw [List.getElem?_set_self hi]
    simp
  · rw [List.getElem?_set_ne e]
    constructor
    · exact .inl
    · rintro (h | h)
      · exact h
      · exact absurd h.symm e
/-! ### lines -/
theorem joinL_ones : ∀ l : List Nat, joinL [] (l.map fun c => [c]) = l
  | [] => rfl
  | [a] => rfl
  | a :: b :: l => by
    show [a] ++ ([] ++ joinL [] ((b :: l).map fun c => [c])) = a :: b :: l
    rw [joinL_ones (b :: l)]
    rfl
theorem join_ones (l : List Nat) : Txt.join "" (l.map fun c => S [c]) = S l := by
  refine ext_tl ?_
  rw [join_eq, tl_join]
  have e : tl ("" : Str) = [] := by decide +kernel
  rw [e, List.map_map]
  exact joinL_ones l
abbrev Wd := List Nat × Nat × Nat
def encW (x : Wd) : PyData := .tuple [.str (S x.1), .int (x.2.1 : Int), .int (x.2.2 : Int)]
def encLn (l : List Wd) : PyData := .list (l.map encW)
def encLns (l : List (List Wd)) : PyData := .list (l.map encLn)
abbrev Chg := Nat × List Nat
def encC (c : Chg) : PyData := .tuple [.str (S [c.1]), .str (S c.2)]
def encCs (l : List Chg) : PyData := .list (l.map encC)
def encCI (x : Nat × Nat) : PyData := .tuple [.str (S [x.1]), .int (x.2 : Int)]
def encCIs (l : List (Nat × Nat)) : PyData := .list (l.map encCI)
def lookC (cs : List Chg) (c : Nat) : List Nat := ((cs.find? fun x => decide (x.1 = c)).map (·.2)).getD [c]
def chgAt (cs : List Chg) (i c : Nat) : List (Nat × Nat) := (lookC cs c).map fun x => (x, i)
/-- the changed text, from the index n on -/
def chg (cs : List Chg) : Nat → List Nat → List (Nat × Nat)
  | _, [] => []
  | n, c :: r => chgAt cs n c ++ chg cs (n + 1) r
theorem chg_snoc (cs : List Chg) : ∀ (n : Nat) (l : List Nat) (c : Nat), chg cs n (l ++ [c]) = chg cs n l ++ chgAt cs (n + l.length) c
  | n, [], c => by simp [chg]
  | n, a :: l, c => by
    show chgAt cs n a ++ chg cs (n + 1) (l ++ [c]) = chgAt cs n a ++ chg cs (n + 1) l ++ chgAt cs (n + (l.length + 1)) c
    rw [chg_snoc cs (n + 1) l c, List.append_assoc, show n + 1 + l.length = n + (l.length + 1) by omega]
structure LS where
  lines : List (List Wd)
  line : List Wd
  chars : List Nat
  first : Nat
  last : Nat
def LS.shut (s : LS) : List Wd := if s.chars = [] then s.line else s.line ++ [(s.chars, s.first, s.last)]
def LS.step (s : LS) (x : Nat × Nat) : LS :=
  if isBlank x.1 = true then
    if x.1 = 10 then ⟨s.lines ++ [s.shut], [], [], s.first, s.last⟩ else ⟨s.lines, s.shut, [], s.first, s.last⟩
  else ⟨s.lines, s.line, s.chars ++ [x.1], if s.chars = [] then x.2 else s.first, x.2⟩
def LS.init : LS := ⟨[], [], [], 0, 0⟩
def LS.fin (s : LS) : List (List Wd) := s.lines ++ [s.shut]
def runL (cs : List (Nat × Nat)) : LS := cs.foldl LS.step LS.init
def splitL (cs : List (Nat × Nat)) : List (List Wd) := (runL cs).fin
theorem runL_more {cs : List (Nat × Nat)} {i : Nat} {x : Nat × Nat} (h : cs[i]? = some x) : runL (cs.take (i + 1)) = (runL (cs.take i)).step x := by
  unfold runL
  rw [take_more h, List.foldl_append]
  rfl
noncomputable def hide1 (hid : List Shape) (mark : List Nat) (x : Wd) : Wd := (if hasAny x.1 hid = true then mark else x.1, x.2)
noncomputable def hideL (hid : List Shape) (mark : List Nat) (ls : List (List Wd)) : List (List Wd) := ls.map fun l => l.map (hide1 hid mark)
noncomputable def linesOf (cs : List Chg) (hid : List Shape) (mark : List Nat) (t : List Nat) : List (List Wd) := hideL hid mark (splitL (chg cs 0 t))

theorem chg_len {cs : List Chg} {b : Nat} (hb : 1 ≤ b) (h : ∀ c ∈ cs, c.2.length ≤ b) : ∀ (n : Nat) (t : List Nat), (chg cs n t).length ≤ b * t.length
  | _, [] => by simp [chg]
  | n, c :: t => by
    have ih := chg_len hb h (n + 1) t
    have e : (lookC cs c).length ≤ b := by
      unfold lookC
      cases q : cs.find? fun x => decide (x.1 = c) with
      | none => exact hb
      | some y => exact h y (List.mem_of_find?_eq_some q)
    show (chgAt cs n c ++ chg cs (n + 1) t).length ≤ b * (t.length + 1)
    rw [List.length_append, Nat.mul_add, Nat.mul_one]
    unfold chgAt
    rw [List.length_map]
    omega
theorem lookC_len {cs : List Chg} {b : Nat} (hb : 1 ≤ b) (h : ∀ c ∈ cs, c.2.length ≤ b) (c : Nat) : (lookC cs c).length ≤ b := by
  unfold lookC
  cases q : cs.find? fun x => decide (x.1 = c) with
  | none => exact hb
  | some y => exact h y (List.mem_of_find?_eq_some q)
theorem LS.step_len (s : LS) (x : Nat × Nat) : (s.step x).lines.length + (s.step x).line.length + (s.step x).chars.length ≤ s.lines.length + s.line.length + s.chars.length + 1 := by
  have hs : s.shut.length ≤ s.line.length + s.chars.length := by
    unfold LS.shut
    split
    · omega
    · rename_i h
      have : 1 ≤ s.chars.length := by
        cases q : s.chars with
        | nil => exact absurd q h
        | cons a l => simp
      rw [List.length_append, List.length_singleton]
      omega
  unfold LS.step
  split
  · split
    · simp only [List.length_append, List.length_singleton, List.length_nil]
      omega
    · simp only [List.length_nil]
      omega
  · simp only [List.length_append, List.length_singleton]
    omega
theorem runL_len : ∀ (cs : List (Nat × Nat)) (s : LS), (cs.foldl LS.step s).lines.length + (cs.foldl LS.step s).line.length + (cs.foldl LS.step s).chars.length ≤ s.lines.length + s.line.length + s.chars.length + cs.length
  | [], s => by simp
  | x :: cs, s => by
    have h1 := runL_len cs (s.step x)
    have h2 := s.step_len x
    rw [List.foldl_cons, List.length_cons]
    omega
theorem runL_le (cs : List (Nat × Nat)) : (runL cs).lines.length + (runL cs).line.length + (runL cs).chars.length ≤ cs.length := by
  have h := runL_len cs LS.init
  unfold runL
  have e : LS.init.lines.length + LS.init.line.length + LS.init.chars.length = 0 := rfl
  omega
section
variable {F : Hp} {v : V}
theorem encC_inv {c : Chg} (h : Rp F v (encC c)) : ∃ a, v = .ref a ∧ F a = some (.tup [.str (S [c.1]), .str (S c.2)]) := by
  obtain ⟨a, xs, rfl, ha, r⟩ := h.tup_inv
  obtain ⟨_, _, rfl, r1, r⟩ := r.cons_inv
  obtain ⟨_, _, rfl, r2, r⟩ := r.cons_inv
  cases r.nil_inv
  cases r1.str_inv
  cases r2.str_inv
  exact ⟨a, rfl, ha⟩
theorem encCI_inv {c : Nat × Nat} (h : Rp F v (encCI c)) : ∃ a, v = .ref a ∧ F a = some (.tup [.str (S [c.1]), .int (c.2 : Int)]) := by
  obtain ⟨a, xs, rfl, ha, r⟩ := h.tup_inv
  obtain ⟨_, _, rfl, r1, r⟩ := r.cons_inv
  obtain ⟨_, _, rfl, r2, r⟩ := r.cons_inv
  cases r.nil_inv
  cases r1.str_inv
  cases r2.int_inv
  exact ⟨a, rfl, ha⟩
theorem encW_inv {x : Wd} (h : Rp F v (encW x)) : ∃ a, v = .ref a ∧ F a = some (.tup [.str (S x.1), .int (x.2.1 : Int), .int (x.2.2 : Int)]) := by
  obtain ⟨a, xs, rfl, ha, r⟩ := h.tup_inv
  obtain ⟨_, _, rfl, r1, r⟩ := r.cons_inv
  obtain ⟨_, _, rfl, r2, r⟩ := r.cons_inv
  obtain ⟨_, _, rfl, r3, r⟩ := r.cons_inv
  cases r.nil_inv
  cases r1.str_inv
  cases r2.int_inv
  cases r3.int_inv
  exact ⟨a, rfl, ha⟩
theorem encW_mk {x : Wd} {a : Addr} (h : F a = some (.tup [.str (S x.1), .int (x.2.1 : Int), .int (x.2.2 : Int)])) : Rp F (.ref a) (encW x) := .tup h (.cons (.str _) (.cons (.int _) (.cons (.int _) .nil)))
theorem encCI_mk {x : Nat × Nat} {a : Addr} (h : F a = some (.tup [.str (S [x.1]), .int (x.2 : Int)])) : Rp F (.ref a) (encCI x) := .tup h (.cons (.str _) (.cons (.int _) .nil))
end
theorem find_more {cs : List Chg} {i : Nat} {e : Chg} (h : cs[i]? = some e) (p : Chg → Bool) : (cs.take (i + 1)).find? p = ((cs.take i).find? p).or (if p e then some e else none) := by
  rw [take_more h, List.find?_append]
  congr 1
  rw [List.find?_cons]
  cases p e <;> rfl
/-! ### rules -/
structure Ru where
  changes : List Chg
  banned : List (List Nat)
  lineWords : Nat
  lineDocs : Nat
  hidden : List Shape
  mark : List Nat
  docWords : Nat
  shares : List (Shape × Nat × Nat)
def encStrs (l : List (List Nat)) : PyData := .list (l.map fun x => .str (S x))
def encShare (s : Shape × Nat × Nat) : PyData := .tuple [encSh s.1, .int (s.2.1 : Int), .int (s.2.2 : Int)]
def encShares (l : List (Shape × Nat × Nat)) : PyData := .list (l.map encShare)
structure RuF (F : Hp) (fs : List (Str × V)) (R : Ru) : Prop where
  changes : ∃ x, fs.lookup ("changes" : Str) = some x ∧ Rp F x (encCs R.changes)
  banned : ∃ x, fs.lookup ("banned" : Str) = some x ∧ Rp F x (encStrs R.banned)
  lineWords : fs.lookup ("line_words" : Str) = some (.int (R.lineWords : Int))
  lineDocs : fs.lookup ("line_documents" : Str) = some (.int (R.lineDocs : Int))
  hidden : ∃ x, fs.lookup ("hidden" : Str) = some x ∧ Rp F x (encShs R.hidden)
  mark : fs.lookup ("mark" : Str) = some (.str (S R.mark))
  docWords : fs.lookup ("document_words" : Str) = some (.int (R.docWords : Int))
  shares : ∃ x, fs.lookup ("shares" : Str) = some x ∧ Rp F x (encShares R.shares)
theorem RuF.up {F F' : Hp} {fs : List (Str × V)} {R : Ru} (r : RuF F fs R) (s : Same F F') : RuF F' fs R where
  changes := let ⟨x, a, b⟩ := r.changes; ⟨x, a, Rp.up s _ b⟩
  banned := let ⟨x, a, b⟩ := r.banned; ⟨x, a, Rp.up s _ b⟩
  lineWords := r.lineWords
  lineDocs := r.lineDocs
  hidden := let ⟨x, a, b⟩ := r.hidden; ⟨x, a, Rp.up s _ b⟩
  mark := r.mark
  docWords := r.docWords
  shares := let ⟨x, a, b⟩ := r.shares; ⟨x, a, Rp.up s _ b⟩
def RuAt (C : Addr) (F : Hp) (v : V) (R : Ru) : Prop := ∃ a dx fs, v = .ref a ∧ F a = some (.ins C dx fs) ∧ RuF F fs R
theorem RuAt.up {C : Addr} {F F' : Hp} {v : V} {R : Ru} (r : RuAt C F v R) (s : Same F F') : RuAt C F' v R :=
  let ⟨a, dx, fs, e, h, f⟩ := r
  ⟨a, dx, fs, e, s _ _ h, f.up s⟩
theorem Grow.ru {M : List Addr} {F H F' H' : Hp} {C : Addr} {v : V} {R : Ru} (g : Grow M F H F' H') (r : RuAt C F v R) : RuAt C F' v R := r.up g.ff
structure RuOk (R : Ru) : Prop where
  ch : R.changes.length ≤ 1000 ∧ ∀ c ∈ R.changes, c.2.length ≤ 100
  hid : ∀ sh ∈ R.hidden, ∀ e ∈ sh, e.2.1 ≤ 1000000
  shr : ∀ s ∈ R.shares, (∀ e ∈ s.1, e.2.1 ≤ 1000000) ∧ s.2.1 ≤ 1000000 ∧ s.2.2 ≤ 1000000
  mrk : R.mark.length ≤ 1000
  ban : R.banned.length ≤ 1000
/-- where the three lists of split_lines stand -/
structure LSat (F H : Hp) (p q r : Addr) (st : LS) : Prop where
  pq : p ≠ q
  pr : p ≠ r
  qr : q ≠ r
  lines : ∃ us, Mu F H p (.lst us) ∧ Rps F us (st.lines.map encLn)
  line : ∃ us, Mu F H q (.lst us) ∧ Rps F us (st.line.map encW)
  chars : Mu F H r (.lst (st.chars.map fun c => V.str (S [c])))
theorem map_at {α β : Type} {f : α → β} {l : List α} {i : Nat} {d : β} (h : (l.map f)[i]? = some d) : ∃ x, l[i]? = some x ∧ d = f x := by
  rw [List.getElem?_map] at h
  cases q : l[i]? with
  | none => rw [q] at h; cases h
  | some x =>
    rw [q] at h
    exact ⟨x, rfl, (Option.some.inj h).symm⟩
theorem chars_sum (l : List Nat) : ((l.map fun c => S [c]).map fun z : Str => z.length).sum = l.length := by
  induction l with
  | nil => rfl
  | cons a l ih =>
    rw [List.map_cons, List.map_cons, List.sum_cons, ih]
    show 1 + l.length = l.length + 1
    omega
/-! short words for the walk -/
local macro_rules | `(tactic| walk_at "nin") => `(tactic| first | exact nil_not | exact one_not (by assumption) | exact one_not (Ne.symm (by assumption)) | assumption)
local macro_rules | `(tactic| walk_at "ok") => `(tactic| first | exact Grow.fh (by assumption) | assumption)
local macro_rules | `(tactic| walk_at "up") => `(tactic| first
  | assumption
  | ((with_reducible refine' Grow.rp ?gg ?rr); (case gg => assumption); (case rr => walk_at "up"))
  | ((with_reducible refine' Grow.rps ?gg ?rr); (case gg => assumption); (case rr => walk_at "up"))
  | ((with_reducible refine' Grow.mu ?gg ?nn ?rr); (case gg => assumption); (case rr => walk_at "up"); (case nn => walk_at "nin"))
  | ((with_reducible refine' Grow.at ?gg ?rr); (case gg => assumption); (case rr => walk_at "up"))
  | ((with_reducible refine' Grow.fh ?gg); (case gg => assumption))
  | ((with_reducible refine' sql_mu ?rr); (case rr => walk_at "up"))
  | ((with_reducible refine' sql_fz ?gg ?rr); (case gg => walk_at "ok"); (case rr => walk_at "up"))
  | ((with_reducible refine' sqt_fz ?gg ?rr); (case gg => walk_at "ok"); (case rr => walk_at "up")))
local macro_rules | `(tactic| walk_at "chain") => `(tactic| first
  | assumption
  | ((with_reducible refine' Grow.comp ?g0 ?g1 ?s1); (case g1 => assumption); (case g0 => walk_at "chain"); (case s1 => walk_at "side"))
  | ((with_reducible refine' Grow.refl ?g0); (case g0 => walk_at "ok")))
local macro_rules | `(tactic| walk_at "side") => `(tactic| first
  | exact side_nil
  | (refine side_one ?_; first
    | exact Or.inr (by assumption)
    | exact Or.inl (List.mem_cons_self)
    | exact Or.inl (by simp)
    | (refine Grow.back ?g2 ?n2; (case n2 => assumption); (case g2 => walk_at "chain"))))
local macro_rules | `(tactic| walk_at "1") => `(tactic| first
  | with_reducible refine' r_seq ?_
  | with_reducible refine' r_set ?_
  | with_reducible refine' r_asg ?_
  | with_reducible refine' r_ret ?_
  | with_reducible refine' r_retN ?_
  | with_reducible refine' r_if ?_
  | with_reducible refine' r_drop ?_
  | with_reducible refine' r_next ?_
  | with_reducible refine' r_brk ?_
  | with_reducible refine' r_c ?_
  | ((with_reducible refine' r_var ?hv ?_); (case hv => rfl))
  | ((with_reducible refine' r_aug ?hv ?_); (case hv => rfl))
  | with_reducible refine' r_op ?_
  | with_reducible refine' r_un ?_
  | with_reducible refine' r_cons ?_
  | with_reducible refine' r_nil ?_
  | with_reducible refine' r_call ?_
  | with_reducible refine' r_cb ?_
  | with_reducible refine' r_test ?_
  | with_reducible refine' r_B ?_
  | with_reducible refine' r_bl ?_
  | with_reducible refine' r_int ?_
  | with_reducible refine' r_str ?_
  | with_reducible refine' r_and ?_
  | with_reducible refine' r_or ?_
  | with_reducible refine' r_not ?_
  | with_reducible refine' r_andV ?_
  | with_reducible refine' r_orV ?_
  | with_reducible refine' r_notV ?_
  | with_reducible refine' r_ifE ?_
  | with_reducible refine' r_yes ?_
  | with_reducible refine' r_itet ?_
  | with_reducible refine' r_itef ?_
  | with_reducible refine' r_I0 ?_
  | ((with_reducible refine' r_eq ?hv ?_); (case hv => rfl))
  | ((with_reducible refine' r_ne ?hv ?_); (case hv => rfl))
  | with_reducible refine' r_isN ?_
  | with_reducible refine' r_notN ?_
  | with_reducible refine' r_inS ?_
  | with_reducible refine' r_notInS ?_
  | with_reducible refine' r_tup ?_
  | with_reducible refine' r_lst ?_
  | with_reducible refine' r_fld ?_
  | with_reducible refine' r_bm ?_
  | ((with_reducible refine' r_ty ?hv ?_); (case hv => walk_at "up"))
  | with_reducible refine' r_lc ?_
  | ((with_reducible refine' r_sz ?hv ?_); (case hv => rfl))
  | with_reducible refine' r_din ?_
  | with_reducible refine' r_dnotin ?_
  | with_reducible refine' r_dput ?_
  | with_reducible refine' r_dget ?_
  | with_reducible refine' r_dget2 ?_
  | with_reducible refine' r_dnewK ?_
  | with_reducible refine' r_dnewT ?_
  | with_reducible refine' r_sfld ?_
  | with_reducible refine' r_sfldaug ?_
  | with_reducible refine' r_bm0 ?_
  | with_reducible refine' r_meth ?_
  | with_reducible refine' r_sl ?_
  | with_reducible refine' r_noPart ?_
  | with_reducible refine' r_part ?_
  | with_reducible refine' r_m1 ?_
  | with_reducible refine' r_m1V ?_
  | with_reducible refine' r_repl ?_
  | with_reducible refine' r_ipI ?_
  | with_reducible refine' r_U ?_
  | with_reducible refine' r_intI ?_
  | with_reducible refine' r_gName ?_
  | with_reducible refine' r_gNil ?_
  | with_reducible refine' r_gCons ?_
  | with_reducible refine' r_gSub ?_
  | with_reducible refine' r_for ?_
  | with_reducible refine' r_iList ?_
  | with_reducible refine' r_iTup ?_
  | with_reducible refine' r_iStr ?_
  | with_reducible refine' r_rng1 ?_
  | with_reducible refine' r_rng2 ?_
  | ((with_reducible refine' r_lenSS ?hv ?_); (case hv => omega))
  | ((with_reducible refine' r_lenL ?hv ?_); (case hv => walk_at "up"))
  | ((with_reducible refine' r_gTup ?hv ?hw ?_); (case hv => walk_at "up"); (case hw => rfl))
  | ((with_reducible refine' r_ixT (n := 0) ?hv ?he ?hw ?_); (case he => rfl); (case hv => walk_at "up"); (case hw => rfl))
  | ((with_reducible refine' r_ixT (n := 1) ?hv ?he ?hw ?_); (case he => rfl); (case hv => walk_at "up"); (case hw => rfl))
  | ((with_reducible refine' r_ixT (n := 2) ?hv ?he ?hw ?_); (case he => rfl); (case hv => walk_at "up"); (case hw => rfl))
  | ((with_reducible refine' r_ixT (n := 3) ?hv ?he ?hw ?_); (case he => rfl); (case hv => walk_at "up"); (case hw => rfl)))
local macro_rules | `(tactic| walk_at "go") => `(tactic| repeat walk_at "1")
/-- the slots after a store -/
local macro_rules | `(tactic| walk_at "ss") => `(tactic| try dsimp only [List.set])
abbrev rw : PySem.W.OpenLaw := PySem.Challenge.rw_corpuskeep_k16_whole_cleaning
def top (i : Nat) : Stmt := PySem.Challenge.pw_corpuskeep_k16_whole_cleaning.main.body.getD i (.Pass ⟨0, 0, 0, 0⟩)
abbrev s_is_letter : Stmt := top 5
abbrev s_is_digit : Stmt := top 6
abbrev s_is_blank : Stmt := top 7
abbrev s_is_word : Stmt := top 8
abbrev s_place_of : Stmt := top 9
abbrev s_name_at : Stmt := top 10
abbrev s_number_at : Stmt := top 11
abbrev s_quoted_at : Stmt := top 12
abbrev s_sign_at : Stmt := top 13
abbrev s_read_signs : Stmt := top 14
abbrev s_is_of_kind : Stmt := top 16
abbrev s_run_length : Stmt := top 17
abbrev s_ends : Stmt := top 18
abbrev s_has_shape : Stmt := top 19
abbrev s_has_any_shape : Stmt := top 20
abbrev s_change_text : Stmt := top 22
abbrev s_split_lines : Stmt := top 23
abbrev s_shown : Stmt := top 24
abbrev s_hide_words : Stmt := top 25
abbrev s_text_lines : Stmt := top 26
abbrev s_count_lines : Stmt := top 28
abbrev s_first_banned : Stmt := top 29
abbrev s_line_fate : Stmt := top 30
abbrev s_line_fates : Stmt := top 31
abbrev s_left_words : Stmt := top 32
abbrev s_drop_reason : Stmt := top 33
abbrev s_plain_lines : Stmt := top 34
abbrev s_clean_documents : Stmt := top 35
abbrev s_Rules_init : Stmt := inClass (top 40) 0
abbrev s_SignReader_init : Stmt := inClass (top 45) 0
abbrev s_SignReader_sign : Stmt := inClass (top 45) 1
abbrev s_SignReader_skip : Stmt := inClass (top 45) 3
abbrev s_SignReader_sees : Stmt := inClass (top 45) 4
abbrev s_SignReader_demand : Stmt := inClass (top 45) 5
abbrev s_SignReader_take : Stmt := inClass (top 45) 6
abbrev s_SignReader_take_number : Stmt := inClass (top 45) 7
abbrev s_SignReader_take_second : Stmt := inClass (top 45) 8
abbrev s_SignReader_look_character : Stmt := inClass (top 45) 9
abbrev s_SignReader_look_word : Stmt := inClass (top 45) 10
abbrev s_read_sources : Stmt := top 46
abbrev s_read_changes : Stmt := top 47
abbrev s_read_banned : Stmt := top 48
abbrev s_read_lines : Stmt := top 49
abbrev s_read_kind : Stmt := top 50
abbrev s_read_element : Stmt := top 51
abbrev s_read_shape : Stmt := top 52
abbrev s_read_hidden : Stmt := top 53
abbrev s_read_mark : Stmt := top 54
abbrev s_read_shares : Stmt := top 55
abbrev s_read_alike : Stmt := top 56
abbrev s_read_count : Stmt := top 57
abbrev s_parse_rules : Stmt := top 58
abbrev s_law_cell : Stmt := top 60
abbrev s_law_digits : Stmt := top 61
abbrev s_law_draw : Stmt := top 62
abbrev s_law_same : Stmt := top 63
abbrev s_law_any : Stmt := top 64
abbrev s_law_solid : Stmt := top 65
abbrev s_law_text : Stmt := top 66
abbrev s_law_word : Stmt := top 67
abbrev s_law_quoted : Stmt := top 70
abbrev s_law_kind_fits : Stmt := top 73
abbrev s_law_has : Stmt := top 74
abbrev s_law_element_text : Stmt := top 75
abbrev s_law_shape_text : Stmt := top 76
abbrev s_law_lines_text : Stmt := top 77
abbrev s_law_normal : Stmt := top 78
abbrev s_law_lines_of : Stmt := top 79
abbrev s_law_shown : Stmt := top 80
abbrev s_law_bare : Stmt := top 81
abbrev s_law_fate : Stmt := top 82
abbrev s_law_reason : Stmt := top 83
abbrev s_law_shape : Stmt := top 84
abbrev s_law_words : Stmt := top 85
abbrev s_law_changes : Stmt := top 86
abbrev s_law_cleaning_rules : Stmt := top 87
abbrev s_law_page_text : Stmt := top 88
abbrev s_law_texts : Stmt := top 89
abbrev s_law : Stmt := top 90
def d_is_letter : He.DefD := ⟨("is_letter", none), "is_letter", "is_letter", defArgs s_is_letter, defBody s_is_letter, defScope s_is_letter, [], []⟩
def d_is_digit : He.DefD := ⟨("is_digit", none), "is_digit", "is_digit", defArgs s_is_digit, defBody s_is_digit, defScope s_is_digit, [], []⟩
def d_is_blank : He.DefD := ⟨("is_blank", none), "is_blank", "is_blank", defArgs s_is_blank, defBody s_is_blank, defScope s_is_blank, [], []⟩
def d_is_word : He.DefD := ⟨("is_word", none), "is_word", "is_word", defArgs s_is_word, defBody s_is_word, defScope s_is_word, [], []⟩
def d_place_of : He.DefD := ⟨("place_of", none), "place_of", "place_of", defArgs s_place_of, defBody s_place_of, defScope s_place_of, [], []⟩
def d_name_at : He.DefD := ⟨("_name_at", none), "_name_at", "_name_at", defArgs s_name_at, defBody s_name_at, defScope s_name_at, [], []⟩
def d_number_at : He.DefD := ⟨("_number_at", none), "_number_at", "_number_at", defArgs s_number_at, defBody s_number_at, defScope s_number_at, [], []⟩
def d_quoted_at : He.DefD := ⟨("_quoted_at", none), "_quoted_at", "_quoted_at", defArgs s_quoted_at, defBody s_quoted_at, defScope s_quoted_at, [], []⟩
def d_sign_at : He.DefD := ⟨("_sign_at", none), "_sign_at", "_sign_at", defArgs s_sign_at, defBody s_sign_at, defScope s_sign_at, [], []⟩
def d_read_signs : He.DefD := ⟨("read_signs", none), "read_signs", "read_signs", defArgs s_read_signs, defBody s_read_signs, defScope s_read_signs, [], []⟩
def d_is_of_kind : He.DefD := ⟨("is_of_kind", none), "is_of_kind", "is_of_kind", defArgs s_is_of_kind, defBody s_is_of_kind, defScope s_is_of_kind, [], []⟩
def d_run_length : He.DefD := ⟨("_run_length", none), "_run_length", "_run_length", defArgs s_run_length, defBody s_run_length, defScope s_run_length, [], []⟩
def d_ends : He.DefD := ⟨("_ends", none), "_ends", "_ends", defArgs s_ends, defBody s_ends, defScope s_ends, [], []⟩
def d_has_shape : He.DefD := ⟨("has_shape", none), "has_shape", "has_shape", defArgs s_has_shape, defBody s_has_shape, defScope s_has_shape, [], []⟩
def d_has_any_shape : He.DefD := ⟨("has_any_shape", none), "has_any_shape", "has_any_shape", defArgs s_has_any_shape, defBody s_has_any_shape, defScope s_has_any_shape, [], []⟩
def d_change_text : He.DefD := ⟨("change_text", none), "change_text", "change_text", defArgs s_change_text, defBody s_change_text, defScope s_change_text, [], []⟩
def d_split_lines : He.DefD := ⟨("split_lines", none), "split_lines", "split_lines", defArgs s_split_lines, defBody s_split_lines, defScope s_split_lines, [], []⟩
def d_shown : He.DefD := ⟨("_shown", none), "_shown", "_shown", defArgs s_shown, defBody s_shown, defScope s_shown, [], []⟩
def d_hide_words : He.DefD := ⟨("hide_words", none), "hide_words", "hide_words", defArgs s_hide_words, defBody s_hide_words, defScope s_hide_words, [], []⟩
def d_text_lines : He.DefD := ⟨("text_lines", none), "text_lines", "text_lines", defArgs s_text_lines, defBody s_text_lines, defScope s_text_lines, [], []⟩
def d_count_lines : He.DefD := ⟨("count_lines", none), "count_lines", "count_lines", defArgs s_count_lines, defBody s_count_lines, defScope s_count_lines, [], []⟩
def d_first_banned : He.DefD := ⟨("_first_banned", none), "_first_banned", "_first_banned", defArgs s_first_banned, defBody s_first_banned, defScope s_first_banned, [], []⟩
def d_line_fate : He.DefD := ⟨("_line_fate", none), "_line_fate", "_line_fate", defArgs s_line_fate, defBody s_line_fate, defScope s_line_fate, [], []⟩
def d_line_fates : He.DefD := ⟨("line_fates", none), "line_fates", "line_fates", defArgs s_line_fates, defBody s_line_fates, defScope s_line_fates, [], []⟩
def d_left_words : He.DefD := ⟨("left_words", none), "left_words", "left_words", defArgs s_left_words, defBody s_left_words, defScope s_left_words, [], []⟩
def d_drop_reason : He.DefD := ⟨("drop_reason", none), "drop_reason", "drop_reason", defArgs s_drop_reason, defBody s_drop_reason, defScope s_drop_reason, [], []⟩
def d_plain_lines : He.DefD := ⟨("_plain_lines", none), "_plain_lines", "_plain_lines", defArgs s_plain_lines, defBody s_plain_lines, defScope s_plain_lines, [], []⟩
def d_clean_documents : He.DefD := ⟨("clean_documents", none), "clean_documents", "clean_documents", defArgs s_clean_documents, defBody s_clean_documents, defScope s_clean_documents, [], []⟩
def d_Rules_init : He.DefD := ⟨("Rules", some "__init__"), "__init__", "Rules.__init__", defArgs s_Rules_init, defBody s_Rules_init, defScope s_Rules_init, [], []⟩
def d_SignReader_init : He.DefD := ⟨("SignReader", some "__init__"), "__init__", "SignReader.__init__", defArgs s_SignReader_init, defBody s_SignReader_init, defScope s_SignReader_init, [], []⟩
def d_SignReader_sign : He.DefD := ⟨("SignReader", some "sign"), "sign", "SignReader.sign", defArgs s_SignReader_sign, defBody s_SignReader_sign, defScope s_SignReader_sign, [], []⟩
def d_SignReader_skip : He.DefD := ⟨("SignReader", some "skip"), "skip", "SignReader.skip", defArgs s_SignReader_skip, defBody s_SignReader_skip, defScope s_SignReader_skip, [], []⟩
def d_SignReader_sees : He.DefD := ⟨("SignReader", some "sees"), "sees", "SignReader.sees", defArgs s_SignReader_sees, defBody s_SignReader_sees, defScope s_SignReader_sees, [], []⟩
def d_SignReader_demand : He.DefD := ⟨("SignReader", some "demand"), "demand", "SignReader.demand", defArgs s_SignReader_demand, defBody s_SignReader_demand, defScope s_SignReader_demand, [], []⟩
def d_SignReader_take : He.DefD := ⟨("SignReader", some "take"), "take", "SignReader.take", defArgs s_SignReader_take, defBody s_SignReader_take, defScope s_SignReader_take, [], []⟩
def d_SignReader_take_number : He.DefD := ⟨("SignReader", some "take_number"), "take_number", "SignReader.take_number", defArgs s_SignReader_take_number, defBody s_SignReader_take_number, defScope s_SignReader_take_number, [], []⟩
def d_SignReader_take_second : He.DefD := ⟨("SignReader", some "take_second"), "take_second", "SignReader.take_second", defArgs s_SignReader_take_second, defBody s_SignReader_take_second, defScope s_SignReader_take_second, [], []⟩
def d_SignReader_look_character : He.DefD := ⟨("SignReader", some "look_character"), "look_character", "SignReader.look_character", defArgs s_SignReader_look_character, defBody s_SignReader_look_character, defScope s_SignReader_look_character, [], []⟩
def d_SignReader_look_word : He.DefD := ⟨("SignReader", some "look_word"), "look_word", "SignReader.look_word", defArgs s_SignReader_look_word, defBody s_SignReader_look_word, defScope s_SignReader_look_word, [], []⟩
def d_read_sources : He.DefD := ⟨("_read_sources", none), "_read_sources", "_read_sources", defArgs s_read_sources, defBody s_read_sources, defScope s_read_sources, [], []⟩
def d_read_changes : He.DefD := ⟨("_read_changes", none), "_read_changes", "_read_changes", defArgs s_read_changes, defBody s_read_changes, defScope s_read_changes, [], []⟩
def d_read_banned : He.DefD := ⟨("_read_banned", none), "_read_banned", "_read_banned", defArgs s_read_banned, defBody s_read_banned, defScope s_read_banned, [], []⟩
def d_read_lines : He.DefD := ⟨("_read_lines", none), "_read_lines", "_read_lines", defArgs s_read_lines, defBody s_read_lines, defScope s_read_lines, [], []⟩
def d_read_kind : He.DefD := ⟨("_read_kind", none), "_read_kind", "_read_kind", defArgs s_read_kind, defBody s_read_kind, defScope s_read_kind, [], []⟩
def d_read_element : He.DefD := ⟨("_read_element", none), "_read_element", "_read_element", defArgs s_read_element, defBody s_read_element, defScope s_read_element, [], []⟩
def d_read_shape : He.DefD := ⟨("_read_shape", none), "_read_shape", "_read_shape", defArgs s_read_shape, defBody s_read_shape, defScope s_read_shape, [], []⟩
def d_read_hidden : He.DefD := ⟨("_read_hidden", none), "_read_hidden", "_read_hidden", defArgs s_read_hidden, defBody s_read_hidden, defScope s_read_hidden, [], []⟩
def d_read_mark : He.DefD := ⟨("_read_mark", none), "_read_mark", "_read_mark", defArgs s_read_mark, defBody s_read_mark, defScope s_read_mark, [], []⟩
def d_read_shares : He.DefD := ⟨("_read_shares", none), "_read_shares", "_read_shares", defArgs s_read_shares, defBody s_read_shares, defScope s_read_shares, [], []⟩
def d_read_alike : He.DefD := ⟨("_read_alike", none), "_read_alike", "_read_alike", defArgs s_read_alike, defBody s_read_alike, defScope s_read_alike, [], []⟩
def d_read_count : He.DefD := ⟨("_read_count", none), "_read_count", "_read_count", defArgs s_read_count, defBody s_read_count, defScope s_read_count, [], []⟩
def d_parse_rules : He.DefD := ⟨("parse_rules", none), "parse_rules", "parse_rules", defArgs s_parse_rules, defBody s_parse_rules, defScope s_parse_rules, [], []⟩
def d_law_cell : He.DefD := ⟨("_law_cell", none), "_law_cell", "_law_cell", defArgs s_law_cell, defBody s_law_cell, defScope s_law_cell, [], []⟩
def d_law_digits : He.DefD := ⟨("_law_digits", none), "_law_digits", "_law_digits", defArgs s_law_digits, defBody s_law_digits, defScope s_law_digits, [], []⟩
def d_law_draw : He.DefD := ⟨("_law_draw", none), "_law_draw", "_law_draw", defArgs s_law_draw, defBody s_law_draw, defScope s_law_draw, [], []⟩
def d_law_same : He.DefD := ⟨("_law_same", none), "_law_same", "_law_same", defArgs s_law_same, defBody s_law_same, defScope s_law_same, [], []⟩
def d_law_any : He.DefD := ⟨("_law_any", none), "_law_any", "_law_any", defArgs s_law_any, defBody s_law_any, defScope s_law_any, [], []⟩
def d_law_solid : He.DefD := ⟨("_law_solid", none), "_law_solid", "_law_solid", defArgs s_law_solid, defBody s_law_solid, defScope s_law_solid, [], []⟩
def d_law_text : He.DefD := ⟨("_law_text", none), "_law_text", "_law_text", defArgs s_law_text, defBody s_law_text, defScope s_law_text, [], []⟩
def d_law_word : He.DefD := ⟨("_law_word", none), "_law_word", "_law_word", defArgs s_law_word, defBody s_law_word, defScope s_law_word, [], []⟩
def d_law_quoted : He.DefD := ⟨("_law_quoted", none), "_law_quoted", "_law_quoted", defArgs s_law_quoted, defBody s_law_quoted, defScope s_law_quoted, [], []⟩
def d_law_kind_fits : He.DefD := ⟨("_law_kind_fits", none), "_law_kind_fits", "_law_kind_fits", defArgs s_law_kind_fits, defBody s_law_kind_fits, defScope s_law_kind_fits, [], []⟩
def d_law_has : He.DefD := ⟨("_law_has", none), "_law_has", "_law_has", defArgs s_law_has, defBody s_law_has, defScope s_law_has, [], []⟩
def d_law_element_text : He.DefD := ⟨("_law_element_text", none), "_law_element_text", "_law_element_text", defArgs s_law_element_text, defBody s_law_element_text, defScope s_law_element_text, [], []⟩
def d_law_shape_text : He.DefD := ⟨("_law_shape_text", none), "_law_shape_text", "_law_shape_text", defArgs s_law_shape_text, defBody s_law_shape_text, defScope s_law_shape_text, [], []⟩
def d_law_lines_text : He.DefD := ⟨("_law_lines_text", none), "_law_lines_text", "_law_lines_text", defArgs s_law_lines_text, defBody s_law_lines_text, defScope s_law_lines_text, [], []⟩
def d_law_normal : He.DefD := ⟨("_law_normal", none), "_law_normal", "_law_normal", defArgs s_law_normal, defBody s_law_normal, defScope s_law_normal, [], []⟩
def d_law_lines_of : He.DefD := ⟨("_law_lines_of", none), "_law_lines_of", "_law_lines_of", defArgs s_law_lines_of, defBody s_law_lines_of, defScope s_law_lines_of, [], []⟩
def d_law_shown : He.DefD := ⟨("_law_shown", none), "_law_shown", "_law_shown", defArgs s_law_shown, defBody s_law_shown, defScope s_law_shown, [], []⟩
def d_law_bare : He.DefD := ⟨("_law_bare", none), "_law_bare", "_law_bare", defArgs s_law_bare, defBody s_law_bare, defScope s_law_bare, [], []⟩
def d_law_fate : He.DefD := ⟨("_law_fate", none), "_law_fate", "_law_fate", defArgs s_law_fate, defBody s_law_fate, defScope s_law_fate, [], []⟩
def d_law_reason : He.DefD := ⟨("_law_reason", none), "_law_reason", "_law_reason", defArgs s_law_reason, defBody s_law_reason, defScope s_law_reason, [], []⟩
def d_law_shape : He.DefD := ⟨("_law_shape", none), "_law_shape", "_law_shape", defArgs s_law_shape, defBody s_law_shape, defScope s_law_shape, [], []⟩
def d_law_words : He.DefD := ⟨("_law_words", none), "_law_words", "_law_words", defArgs s_law_words, defBody s_law_words, defScope s_law_words, [], []⟩
def d_law_changes : He.DefD := ⟨("_law_changes", none), "_law_changes", "_law_changes", defArgs s_law_changes, defBody s_law_changes, defScope s_law_changes, [], []⟩
def d_law_cleaning_rules : He.DefD := ⟨("_law_cleaning_rules", none), "_law_cleaning_rules", "_law_cleaning_rules", defArgs s_law_cleaning_rules, defBody s_law_cleaning_rules, defScope s_law_cleaning_rules, [], []⟩
def d_law_page_text : He.DefD := ⟨("_law_page_text", none), "_law_page_text", "_law_page_text", defArgs s_law_page_text, defBody s_law_page_text, defScope s_law_page_text, [], []⟩
def d_law_texts : He.DefD := ⟨("_law_texts", none), "_law_texts", "_law_texts", defArgs s_law_texts, defBody s_law_texts, defScope s_law_texts, [], []⟩
def d_law : He.DefD := ⟨("law", none), "law", "law", defArgs s_law, defBody s_law, defScope s_law, [], []⟩
def fn : List He.DefD := [d_is_letter, d_is_digit, d_is_blank, d_is_word, d_place_of, d_name_at, d_number_at, d_quoted_at, d_sign_at, d_read_signs, d_is_of_kind, d_run_length, d_ends, d_has_shape, d_has_any_shape, d_change_text, d_split_lines, d_shown, d_hide_words, d_text_lines, d_count_lines, d_first_banned, d_line_fate, d_line_fates, d_left_words, d_drop_reason, d_plain_lines, d_clean_documents, d_Rules_init, d_SignReader_init, d_SignReader_sign, d_SignReader_skip, d_SignReader_sees, d_SignReader_demand, d_SignReader_take, d_SignReader_take_number, d_SignReader_take_second, d_SignReader_look_character, d_SignReader_look_word, d_read_sources, d_read_changes, d_read_banned, d_read_lines, d_read_kind, d_read_element, d_read_shape, d_read_hidden, d_read_mark, d_read_shares, d_read_alike, d_read_count, d_parse_rules, d_law_cell, d_law_digits, d_law_draw, d_law_same, d_law_any, d_law_solid, d_law_text, d_law_word, d_law_quoted, d_law_kind_fits, d_law_has, d_law_element_text, d_law_shape_text, d_law_lines_text, d_law_normal, d_law_lines_of, d_law_shown, d_law_bare, d_law_fate, d_law_reason, d_law_shape, d_law_words, d_law_changes, d_law_cleaning_rules, d_law_page_text, d_law_texts, d_law]
def fa : List He.Fa := [.glo "is_letter", .glo "is_digit", .glo "is_blank", .glo "is_word", .glo "place_of", .glo "_name_at", .glo "_number_at", .glo "_quoted_at", .glo "_sign_at", .glo "read_signs", .glo "is_of_kind", .glo "_run_length", .glo "_ends", .glo "has_shape", .glo "has_any_shape", .glo "change_text", .glo "split_lines", .glo "_shown", .glo "hide_words", .glo "text_lines", .glo "count_lines", .glo "_first_banned", .glo "_line_fate", .glo "line_fates", .glo "left_words", .glo "drop_reason", .glo "_plain_lines", .glo "clean_documents", .glo "_read_sources", .glo "_read_changes", .glo "_read_banned", .glo "_read_lines", .glo "_read_kind", .glo "_read_element", .glo "_read_shape", .glo "_read_hidden", .glo "_read_mark", .glo "_read_shares", .glo "_read_alike", .glo "_read_count", .glo "parse_rules", .glo "_law_cell", .glo "_law_digits", .glo "_law_draw", .glo "_law_same", .glo "_law_any", .glo "_law_solid", .glo "_law_text", .glo "_law_word", .glo "_law_quoted", .glo "_law_kind_fits", .glo "_law_has", .glo "_law_element_text", .glo "_law_shape_text", .glo "_law_lines_text", .glo "_law_normal", .glo "_law_lines_of", .glo "_law_shown", .glo "_law_bare", .glo "_law_fate", .glo "_law_reason", .glo "_law_shape", .glo "_law_words", .glo "_law_changes", .glo "_law_cleaning_rules", .glo "_law_page_text", .glo "_law_texts", .glo "law", .free "len", .free "int", .free "range", .free "tuple", .free "max", .free "isinstance", .free "list", .free "bool", .free "str", .glo "Rules", .glo "SignReader", .glo "RESERVED", .glo "KINDS", .int "NAME_MOST" 20, .str "LETTERS" "abcdefghijklmnopqrstuvwxyzABCDEFGHIJKLMNOPQRSTUVWXYZ", .str "DIGITS" "0123456789", .str "SYMBOLS" ",;:", .cls "Rules", .mkr "Rules", .cls "SignReader", .mkr "SignReader", .noat "Rules" "sources", .noat "Rules" "changes", .noat "Rules" "banned", .noat "Rules" "line_words", .noat "Rules" "line_documents", .noat "Rules" "hidden", .noat "Rules" "mark", .noat "Rules" "document_words", .noat "Rules" "shares", .noat "Rules" "alike_least", .noat "Rules" "alike_of", .noat "Rules" "run_words", .noat "Rules" "phrase_words", .noat "Rules" "piece_words", .noat "Rules" "join_limit", .noat "Rules" "page_codes", .noat "Rules" "volume_pages", .noat "SignReader" "signs", .noat "SignReader" "at", .meth "SignReader" "sign", .meth "SignReader" "skip", .meth "SignReader" "sees", .meth "SignReader" "demand", .meth "SignReader" "take", .meth "SignReader" "take_number", .meth "SignReader" "take_second", .meth "SignReader" "look_character", .meth "SignReader" "look_word"]

def resV : List He.Dv := [.str "sources", .str "change", .str "to", .str "ban", .str "lines", .str "least", .str "common", .str "hide", .str "letter", .str "digit", .str "any", .str "mark", .str "documents", .str "share", .str "of", .str "alike", .str "runs", .str "phrases", .str "pieces", .str "joins", .str "pages", .str "volumes"]
def kindV : List He.Dv := [.str "letter", .str "digit", .str "any"]
def exB (K : PySem.W.Frag) : Bool := He.tupB K "RESERVED" resV && He.tupB K "KINDS" kindV

abbrev AlX : Type := He.AlD × Bool
/-- what the module's names stand for, the defs' codes, the classes' names and their methods -/
def codeNs (g : Addr → Option Obj) (a : Addr) : List Addr := match g a with
  | some ⟨_, _, .func fd, _⟩ => He.refV fd.code
  | some ⟨_, _, .cls cd, _⟩ => [cd.ns]
  | _ => []
def nsAt (g : Addr → Option Obj) (a : Addr) : List Addr := match g a with
  | some ⟨_, _, .cls cd, _⟩ => [cd.ns]
  | _ => []
def valsAt (g : Addr → Option Obj) (a : Addr) : List Addr := match g a with
  | some ⟨_, _, .dict es _, _⟩ => es.toList.flatMap fun e => He.refV e.val
  | _ => []
def asX (g : Addr → Option Obj) : List Addr := mainGlobals :: (valsAt g mainGlobals ++ ((valsAt g mainGlobals).flatMap (codeNs g) ++
  (((valsAt g mainGlobals).flatMap (nsAt g)).flatMap (valsAt g) ++ (((valsAt g mainGlobals).flatMap (nsAt g)).flatMap (valsAt g)).flatMap (codeNs g))))
def obsX (_n : Nat) (g : Addr → Option Obj) : AlX := (He.obsD fa fn (He.frG g (asX g)), exB (He.frG g (asX g)))
def valX : AlX := (He.valD fn, true)
def SaysX (K : PySem.W.Frag) : Prop := He.obsD fa fn K = He.valD fn ∧ exB K = true
def hk : PySem.W.Hook where
  α := AlX
  obs := fun s => obsX 5 s.heap.get?
  val := fun _ => valX
  says := fun _ h => ∃ K : PySem.W.Frag, K.In h ∧ SaysX K
  of := fun _ _ e => ⟨_, He.frG_in, congrArg (fun z : AlX => z.1) e, congrArg (fun z : AlX => z.2) e⟩
  keeps := fun _ _ _ ⟨K, hK, c⟩ k => ⟨K, PySem.W.Frag.In.keeps hK k, c⟩

/-! ### what the top has left, for the walk -/
structure Txt (K : PySem.W.Frag) (mg : Str → Option Value) : Prop where
  ex : ∃ h : Heap, K.In h ∧ h.Ns mainGlobals mg ∧ SaysX K
section
variable {P : Program} {w : World} {K : PySem.W.Frag} {mg : Str → Option Value} {base : Heap}
theorem Txt.fact (T : Txt K mg) (i : Nat) {f : He.Fa} (h : fa[i]? = some f) : f.ok K = true := by
  obtain ⟨_, _, _, c, _⟩ := T.ex
  exact He.SaysD.fact (fn := fn) c i h
theorem Txt.glo (T : Txt K mg) (i : Nat) {x : Str} (h : fa[i]? = some (.glo x)) : mg x = some (.ref (He.ga K x)) := by
  obtain ⟨_, X, G, _⟩ := T.ex
  exact He.glo_ok X G (T.fact i h)
theorem Txt.free (T : Txt K mg) (i : Nat) {x : Str} (h : fa[i]? = some (.free x)) : mg x = none := by
  obtain ⟨_, X, G, _⟩ := T.ex
  exact He.free_ok X G (T.fact i h)
theorem Txt.int (T : Txt K mg) (n : Nat) {x : Str} {i : Int} (h : fa[n]? = some (.int x i)) : ∃ t, mg x = some (.int i t) := by
  obtain ⟨_, X, G, _⟩ := T.ex
  exact He.int_ok X G (T.fact n h)
theorem Txt.str (T : Txt K mg) (n : Nat) {x z : Str} (h : fa[n]? = some (.str x z)) : ∃ t, mg x = some (.str z t) := by
  obtain ⟨_, X, G, _⟩ := T.ex
  exact He.str_ok X G (T.fact n h)
theorem Txt.cls (T : Txt K mg) (i : Nat) {x : Str} (h : fa[i]? = some (.cls x)) : Cls K (He.ga K x) := He.cls_ok (T.fact i h)
theorem Txt.noat (T : Txt K mg) (i : Nat) {x f : Str} (h : fa[i]? = some (.noat x f)) : NoAttr K (He.ga K x) f := He.noat_ok (T.fact i h)
theorem Txt.meth (T : Txt K mg) (i : Nat) {x m : Str} (h : fa[i]? = some (.meth x m)) : Meth K (He.ga K x) m (He.ma K (He.ga K x) m) := He.meth_ok (T.fact i h)
theorem Txt.mkr (T : Txt K mg) (i : Nat) {x : Str} (h : fa[i]? = some (.mkr x)) : Mk K (He.ga K x) (He.ma K (He.ga K x) "__init__") := He.mkr_ok (T.fact i h)
theorem Txt.fn_ (T : Txt K mg) (i : Nat) {d : He.DefD} (h : fn[i]? = some d) : ∃ fd, FunD K d.name d.qual d.params d.body d.scope (d.dvs K) (d.kws K) (He.fAd K d.at_) fd := by
  obtain ⟨_, _, _, c, _⟩ := T.ex
  exact He.SaysD.def_ (fa := fa) c i h
theorem Txt.res (T : Txt K mg) (H : Hp) : SqT K H (He.ga K "RESERVED") (resV.map (He.Dv.v K)) := by
  obtain ⟨_, _, _, _, c⟩ := T.ex
  exact He.tupB_ok (He.ba c).1 H
theorem Txt.kinds (T : Txt K mg) (H : Hp) : SqT K H (He.ga K "KINDS") (kindV.map (He.Dv.v K)) := by
  obtain ⟨_, _, _, _, c⟩ := T.ex
  exact He.tupB_ok (He.ba c).2 H
variable (P w K mg base)
/-- the module's def x keeps its promise -/
def OkG (k : Nat) (x : Str) (ps : List Str) (sp : Sp) : Prop := ∃ f fd, FnOk P w K mg base CX0 k f fd ps sp ∧ mg x = some (.ref f) ∧ PySem.W.keepIn K (.ref f) = true ∧ Binds K fd ps []
def OkM (k : Nat) (C m : Str) (ps : List Str) (sp : Sp) : Prop := ∃ f fd, FnOk P w K mg base CX0 k f fd ps sp ∧ Meth K (He.ga K C) m f ∧ Binds K fd ps []
def OkI (k : Nat) (C : Str) (ps : List Str) (sp : Sp) : Prop := ∃ f fd, FnOk P w K mg base CX0 k f fd ps sp ∧ Mk K (He.ga K C) f ∧ mg C = some (.ref (He.ga K C)) ∧ Binds K fd ps []
variable {P w K mg base}
theorem Txt.okG (T : Txt K mg) (i j : Nat) {d : He.DefD} {x : Str} {N ps : List Str} {k : Nat} {sp : Sp} (hi : fn[i]? = some d) (hj : fa[j]? = some (.glo x)) (S : FnScope N ps d.scope)
    (hb : ∀ (kV doc pm : Value) (an : Option Addr) (cdv ct : Value) (us : List Value), us.length = ps.length → bindArgs (PySem.W.fnOf d.name d.qual d.params d.body d.scope .none kV doc pm an cdv ct) ⟨us, []⟩ = pure (ps.zip us))
    (len : ∀ vs H Q E, sp vs H Q E → vs.length = ps.length)
    (hbody : ∀ (cdv : Value) (A : Around) (outer : List Env) (s : Shared) (H : Hp) (vs : List V) (Q : VK) (E : XK), Room k (A.deeper (envOfC d.qual d.scope s.heap.objs.size (He.ga K x) cdv)) → sp vs H Q E →
      ∃ t, PSs (cxOf CX0 P w K mg base N d.qual d.scope (He.ga K x) cdv A outer s H E) d.body t ∧ t { nx := fun _ H' => Q .non H', rt := Q } (start N vs) H)
    (hd : d.at_ = (x, none) ∧ d.dfl = [] ∧ d.kwd = [] := by exact ⟨rfl, rfl, rfl⟩) : OkG P w K mg base (k + 1) x ps sp := by
  obtain ⟨fd, F⟩ := T.fn_ i hi
  obtain ⟨e1, e2, e3⟩ := hd
  have F2 : FunD K d.name d.qual d.params d.body d.scope [] [] (He.ga K x) fd := by
    have q := F
    unfold He.DefD.dvs He.DefD.kws at q
    rw [e1, e2, e3] at q
    exact q
  exact ⟨_, fd, FunD.ok F2 S len hbody, T.glo j hj, F2.kp, F2.bindsN hb⟩
theorem Txt.okM (T : Txt K mg) (i j : Nat) {d : He.DefD} {x m : Str} {N ps : List Str} {k : Nat} {sp : Sp} (hi : fn[i]? = some d) (hj : fa[j]? = some (.meth x m)) (S : FnScope N ps d.scope)
    (hb : ∀ (kV doc pm : Value) (an : Option Addr) (cdv ct : Value) (us : List Value), us.length = ps.length → bindArgs (PySem.W.fnOf d.name d.qual d.params d.body d.scope .none kV doc pm an cdv ct) ⟨us, []⟩ = pure (ps.zip us))
    (len : ∀ vs H Q E, sp vs H Q E → vs.length = ps.length)
    (hbody : ∀ (cdv : Value) (A : Around) (outer : List Env) (s : Shared) (H : Hp) (vs : List V) (Q : VK) (E : XK), Room k (A.deeper (envOfC d.qual d.scope s.heap.objs.size (He.ma K (He.ga K x) m) cdv)) → sp vs H Q E →
      ∃ t, PSs (cxOf CX0 P w K mg base N d.qual d.scope (He.ma K (He.ga K x) m) cdv A outer s H E) d.body t ∧ t { nx := fun _ H' => Q .non H', rt := Q } (start N vs) H)
    (hd : d.at_ = (x, some m) ∧ d.dfl = [] ∧ d.kwd = [] := by exact ⟨rfl, rfl, rfl⟩) : OkM P w K mg base (k + 1) x m ps sp := by
  obtain ⟨fd, F⟩ := T.fn_ i hi
  obtain ⟨e1, e2, e3⟩ := hd
  have F2 : FunD K d.name d.qual d.params d.body d.scope [] [] (He.ma K (He.ga K x) m) fd := by
    have q := F
    unfold He.DefD.dvs He.DefD.kws at q
    rw [e1, e2, e3] at q
    exact q
  exact ⟨_, fd, FunD.ok F2 S len hbody, T.meth j hj, F2.bindsN hb⟩
theorem Txt.okI (T : Txt K mg) (i j l : Nat) {d : He.DefD} {x : Str} {N ps : List Str} {k : Nat} {sp : Sp} (hi : fn[i]? = some d) (hj : fa[j]? = some (.mkr x)) (hl : fa[l]? = some (.glo x)) (S : FnScope N ps d.scope)
    (hb : ∀ (kV doc pm : Value) (an : Option Addr) (cdv ct : Value) (us : List Value), us.length = ps.length → bindArgs (PySem.W.fnOf d.name d.qual d.params d.body d.scope .none kV doc pm an cdv ct) ⟨us, []⟩ = pure (ps.zip us))
    (len : ∀ vs H Q E, sp vs H Q E → vs.length = ps.length)
    (hbody : ∀ (cdv : Value) (A : Around) (outer : List Env) (s : Shared) (H : Hp) (vs : List V) (Q : VK) (E : XK), Room k (A.deeper (envOfC d.qual d.scope s.heap.objs.size (He.ma K (He.ga K x) "__init__") cdv)) → sp vs H Q E →
      ∃ t, PSs (cxOf CX0 P w K mg base N d.qual d.scope (He.ma K (He.ga K x) "__init__") cdv A outer s H E) d.body t ∧ t { nx := fun _ H' => Q .non H', rt := Q } (start N vs) H)
    (hd : d.at_ = (x, some ("__init__" : Str)) ∧ d.dfl = [] ∧ d.kwd = [] := by exact ⟨rfl, rfl, rfl⟩) : OkI P w K mg base (k + 1) x ps sp := by
  obtain ⟨fd, F⟩ := T.fn_ i hi
  obtain ⟨e1, e2, e3⟩ := hd
  have F2 : FunD K d.name d.qual d.params d.body d.scope [] [] (He.ma K (He.ga K x) "__init__") fd := by
    have q := F
    unfold He.DefD.dvs He.DefD.kws at q
    rw [e1, e2, e3] at q
    exact q
  exact ⟨_, fd, FunD.ok F2 S len hbody, T.mkr j hj, T.glo l hl, F2.bindsN hb⟩
end
section
variable {P : Program} {w : World} {K : PySem.W.Frag} {mg : Str → Option Value} {base : Heap}

def sp_is_letter : Sp := fun vs H Q _ => ∃ c : Nat, vs = [.str ⟨#[c]⟩] ∧ Q (.bl (isLetter c)) H
abbrev N_is_letter : List Str := ["char"]
theorem sc_is_letter : FnScope N_is_letter ["char"] (defScope s_is_letter) := ⟨rfl, rfl, rfl, by decide +kernel, rfl, by decide +kernel, by decide +kernel⟩
theorem ok_is_letter (T : Txt K mg) : OkG P w K mg base 1 "is_letter" ["char"] sp_is_letter := by
  obtain ⟨_, m_LETTERS⟩ := T.str 82 (x := "LETTERS") rfl
  refine T.okG 0 0 rfl rfl (d := d_is_letter) sc_is_letter (fun _ _ _ _ _ _ us hl => match us, hl with | [_], _ => rfl) (fun vs H Q E h => ?_) (fun cdv A outer s H vs Q E hr h => ?_)
  · obtain ⟨_, rfl, _⟩ := h
    rfl
  · refine ⟨_, PSs.nox (pss_one (ps_ret (pe_cmpR op_inS (pv 0) (pe_gS (by rfl) m_LETTERS) (by rfl)))), ?_⟩
    obtain ⟨c, rfl, k⟩ := h
    walk_at "go"
    exact k

def sp_is_digit : Sp := fun vs H Q _ => ∃ c : Nat, vs = [.str ⟨#[c]⟩] ∧ Q (.bl (isDigit c)) H
abbrev N_is_digit : List Str := ["char"]
theorem sc_is_digit : FnScope N_is_digit ["char"] (defScope s_is_digit) := ⟨rfl, rfl, rfl, by decide +kernel, rfl, by decide +kernel, by decide +kernel⟩
theorem ok_is_digit (T : Txt K mg) : OkG P w K mg base 1 "is_digit" ["char"] sp_is_digit := by
  obtain ⟨_, m_DIGITS⟩ := T.str 83 (x := "DIGITS") rfl
  refine T.okG 1 1 rfl rfl (d := d_is_digit) sc_is_digit (fun _ _ _ _ _ _ us hl => match us, hl with | [_], _ => rfl) (fun vs H Q E h => ?_) (fun cdv A outer s H vs Q E hr h => ?_)
  · obtain ⟨_, rfl, _⟩ := h
    rfl
  · refine ⟨_, PSs.nox (pss_one (ps_ret (pe_cmpR op_inS (pv 0) (pe_gS (by rfl) m_DIGITS) (by rfl)))), ?_⟩
    obtain ⟨c, rfl, k⟩ := h
    walk_at "go"
    exact k

def sp_is_blank : Sp := fun vs H Q _ => ∃ c : Nat, vs = [.str ⟨#[c]⟩] ∧ Q (.bl (isBlank c)) H
abbrev N_is_blank : List Str := ["char"]
theorem sc_is_blank : FnScope N_is_blank ["char"] (defScope s_is_blank) := ⟨rfl, rfl, rfl, by decide +kernel, rfl, by decide +kernel, by decide +kernel⟩
theorem ok_is_blank (T : Txt K mg) : OkG P w K mg base 1 "is_blank" ["char"] sp_is_blank := by
  refine T.okG 2 2 rfl rfl (d := d_is_blank) sc_is_blank (fun _ _ _ _ _ _ us hl => match us, hl with | [_], _ => rfl) (fun vs H Q E h => ?_) (fun cdv A outer s H vs Q E hr h => ?_)
  · obtain ⟨_, rfl, _⟩ := h
    rfl
  · refine ⟨_, PSs.nox (pss_one (ps_ret (pe_or (pe_cmpR op_eq (pv 0) pe_str (nomark _)) (pe_one (pe_cmpR op_eq (pv 0) pe_str (nomark _)))))), ?_⟩
    obtain ⟨c, rfl, k⟩ := h
    have e1 : decide (V.str ⟨#[c]⟩ = V.str " ") = (c == 32) := by
      rw [sp_str, Bool.beq_eq_decide_eq]
      exact decide_eq_decide.mpr one_iff
    have e2 : decide (V.str ⟨#[c]⟩ = V.str "\n") = (c == 10) := by
      rw [nl_str, Bool.beq_eq_decide_eq]
      exact decide_eq_decide.mpr one_iff
    walk_at "go"
    rw [e1]
    refine r_ite (fun h => ?_) (fun h => ?_)
    · have e : isBlank c = true := by unfold isBlank; rw [h]; rfl
      rw [← e]
      exact k
    · walk_at "go"
      have e : isBlank c = (c == 10) := by unfold isBlank; rw [h]; rfl
      rw [e2, ← e]
      exact k

def sp_is_of_kind : Sp := fun vs H Q _ => ∃ (c : Nat) (d : Kind), vs = [.str ⟨#[c]⟩, .str d.s] ∧ Q (.bl (d.fits c)) H
abbrev N_is_of_kind : List Str := ["char", "kind"]
theorem sc_is_of_kind : FnScope N_is_of_kind ["char", "kind"] (defScope s_is_of_kind) := ⟨rfl, rfl, rfl, by decide +kernel, rfl, by decide +kernel, by decide +kernel⟩
theorem ok_is_of_kind (T : Txt K mg) : OkG P w K mg base 2 "is_of_kind" ["char", "kind"] sp_is_of_kind := by
  obtain ⟨f_is_letter, fd_is_letter, G_is_letter, mg_is_letter, kp_is_letter, b_is_letter⟩ := ok_is_letter (P := P) (w := w) (base := base) T
  obtain ⟨f_is_digit, fd_is_digit, G_is_digit, mg_is_digit, kp_is_digit, b_is_digit⟩ := ok_is_digit (P := P) (w := w) (base := base) T
  refine T.okG 10 10 rfl rfl (d := d_is_of_kind) sc_is_of_kind (fun _ _ _ _ _ _ us hl => match us, hl with | [_, _], _ => rfl) (fun vs H Q E h => ?_) (fun cdv A outer s H vs Q E hr h => ?_)
  · obtain ⟨_, _, rfl, _⟩ := h
    rfl
  · refine ⟨_, PSs.nox (pss_cons (ps_if (pt_cmpR op_eq (pv 1) pe_str (nomark _))
        (pss_one (ps_ret (pe_call G_is_letter (hr.mono (by decide)) rfl mg_is_letter kp_is_letter b_is_letter .nil pass0 (pa_cons (pv 0) pa_nil))))
        pss_nil)
      (pss_cons (ps_if (pt_cmpR op_eq (pv 1) pe_str (nomark _))
        (pss_one (ps_ret (pe_call G_is_digit (hr.mono (by decide)) rfl mg_is_digit kp_is_digit b_is_digit .nil pass0 (pa_cons (pv 0) pa_nil))))
        pss_nil)
      (pss_one (ps_ret (pe_or (pe_cmpR op_eq (pv 1) pe_str (nomark _)) (pe_one (pe_cmpR op_eq (pv 0) (pv 1) (nomark _)))))))), ?_⟩
    obtain ⟨c, d, rfl, k⟩ := h
    walk_at "go"
    rw [Kind.is_letter]
    refine r_ite (fun h => ?_) (fun h => ?_)
    · walk_at "go"
      have e := of_decide_eq_true h
      subst e
      exact ⟨c, rfl, k⟩
    · walk_at "go"
      rw [Kind.is_digit]
      refine r_ite (fun h2 => ?_) (fun h2 => ?_)
      · walk_at "go"
        have e := of_decide_eq_true h2
        subst e
        exact ⟨c, rfl, k⟩
      · walk_at "go"
        have e := Kind.rest (c := c) (of_decide_eq_false h) (of_decide_eq_false h2)
        rw [Kind.is_any]
        refine r_ite (fun h3 => ?_) (fun h3 => ?_)
        · rw [h3, Bool.true_or] at e
          rw [e]
          exact k
        · walk_at "go"
          rw [h3, Bool.false_or] at e
          rw [e]
          exact k

def sp_run_length : Sp := fun vs H Q _ => ∃ (w : List Nat) (st : Nat) (d : Kind) (m : Nat), vs = [.str (S w), .int (st : Int), .str d.s, .int (m : Int)] ∧ st ≤ w.length ∧ w.length ≤ 16000000 ∧
  ∀ n : Nat, n ≤ m → st + n ≤ w.length → (∀ i, st ≤ i → i < st + n → Fit w d i) → (n = m ∨ ¬ Fit w d (st + n)) → Q (.int (n : Int)) H
abbrev N_run_length : List Str := ["word", "start", "kind", "most", "count"]
theorem sc_run_length : FnScope N_run_length ["word", "start", "kind", "most"] (defScope s_run_length) := ⟨rfl, rfl, rfl, by decide +kernel, rfl, by decide +kernel, by decide +kernel⟩
theorem ok_run_length (T : Txt K mg) : OkG P w K mg base 3 "_run_length" ["word", "start", "kind", "most"] sp_run_length := by
  have m_len : mg "len" = none := T.free 68 rfl
  obtain ⟨f_is_of_kind, fd_is_of_kind, G_is_of_kind, mg_is_of_kind, kp_is_of_kind, b_is_of_kind⟩ := ok_is_of_kind (P := P) (w := w) (base := base) T
  refine T.okG 11 11 rfl rfl (d := d_run_length) sc_run_length (fun _ _ _ _ _ _ us hl => match us, hl with | [_, _, _, _], _ => rfl) (fun vs H Q E h => ?_) (fun cdv A outer s H vs Q E hr h => ?_)
  · obtain ⟨_, _, _, _, rfl, _⟩ := h
    rfl
  · refine ⟨_, PSs.nox (pss_cons (ps_set (i := 4) sc_run_length.nd rfl (Or.inl rfl) pe_int)
      (pss_cons (ps_while PassesOwn.never (PW.pt (pw_and (pt_cmpR op_lt (pv 4) (pv 3) (nomark _)) (pw_and (pt_cmpR op_lt (pe_op op_add (pv 1) (pv 4)) (pe_callB cr_lenS (by rfl) m_len PySem.boot_len (pa_cons (pv 0) pa_nil)) (nomark _)) (pw_and1 (pt_val (pe_call G_is_of_kind (hr.mono (by decide)) rfl mg_is_of_kind kp_is_of_kind b_is_of_kind .nil pass0 (pa_cons (pe_ix ix_str (pv 0) (pe_op op_add (pv 1) (pv 4)) (fun _ _ => rfl)) (pa_cons (pv 2) pa_nil))))))))
        (pss_one (ps_aug (i := 4) sc_run_length.nd rfl (Or.inl rfl) pe_int ip_add)))
      (pss_one (ps_ret (pv 4))))), ?_⟩
    obtain ⟨w, st, d, m, rfl, h1, h2, k⟩ := h
    walk_at "go"
    refine loopW (fun z σ' H' => ∃ n : Nat, z = m - n ∧ n ≤ m ∧ st + n ≤ w.length ∧ (∀ i, st ≤ i → i < st + n → Fit w d i) ∧ H' = H ∧
      σ' = [some (.str (S w)), some (.int (st : Int)), some (.str d.s), some (.int (m : Int)), some (.int (n : Int))]) m ⟨0, by omega, by omega, by omega, fun i a b => by omega, rfl, rfl⟩ ?_
    rintro z σ' H' ⟨n, rfl, hn, hs, hf, rfl, rfl⟩
    walk_at "go"
    refine r_ite (fun c1 => ?_) (fun c1 => ?_)
    · have c1 := of_decide_eq_true c1
      walk_at "go"
      refine r_ite (fun c2 => ?_) (fun c2 => ?_)
      · have c2 := of_decide_eq_true c2
        walk_at "go"
        have hl : st + n < w.length := by omega
        refine r_ixSS (n := st + n) (by omega) (by omega) (List.getElem?_eq_getElem hl) ?_
        walk_at "go"
        refine ⟨_, d, rfl, ?_⟩
        walk_at "go"
        refine r_ite (fun c3 => ?_) (fun c3 => ?_)
        · refine r_whN ?_
          walk_at "go"
          refine ⟨m - (n + 1), by omega, n + 1, rfl, by omega, by omega, fun i a b => ?_, rfl, rfl⟩
          by_cases e : i = st + n
          · subst e
            exact ⟨_, List.getElem?_eq_getElem hl, c3⟩
          · exact hf i a (by omega)
        · walk_at "go"
          refine k n hn hs hf (.inr fun ⟨c, e1, e2⟩ => ?_)
          rw [List.getElem?_eq_getElem hl] at e1
          cases e1
          rw [c3] at e2
          cases e2
      · have c2 := of_decide_eq_false c2
        walk_at "go"
        refine k n hn hs hf (.inr fun ⟨c, e1, e2⟩ => ?_)
        rw [List.getElem?_eq_none (by omega)] at e1
        cases e1
    · have c1 := of_decide_eq_false c1
      walk_at "go"
      exact k n hn hs hf (.inl (by omega))

def sp_ends : Sp := fun vs H Q _ => ∃ (F : Hp) (w : List Nat) (a : Addr) (bs : List Bool) (v : V) (e : Elem), vs = [.str (S w), .ref a, v] ∧ Same F H ∧ F a = some (.lst (bs.map V.bl)) ∧ bs.length = w.length + 1 ∧ Rp F v (encE e) ∧
  w.length ≤ 1000000 ∧ e.2.1 ≤ 1000000 ∧ ∀ (bs' : List Bool) (p : Addr) (F' H' : Hp), Grow [] F H F' H' → F' p = some (.lst (bs'.map V.bl)) → bs'.length = w.length + 1 →
    (∀ j, bs'[j]? = some true ↔ step w e (fun s => bs[s]? = some true) j) → Q (.ref p) H'
abbrev N_ends : List Str := ["word", "starts", "element", "kind", "least", "most", "ends", "start", "count", "end"]
theorem sc_ends : FnScope N_ends ["word", "starts", "element"] (defScope s_ends) := ⟨rfl, rfl, rfl, by decide +kernel, rfl, by decide +kernel, by decide +kernel⟩
theorem ok_ends (T : Txt K mg) : OkG P w K mg base 4 "_ends" ["word", "starts", "element"] sp_ends := by
  have m_len : mg "len" = none := T.free 68 rfl
  have m_range : mg "range" = none := T.free 70 rfl
  obtain ⟨f_run_length, fd_run_length, G_run_length, mg_run_length, kp_run_length, b_run_length⟩ := ok_run_length (P := P) (w := w) (base := base) T
  refine T.okG 12 12 rfl rfl (d := d_ends) sc_ends (fun _ _ _ _ _ _ us hl => match us, hl with | [_, _, _], _ => rfl) (fun vs H Q E h => ?_) (fun cdv A outer s H vs Q E hr h => ?_)
  · obtain ⟨_, _, _, _, _, _, rfl, _⟩ := h
    rfl
  · refine ⟨_, PSs.nox (pss_cons (ps_asg (pv 2) (pg_tup (by rfl) (pgs_cons (pg_name (i := 3) sc_ends.nd rfl (Or.inl rfl)) (pgs_cons (pg_name (i := 4) sc_ends.nd rfl (Or.inl rfl)) (pgs_cons (pg_name (i := 5) sc_ends.nd rfl (Or.inl rfl)) pgs_nil)))))
      (pss_cons (ps_set (i := 6) sc_ends.nd rfl (Or.inl rfl) (pe_op op_rep (pe_lst (pa_cons pe_bl pa_nil)) (pe_op op_add (pe_callB cr_lenS (by rfl) m_len PySem.boot_len (pa_cons (pv 0) pa_nil)) pe_int)))
      (pss_cons (ps_for PassesOwn.never rfl (pi_range1 (by rfl) m_range (pa_cons (pe_op op_add (pe_callB cr_lenS (by rfl) m_len PySem.boot_len (pa_cons (pv 0) pa_nil)) pe_int) pa_nil)) (pg_name (i := 7) sc_ends.nd rfl (Or.inl rfl))
        (pss_one (ps_if (pt_val (pe_ix ix_list (pv 1) (pv 7) (fun _ _ => rfl)))
          (pss_cons (ps_set (i := 8) sc_ends.nd rfl (Or.inl rfl) (pe_call G_run_length (hr.mono (by decide)) rfl mg_run_length kp_run_length b_run_length .nil pass0 (pa_cons (pv 0) (pa_cons (pv 7) (pa_cons (pv 3) (pa_cons (pv 5) pa_nil))))))
          (pss_one (ps_for PassesOwn.never rfl (pi_range2 (by rfl) m_range (pa_cons (pe_op op_add (pv 7) (pv 4)) (pa_cons (pe_op op_add (pe_op op_add (pv 7) (pv 8)) pe_int) pa_nil))) (pg_name (i := 9) sc_ends.nd rfl (Or.inl rfl))
            (pss_one (ps_asg pe_bl (pg_sub (pv 6) (pv 9) set_list))))))
          pss_nil)))
      (pss_one (ps_ret (pv 6)))))), ?_⟩
    obtain ⟨F, w, a, bs, v, e, rfl, ok, ha, hbl, hv, h1, h2, k⟩ := h
    obtain ⟨ae, rfl, hae⟩ := encE_inv hv
    walk_at "go"
    refine k_new ok fun p1 F1 H1 g1 hp1 np1 => ?_
    walk_at "go"
    refine r_rep1 (n := w.length + 1) (Grow.fh g1 _ _ hp1) (by omega) (by omega) (k_mu g1.fh fun p F2 H2 g2 hp np => ?_)
    have np0 : H p = none := Grow.back0 g1 np
    walk_at "ss"
    walk_at "go"
    refine r_rng1E (n := w.length + 1) (by omega) (by omega) ?_
    refine loopR0 (fun i σ' H' => ∃ (F' : Hp) (bs' : List Bool) (x y z : Option V), Grow [] F H F' H' ∧ Mu F' H' p (.lst (bs'.map V.bl)) ∧ bs'.length = w.length + 1 ∧
      (∀ j, bs'[j]? = some true ↔ step w e (fun s => s < i ∧ bs[s]? = some true) j) ∧
      σ' = [some (.str (S w)), some (.ref a), some (.ref ae), some (.str e.1.s), some (.int (e.2.1 : Int)), some (.int (e.2.2 : Int)), some (.ref p), x, y, z])
      ⟨F2, List.replicate (w.length + 1) false, none, none, none, by walk_at "chain", by rw [List.map_replicate]; exact hp, List.length_replicate, fun j => ?_, rfl⟩ ?_ ?_
    · constructor
      · intro q
        rw [List.getElem?_replicate] at q
        split at q
        · cases q
        · cases q
      · exact fun q => (step_none q).elim
    · rintro i σ' H3 hi ⟨F3, bs3, x, y, z, G3, m3, l3, f3, rfl⟩
      have okL := G3.fh
      have hb : i < bs.length := by omega
      walk_at "go"
      walk_at "ss"
      walk_at "go"
      refine r_ixL (n := i) (xs := bs.map V.bl) (v := .bl bs[i]) (by walk_at "up") rfl (by rw [List.getElem?_map, List.getElem?_eq_getElem hb]; rfl) ?_
      walk_at "go"
      refine r_ite (fun c => ?_) (fun c => ?_)
      · have hbi : bs[i]? = some true := by rw [List.getElem?_eq_getElem hb, c]
        walk_at "go"
        refine ⟨w, i, e.1, e.2.2, rfl, by omega, by omega, fun n n1 n2 n3 n4 => ?_⟩
        walk_at "ss"
        walk_at "go"
        refine r_rng2E (lo := i + e.2.1) (hi := i + n + 1) (by omega) (by omega) (by omega) (by omega) ?_
        refine loopR (fun t σ' H' => ∃ (F' : Hp) (bs' : List Bool) (z : Option V), Grow [] F H F' H' ∧ Mu F' H' p (.lst (bs'.map V.bl)) ∧ bs'.length = w.length + 1 ∧
          (∀ j, bs'[j]? = some true ↔ (step w e (fun s => s < i ∧ bs[s]? = some true) j ∨ (i + e.2.1 ≤ j ∧ j < i + e.2.1 + t))) ∧
          σ' = [some (.str (S w)), some (.ref a), some (.ref ae), some (.str e.1.s), some (.int (e.2.1 : Int)), some (.int (e.2.2 : Int)), some (.ref p), some (.int (i : Int)), some (.int (n : Int)), z])
          ⟨F3, bs3, z, G3, m3, l3, fun j => ?_, rfl⟩ ?_ ?_
        · rw [f3]
          exact ⟨.inl, fun q => q.elim id fun q => absurd q (by omega)⟩
        · rintro t σ' H4 ht ⟨F4, bs4, z4, G4, m4, l4, f4, rfl⟩
          walk_at "go"
          walk_at "ss"
          walk_at "go"
          have hlt : i + e.2.1 + t < bs4.length := by omega
          refine r_setL (j := i + e.2.1 + t) m4.1 (by rw [List.length_map, show ((i + e.2.1 : Nat) : Int) + (t : Int) = ((i + e.2.1 + t : Nat) : Int) by omega]; exact ixN_nat hlt) (k_wr G4.fh m4 fun F5 H5 g5 m5 => ?_)
          refine ⟨F5, bs4.set (i + e.2.1 + t) true, _, by walk_at "chain", by rw [List.map_set]; exact m5, by rw [List.length_set]; exact l4, fun j => ?_, rfl⟩
          rw [set_true hlt, f4]
          constructor
          · rintro ((q | q) | q)
            · exact .inl q
            · exact .inr (by omega)
            · exact .inr (by omega)
          · rintro (q | q)
            · exact .inl (.inl q)
            · by_cases e1 : j = i + e.2.1 + t
              · exact .inr e1
              · exact .inl (.inr (by omega))
        · rintro σ' H4 ⟨F4, bs4, z4, G4, m4, l4, f4, rfl⟩
          refine ⟨F4, bs4, _, _, _, G4, m4, l4, fun j => ?_, rfl⟩
          rw [f4, step_succ n1 n2 n3 n4 hbi]
          constructor
          · rintro (q | q)
            · exact .inl q
            · exact .inr (by omega)
          · rintro (q | q)
            · exact .inl q
            · exact .inr (by omega)
      · have hbi : ¬ bs[i]? = some true := by rw [List.getElem?_eq_getElem hb, c]; decide
        walk_at "go"
        exact ⟨F3, bs3, _, _, _, G3, m3, l3, fun j => by rw [f3, step_skip hbi], rfl⟩
    · rintro σ' H3 ⟨F3, bs3, x, y, z, G3, m3, l3, f3, rfl⟩
      walk_at "go"
      refine k_fz G3.fh m3 fun F4 g4 hp4 => ?_
      refine k bs3 p F4 H3 (by walk_at "chain") hp4 l3 fun j => ?_
      rw [f3]
      exact step_congr fun s hs => ⟨fun q => q.2, fun q => ⟨by omega, q⟩⟩

def ShOk (sh : Shape) : Prop := ∀ e ∈ sh, e.2.1 ≤ 1000000
def sp_has_shape : Sp := fun vs H Q _ => ∃ (F : Hp) (w : List Nat) (v : V) (sh : Shape), vs = [.str (S w), v] ∧ Same F H ∧ Rp F v (encSh sh) ∧ w.length ≤ 1000000 ∧ ShOk sh ∧
  ∀ (F' H' : Hp), Grow [] F H F' H' → Q (.bl (has w sh)) H'
abbrev N_has_shape : List Str := ["word", "shape", "reached", "element"]
theorem sc_has_shape : FnScope N_has_shape ["word", "shape"] (defScope s_has_shape) := ⟨rfl, rfl, rfl, by decide +kernel, rfl, by decide +kernel, by decide +kernel⟩
theorem ok_has_shape (T : Txt K mg) : OkG P w K mg base 5 "has_shape" ["word", "shape"] sp_has_shape := by
  have m_len : mg "len" = none := T.free 68 rfl
  obtain ⟨f_ends, fd_ends, G_ends, mg_ends, kp_ends, b_ends⟩ := ok_ends (P := P) (w := w) (base := base) T
  refine T.okG 13 13 rfl rfl (d := d_has_shape) sc_has_shape (fun _ _ _ _ _ _ us hl => match us, hl with | [_, _], _ => rfl) (fun vs H Q E h => ?_) (fun cdv A outer s H vs Q E hr h => ?_)
  · obtain ⟨_, _, _, _, rfl, _⟩ := h
    rfl
  · refine ⟨_, PSs.nox (pss_cons (ps_set (i := 2) sc_has_shape.nd rfl (Or.inl rfl) (pe_op op_cat (pe_lst (pa_cons pe_bl pa_nil)) (pe_op op_rep (pe_lst (pa_cons pe_bl pa_nil)) (pe_callB cr_lenS (by rfl) m_len PySem.boot_len (pa_cons (pv 0) pa_nil)))))
      (pss_cons (ps_for PassesOwn.never rfl (pi_list (pv 1)) (pg_name (i := 3) sc_has_shape.nd rfl (Or.inl rfl))
        (pss_one (ps_set (i := 2) sc_has_shape.nd rfl (Or.inl rfl) (pe_call G_ends (hr.mono (by decide)) rfl mg_ends kp_ends b_ends .nil pass0 (pa_cons (pv 0) (pa_cons (pv 2) (pa_cons (pv 3) pa_nil)))))))
      (pss_one (ps_ret (pe_ix ix_list (pv 2) (pe_callB cr_lenS (by rfl) m_len PySem.boot_len (pa_cons (pv 0) pa_nil)) (fun _ _ => rfl)))))), ?_⟩
    obtain ⟨F, w, v, sh, rfl, ok, hv, h1, h2, k⟩ := h
    obtain ⟨a, xs, rfl, ha, hr⟩ := hv.lst_inv
    walk_at "go"
    refine k_new ok fun p1 F1 H1 g1 hp1 np1 => ?_
    walk_at "go"
    refine k_new g1.fh fun p2 F2 H2 g2 hp2 np2 => ?_
    walk_at "go"
    refine r_rep1 (n := w.length) (g2.fh _ _ hp2) rfl (by omega) (k_new g2.fh fun p3 F3 H3 g3 hp3 np3 => ?_)
    refine r_cat (g3.fh _ _ (by walk_at "up")) (g3.fh _ _ hp3) (by rw [List.length_replicate]; show 1 + _ ≤ _; omega) (k_new g3.fh fun p F4 H4 g4 hp np => ?_)
    walk_at "ss"
    walk_at "go"
    refine r_itL (by walk_at "up") ?_
    refine loopL (xs := xs) (fun i σ' H' => ∃ (F' : Hp) (q : Addr) (bs : List Bool) (y : Option V), Grow [] F H F' H' ∧ F' q = some (.lst (bs.map V.bl)) ∧ bs.length = w.length + 1 ∧
      (∀ j, bs[j]? = some true ↔ Rch w (sh.take i) j) ∧ σ' = [some (.str (S w)), some (.ref a), some (.ref q), y])
      ⟨F4, p, true :: List.replicate w.length false, none, by walk_at "chain", by rw [hp, List.map_cons, List.map_replicate]; rfl, by rw [List.length_cons, List.length_replicate], fun j => ?_, rfl⟩
      (fun i σ' H' _ ⟨F', _, _, _, G, _⟩ => sql_fz G.fh (G.at ha)) ?_ ?_
    · cases j with
      | zero => exact ⟨fun _ => rfl, fun _ => rfl⟩
      | succ j =>
        constructor
        · intro q
          rw [List.getElem?_cons_succ, List.getElem?_replicate] at q
          split at q
          · cases q
          · cases q
        · exact fun q => absurd (show j + 1 = 0 from q) (by omega)
    · rintro i x σ' H' hx ⟨F5, q, bs, y, G, hq, lb, fb, rfl⟩
      obtain ⟨e, he, re⟩ := (G.rps hr).get_map hx
      have okL := G.fh
      walk_at "go"
      walk_at "ss"
      walk_at "go"
      refine ⟨F5, w, q, bs, x, e, rfl, G.fh, hq, lb, re, h1, h2 e (List.mem_of_getElem? he), fun bs' p' F6 H6 g6 hp' lb' fb' => ?_⟩
      refine ⟨F6, p', bs', _, G.comp g6 side_nil, hp', lb', fun j => ?_, rfl⟩
      rw [fb', Rch_more he]
      exact step_congr fun s _ => fb s
    · rintro σ' H' ⟨F5, q, bs, y, G, hq, lb, fb, rfl⟩
      rw [hr.len_map, List.take_length] at fb
      have okL := G.fh
      walk_at "go"
      have hl : w.length < bs.length := by omega
      refine r_ixL (n := w.length) (xs := bs.map V.bl) (v := .bl bs[w.length]) (by walk_at "up") rfl (by rw [List.getElem?_map, List.getElem?_eq_getElem hl]; rfl) ?_
      have e : bs[w.length] = has w sh := by
        have z := fb w.length
        rw [List.getElem?_eq_getElem hl, ← has_iff] at z
        exact Bool.eq_iff_iff.mpr ⟨fun q => z.mp (congrArg some q), fun q => Option.some.inj (z.mpr q)⟩
      rw [e]
      exact k F5 H' G

def ShsOk (l : List Shape) : Prop := ∀ sh ∈ l, ShOk sh
def sp_has_any_shape : Sp := fun vs H Q _ => ∃ (F : Hp) (w : List Nat) (v : V) (l : List Shape), vs = [.str (S w), v] ∧ Same F H ∧ Rp F v (encShs l) ∧ w.length ≤ 1000000 ∧ ShsOk l ∧
  ∀ (F' H' : Hp), Grow [] F H F' H' → Q (.bl (hasAny w l)) H'
abbrev N_has_any_shape : List Str := ["word", "shapes", "shape"]
theorem sc_has_any_shape : FnScope N_has_any_shape ["word", "shapes"] (defScope s_has_any_shape) := ⟨rfl, rfl, rfl, by decide +kernel, rfl, by decide +kernel, by decide +kernel⟩
theorem ok_has_any_shape (T : Txt K mg) : OkG P w K mg base 6 "has_any_shape" ["word", "shapes"] sp_has_any_shape := by
  obtain ⟨f_has_shape, fd_has_shape, G_has_shape, mg_has_shape, kp_has_shape, b_has_shape⟩ := ok_has_shape (P := P) (w := w) (base := base) T
  refine T.okG 14 14 rfl rfl (d := d_has_any_shape) sc_has_any_shape (fun _ _ _ _ _ _ us hl => match us, hl with | [_, _], _ => rfl) (fun vs H Q E h => ?_) (fun cdv A outer s H vs Q E hr h => ?_)
  · obtain ⟨_, _, _, _, rfl, _⟩ := h
    rfl
  · refine ⟨_, PSs.nox (pss_cons (ps_for PassesOwn.never rfl (pi_list (pv 1)) (pg_name (i := 2) sc_has_any_shape.nd rfl (Or.inl rfl))
        (pss_one (ps_if (pt_val (pe_call G_has_shape (hr.mono (by decide)) rfl mg_has_shape kp_has_shape b_has_shape .nil pass0 (pa_cons (pv 0) (pa_cons (pv 2) pa_nil))))
          (pss_one (ps_ret pe_bl))
          pss_nil)))
      (pss_one (ps_ret pe_bl))), ?_⟩
    obtain ⟨F, w, v, l, rfl, ok, hv, h1, h2, k⟩ := h
    obtain ⟨a, xs, rfl, ha, hr⟩ := hv.lst_inv
    walk_at "go"
    refine r_itL (sql_fz ok ha) ?_
    refine loopL (xs := xs) (fun i σ' H' => ∃ (F' : Hp) (y : Option V), Grow [] F H F' H' ∧ (l.take i).any (has w) = false ∧ σ' = [some (.str (S w)), some (.ref a), y])
      ⟨F, none, Grow.refl ok, rfl, rfl⟩ (fun i σ' H' _ ⟨F', _, G, _⟩ => sql_fz G.fh (G.at ha)) ?_ ?_
    · rintro i x σ' H' hx ⟨F5, y, G, f, rfl⟩
      obtain ⟨e, he, re⟩ := (G.rps hr).get_map hx
      walk_at "go"
      walk_at "ss"
      walk_at "go"
      refine ⟨F5, w, x, e, rfl, G.fh, re, h1, h2 e (List.mem_of_getElem? he), fun F6 H6 g6 => ?_⟩
      walk_at "go"
      refine r_ite (fun c => ?_) (fun c => ?_)
      · walk_at "go"
        have z : hasAny w l = true := List.any_eq_true.mpr ⟨e, List.mem_of_getElem? he, c⟩
        rw [← z]
        exact k F6 H6 (G.comp g6 side_nil)
      · walk_at "go"
        exact ⟨F6, _, G.comp g6 side_nil, by rw [all_take he, f, c]; rfl, rfl⟩
    · rintro σ' H' ⟨F5, y, G, f, rfl⟩
      rw [hr.len_map, List.take_length] at f
      walk_at "go"
      have z : hasAny w l = false := f
      rw [← z]
      exact k F5 H' G

end
section
variable {P : Program} {w : World} {K : PySem.W.Frag} {mg : Str → Option Value} {base : Heap}

def ChOk (cs : List Chg) : Prop := cs.length ≤ 1000 ∧ ∀ c ∈ cs, c.2.length ≤ 100
def sp_change_text : Sp := fun vs H Q _ => ∃ (F : Hp) (t : List Nat) (v : V) (cs : List Chg), vs = [.str (S t), v] ∧ Same F H ∧ Rp F v (encCs cs) ∧ t.length ≤ 10000 ∧ ChOk cs ∧
  ∀ (v' : V) (F' H' : Hp), Grow [] F H F' H' → Rp F' v' (encCIs (chg cs 0 t)) → Q v' H'
abbrev N_change_text : List Str := ["text", "changes", "table", "char", "replacement", "changed", "index"]
theorem sc_change_text : FnScope N_change_text ["text", "changes"] (defScope s_change_text) := ⟨rfl, rfl, rfl, by decide +kernel, rfl, by decide +kernel, by decide +kernel⟩
theorem ok_change_text (T : Txt K mg) : OkG P w K mg base 1 "change_text" ["text", "changes"] sp_change_text := by
  have m_len : mg "len" = none := T.free 68 rfl
  have m_range : mg "range" = none := T.free 70 rfl
  refine T.okG 15 15 rfl rfl (d := d_change_text) sc_change_text (fun _ _ _ _ _ _ us hl => match us, hl with | [_, _], _ => rfl) (fun vs H Q E h => ?_) (fun cdv A outer s H vs Q E hr h => ?_)
  · obtain ⟨_, _, _, _, rfl, _⟩ := h
    rfl
  · have hu := hu_of hr
    refine ⟨_, PSs.nox (pss_cons (ps_set (i := 2) sc_change_text.nd rfl (Or.inl rfl) pe_dnewK)
      (pss_cons (ps_for PassesOwn.never rfl (pi_list (pv 1)) (pg_tup (by rfl) (pgs_cons (pg_name (i := 3) sc_change_text.nd rfl (Or.inl rfl)) (pgs_cons (pg_name (i := 4) sc_change_text.nd rfl (Or.inl rfl)) pgs_nil)))
        (pss_one (ps_if (pt_cmp (pc_dnotin hu (pv 3) (pv 2)))
          (pss_one (ps_dput hu (pv 2) (pv 3) (pv 4) rfl))
          pss_nil)))
      (pss_cons (ps_set (i := 5) sc_change_text.nd rfl (Or.inl rfl) (pe_lst pa_nil))
      (pss_cons (ps_for PassesOwn.never rfl (pi_range1 (by rfl) m_range (pa_cons (pe_callB cr_lenS (by rfl) m_len PySem.boot_len (pa_cons (pv 0) pa_nil)) pa_nil)) (pg_name (i := 6) sc_change_text.nd rfl (Or.inl rfl))
        (pss_one (ps_for PassesOwn.never rfl (pi_str (pe_dget2 hu (pv 2) (pe_ix ix_str (pv 0) (pv 6) (fun _ _ => rfl)) (pe_ix ix_str (pv 0) (pv 6) (fun _ _ => rfl)) ⟨rfl, rfl, rfl, rfl⟩)) (pg_name (i := 3) sc_change_text.nd rfl (Or.inl rfl))
          (pss_one (ps_expr (pe_bm PySem.F.plainAttrs_list PySem.F.slot_list_append PySem.F.type_list_append mt_append (pv 5) (pa_cons (pe_tup (pa_cons (pv 3) (pa_cons (pv 6) pa_nil))) pa_nil)))))))
      (pss_one (ps_ret (pv 5))))))), ?_⟩
    obtain ⟨F, t, v, cs, rfl, ok, hv, h1, h2, k⟩ := h
    obtain ⟨a, xs, rfl, ha, hr⟩ := hv.lst_inv
    walk_at "go"
    refine k_mu ok fun tb F1 H1 g1 hp1 np1 => ?_
    walk_at "go"
    walk_at "ss"
    refine r_itL (by walk_at "up") ?_
    refine loopL (xs := xs) (fun i σ' H' => ∃ (F' : Hp) (kvs : List (Key × V)) (y z : Option V), Grow [] F H F' H' ∧ Mu F' H' tb (.dK kvs) ∧ kvs.length ≤ i ∧
      (∀ k : Nat, valV kvs (Sum.inr (S [k])) = ((cs.take i).find? fun x => decide (x.1 = k)).map fun x => V.str (S x.2)) ∧ σ' = [some (.str (S t)), some (.ref a), some (.ref tb), y, z, none, none])
      ⟨F1, [], none, none, g1, hp1, Nat.le_refl _, fun _ => rfl, rfl⟩ (fun i σ' H' _ ⟨F', _, _, _, G, _⟩ => sql_fz G.fh (G.at ha)) ?_ ?_
    · rintro i x σ' H2 hx ⟨F2, kvs, y, z, G, m, lk, fk, rfl⟩
      obtain ⟨e, he, re⟩ := (G.rps hr).get_map hx
      obtain ⟨ae, rfl, hae⟩ := encC_inv re
      have okL := G.fh
      have hi : i < cs.length := (List.getElem?_eq_some_iff.mp he).1
      walk_at "go"
      walk_at "ss"
      walk_at "go"
      refine ⟨_, _, rfl, DGet.k (k := Sum.inr (S [e.1])) m.1, ?_⟩
      walk_at "go"
      have fe := fk e.1
      refine r_ite (fun c => ?_) (fun c => ?_)
      · walk_at "go"
        have hn : valV kvs (Sum.inr (S [e.1])) = none := by
          cases q : valV kvs (Sum.inr (S [e.1])) with
          | none => rfl
          | some y =>
            rw [q] at c
            cases c
        have g := mu_wr (u := .dK (putK kvs (Sum.inr (S [e.1])) (.str (S e.2)))) G.fh m
        refine ⟨_, _, rfl, DPut.k (k := Sum.inr (S [e.1])) m.1 (sz_lt (by have := h2.1; omega)), ?_⟩
        refine ⟨F2, _, _, _, G.comp g (side_one (.inr np1)), ⟨upd_same, m.2⟩, ?_, fun k => ?_, rfl⟩
        · rw [putK_new _ hn, List.length_append, List.length_singleton]
          omega
        · rw [valV_put, find_more he]
          rw [hn] at fe
          by_cases q : k = e.1
          · subst q
            rw [if_pos rfl, if_pos (by simp)]
            cases z : (cs.take i).find? fun x => decide (x.1 = e.1) with
            | none => rfl
            | some y =>
              rw [z] at fe
              cases fe
          · rw [if_neg (fun z => q (by have := S_inj (Sum.inr.inj z); exact (List.cons.inj this).1)), if_neg (by simp; exact fun z => q z.symm), Option.or_none]
            exact fk k
      · walk_at "go"
        refine ⟨F2, kvs, _, _, G, m, by omega, fun k => ?_, rfl⟩
        rw [find_more he, fk k]
        by_cases q : e.1 = k
        · subst q
          cases z : (cs.take i).find? fun x => decide (x.1 = e.1) with
          | none =>
            rw [z] at fe
            rw [fe] at c
            cases c
          | some y => rfl
        · rw [if_neg (by simpa using q), Option.or_none]
    · rintro σ' H2 ⟨F2, kvs, y, z, G, m, lk, fk, rfl⟩
      rw [hr.len_map, List.take_length] at fk
      have okL := G.fh
      walk_at "go"
      refine k_mu okL fun ch F3 H3 g3 hp3 np3 => ?_
      have m3 := g3.mu nil_not m
      have ntc : tb ≠ ch := m.ne np3
      have nc0 : H ch = none := G.back0 np3
      walk_at "go"
      walk_at "ss"
      refine r_rng1E (n := t.length) rfl (by omega) ?_
      refine loopR0 (fun i σ' H' => ∃ (F' : Hp) (us : List V) (y z u : Option V), Grow [] F H F' H' ∧ Mu F' H' tb (.dK kvs) ∧ Mu F' H' ch (.lst us) ∧ Rps F' us ((chg cs 0 (t.take i)).map encCI) ∧
        σ' = [some (.str (S t)), some (.ref a), some (.ref tb), y, z, some (.ref ch), u]) ⟨F3, [], _, _, _, G.comp g3 side_nil, m3, hp3, .nil, rfl⟩ ?_ ?_
      · rintro i σ' H4 hi ⟨F4, us, y4, z4, u4, G4, m4, c4, r4, rfl⟩
        walk_at "go"
        walk_at "ss"
        walk_at "go"
        refine ⟨_, rfl, .inl ⟨kvs, .inl m4.1⟩, ?_⟩
        have hti : t[i]? = some t[i] := List.getElem?_eq_getElem hi
        walk_at "go"
        refine r_ixSS (n := i) (by omega) rfl hti ?_
        walk_at "go"
        refine r_ixSS (n := i) (by omega) rfl hti ?_
        refine ⟨_, DGet.k (k := Sum.inr (S [t[i]])) m4.1, ?_⟩
        have ev : (valV kvs (Sum.inr (S [t[i]]))).getD (.str ⟨#[t[i]]⟩) = .str (S (lookC cs t[i])) := by
          rw [fk]
          unfold lookC
          cases cs.find? fun x => decide (x.1 = t[i]) <;> rfl
        rw [ev]
        walk_at "go"
        have ll := lookC_len (b := 100) (by decide) h2.2 t[i]
        have lc := chg_len (b := 100) (by decide) h2.2 0 (t.take i)
        rw [List.length_take] at lc
        refine loopS (fun j σ' H' => ∃ (F' : Hp) (us : List V) (y : Option V), Grow [] F H F' H' ∧ Mu F' H' tb (.dK kvs) ∧ Mu F' H' ch (.lst us) ∧ Rps F' us ((chg cs 0 (t.take i) ++ ((lookC cs t[i]).take j).map fun x => (x, i)).map encCI) ∧
          σ' = [some (.str (S t)), some (.ref a), some (.ref tb), y, z4, some (.ref ch), some (.int (i : Int))]) ⟨F4, us, _, G4, m4, c4, by rw [List.take_zero, List.map_nil, List.append_nil]; exact r4, rfl⟩ ?_ ?_
        · rintro j c σ' H5 hc ⟨F5, us5, y5, G5, m5, c5, r5, rfl⟩
          have okL := G5.fh
          have hc : (lookC cs t[i])[j]? = some c := hc
          have hj : j < (lookC cs t[i]).length := (List.getElem?_eq_some_iff.mp hc).1
          walk_at "go"
          walk_at "ss"
          walk_at "go"
          refine k_new okL fun p F6 H6 g6 hp6 np6 => ?_
          walk_at "go"
          have m6 := g6.mu nil_not m5
          have c6 := g6.mu nil_not c5
          refine r_append c6.1 ?_ (k_wr g6.fh c6 fun F7 H7 g7 c7 => ?_)
          · have e := r5.length
            rw [List.length_map, List.length_append, List.length_map, List.length_take] at e
            omega
          · refine ⟨F7, _, _, (G5.comp g6 side_nil).comp g7 (side_one (.inr nc0)), g7.mu (one_not ntc) m6, c7, ?_, rfl⟩
            have e : chg cs 0 (t.take i) ++ ((lookC cs t[i]).take (j + 1)).map (fun x => (x, i)) = (chg cs 0 (t.take i) ++ ((lookC cs t[i]).take j).map fun x => (x, i)) ++ [(c, i)] := by
              rw [take_more hc, List.map_append, List.append_assoc]
              rfl
            rw [e, List.map_append]
            exact ((g7.rps (g6.rps r5)).append (.one (g7.rp (encCI_mk (x := (c, i)) hp6))))
        · rintro σ' H5 ⟨F5, us5, y5, G5, m5, c5, r5, rfl⟩
          rw [S_len, List.take_length] at r5
          refine ⟨F5, us5, _, _, _, G5, m5, c5, ?_, rfl⟩
          rw [take_more hti, chg_snoc, List.length_take, Nat.min_eq_left (Nat.le_of_lt hi), Nat.zero_add]
          exact r5
      · rintro σ' H4 ⟨F4, us, y4, z4, u4, G4, m4, c4, r4, rfl⟩
        rw [List.take_length] at r4
        walk_at "go"
        refine k_fz G4.fh c4 fun F5 g5 hp5 => ?_
        exact k _ F5 H4 (G4.comp g5 (side_one (.inr nc0))) (.lst hp5 (g5.rps r4))

theorem Txt.cR (T : Txt K mg) : Cls K (He.ga K "Rules") := T.cls 85 rfl
theorem Txt.n_changes (T : Txt K mg) : NoAttr K (He.ga K "Rules") "changes" := T.noat 90 rfl
theorem Txt.n_banned (T : Txt K mg) : NoAttr K (He.ga K "Rules") "banned" := T.noat 91 rfl
theorem Txt.n_line_words (T : Txt K mg) : NoAttr K (He.ga K "Rules") "line_words" := T.noat 92 rfl
theorem Txt.n_line_documents (T : Txt K mg) : NoAttr K (He.ga K "Rules") "line_documents" := T.noat 93 rfl
theorem Txt.n_hidden (T : Txt K mg) : NoAttr K (He.ga K "Rules") "hidden" := T.noat 94 rfl
theorem Txt.n_mark (T : Txt K mg) : NoAttr K (He.ga K "Rules") "mark" := T.noat 95 rfl
theorem Txt.n_document_words (T : Txt K mg) : NoAttr K (He.ga K "Rules") "document_words" := T.noat 96 rfl
theorem Txt.n_shares (T : Txt K mg) : NoAttr K (He.ga K "Rules") "shares" := T.noat 97 rfl
def sp_split_lines : Sp := fun vs H Q _ => ∃ (F : Hp) (v : V) (cs : List (Nat × Nat)), vs = [v] ∧ Same F H ∧ Rp F v (encCIs cs) ∧ cs.length ≤ 10000000 ∧
  ∀ (v' : V) (F' H' : Hp), Grow [] F H F' H' → Rp F' v' (encLns (splitL cs)) → Q v' H'
abbrev N_split_lines : List Str := ["changed", "lines", "line", "chars", "first", "last", "char", "index"]
theorem sc_split_lines : FnScope N_split_lines ["changed"] (defScope s_split_lines) := ⟨rfl, rfl, rfl, by decide +kernel, rfl, by decide +kernel, by decide +kernel⟩
theorem ok_split_lines (T : Txt K mg) : OkG P w K mg base 2 "split_lines" ["changed"] sp_split_lines := by
  have m_len : mg "len" = none := T.free 68 rfl
  obtain ⟨f_is_blank, fd_is_blank, G_is_blank, mg_is_blank, kp_is_blank, b_is_blank⟩ := ok_is_blank (P := P) (w := w) (base := base) T
  refine T.okG 16 16 rfl rfl (d := d_split_lines) sc_split_lines (fun _ _ _ _ _ _ us hl => match us, hl with | [_], _ => rfl) (fun vs H Q E h => ?_) (fun cdv A outer s H vs Q E hr h => ?_)
  · obtain ⟨_, _, _, rfl, _⟩ := h
    rfl
  · refine ⟨_, PSs.nox (pss_cons (ps_set (i := 1) sc_split_lines.nd rfl (Or.inl rfl) (pe_lst pa_nil))
      (pss_cons (ps_set (i := 2) sc_split_lines.nd rfl (Or.inl rfl) (pe_lst pa_nil))
      (pss_cons (ps_set (i := 3) sc_split_lines.nd rfl (Or.inl rfl) (pe_lst pa_nil))
      (pss_cons (ps_set (i := 4) sc_split_lines.nd rfl (Or.inl rfl) pe_int)
      (pss_cons (ps_set (i := 5) sc_split_lines.nd rfl (Or.inl rfl) pe_int)
      (pss_cons (ps_for PassesOwn.never rfl (pi_list (pv 0)) (pg_tup (by rfl) (pgs_cons (pg_name (i := 6) sc_split_lines.nd rfl (Or.inl rfl)) (pgs_cons (pg_name (i := 7) sc_split_lines.nd rfl (Or.inl rfl)) pgs_nil)))
        (pss_one (ps_if (pt_not (pt_val (pe_call G_is_blank (hr.mono (by decide)) rfl mg_is_blank kp_is_blank b_is_blank .nil pass0 (pa_cons (pv 6) pa_nil))))
          (Evl.pss_cut (ps_if (pt_cmpR op_eq (pe_callB cr_lenL (by rfl) m_len PySem.boot_len (pa_cons (pv 3) pa_nil)) pe_int (nomark _))
            (pss_one (ps_set (i := 4) sc_split_lines.nd rfl (Or.inl rfl) (pv 7)))
            pss_nil)
          (pss_cons (ps_expr (pe_bm PySem.F.plainAttrs_list PySem.F.slot_list_append PySem.F.type_list_append mt_append (pv 3) (pa_cons (pv 6) pa_nil)))
          (pss_one (ps_set (i := 5) sc_split_lines.nd rfl (Or.inl rfl) (pv 7)))))
          (Evl.pss_cut (ps_if (pt_cmpR op_gt (pe_callB cr_lenL (by rfl) m_len PySem.boot_len (pa_cons (pv 3) pa_nil)) pe_int (nomark _))
            (pss_cons (ps_expr (pe_bm PySem.F.plainAttrs_list PySem.F.slot_list_append PySem.F.type_list_append mt_append (pv 2) (pa_cons (pe_tup (pa_cons (pe_joinN pe_str (pv 3)) (pa_cons (pv 4) (pa_cons (pv 5) pa_nil)))) pa_nil)))
            (pss_one (ps_set (i := 3) sc_split_lines.nd rfl (Or.inl rfl) (pe_lst pa_nil))))
            pss_nil)
          (pss_one (ps_if (pt_cmpR op_eq (pv 6) pe_str (nomark _))
            (pss_cons (ps_expr (pe_bm PySem.F.plainAttrs_list PySem.F.slot_list_append PySem.F.type_list_append mt_append (pv 1) (pa_cons (pv 2) pa_nil)))
            (pss_one (ps_set (i := 2) sc_split_lines.nd rfl (Or.inl rfl) (pe_lst pa_nil))))
            pss_nil))))))
      (Evl.pss_cut (ps_if (pt_cmpR op_gt (pe_callB cr_lenL (by rfl) m_len PySem.boot_len (pa_cons (pv 3) pa_nil)) pe_int (nomark _))
        (pss_one (ps_expr (pe_bm PySem.F.plainAttrs_list PySem.F.slot_list_append PySem.F.type_list_append mt_append (pv 2) (pa_cons (pe_tup (pa_cons (pe_joinN pe_str (pv 3)) (pa_cons (pv 4) (pa_cons (pv 5) pa_nil)))) pa_nil))))
        pss_nil)
      (pss_cons (ps_expr (pe_bm PySem.F.plainAttrs_list PySem.F.slot_list_append PySem.F.type_list_append mt_append (pv 1) (pa_cons (pv 2) pa_nil)))
      (pss_one (ps_ret (pv 1))))))))))), ?_⟩
    obtain ⟨F, v, cs, rfl, ok, hv, h1, k⟩ := h
    obtain ⟨a, xs, rfl, ha, hr⟩ := hv.lst_inv
    walk_at "go"
    refine k_mu ok fun p F1 H1 g1 hp1 np1 => ?_
    walk_at "go"
    refine k_mu g1.fh fun q F2 H2 g2 hq2 nq2 => ?_
    walk_at "go"
    refine k_mu g2.fh fun r F3 H3 g3 hr3 nr3 => ?_
    walk_at "go"
    walk_at "ss"
    refine r_itL (by walk_at "up") ?_
    refine loopL (xs := xs) (fun i σ' H' => ∃ (F' : Hp) (q r : Addr) (y z : Option V), Grow [] F H F' H' ∧ LSat F' H' p q r (runL (cs.take i)) ∧ H q = none ∧ H r = none ∧
      σ' = [some (.ref a), some (.ref p), some (.ref q), some (.ref r), some (.int ((runL (cs.take i)).first : Int)), some (.int ((runL (cs.take i)).last : Int)), y, z])
      ⟨F3, q, r, none, none, by walk_at "chain", ⟨hp1.ne nq2, (g2.mu nil_not hp1).ne nr3, hq2.ne nr3, ⟨[], by walk_at "up", .nil⟩, ⟨[], by walk_at "up", .nil⟩, hr3⟩, Grow.back0 g1 nq2, Grow.back0 (by walk_at "chain") nr3, rfl⟩
      (fun i σ' H' _ ⟨F', _, _, _, _, G, _⟩ => sql_fz G.fh (G.at ha)) ?_ ?_
    · rintro i x σ' H4 hx ⟨F4, q, r, y, z, G, LSt, nq, nr, rfl⟩
      obtain ⟨e, he, re⟩ := (G.rps hr).get_map hx
      obtain ⟨ae, rfl, hae⟩ := encCI_inv re
      obtain ⟨pq, pr, qr, ⟨us, mp, ru⟩, ⟨vs, mq, rv⟩, mr⟩ := LSt
      have hle := runL_le (cs.take i)
      rw [List.length_take] at hle
      rw [runL_more he]
      generalize runL (cs.take i) = st at ru rv mr hle ⊢
      have okL := G.fh
      walk_at "go"
      walk_at "ss"
      walk_at "go"
      refine ⟨e.1, rfl, ?_⟩
      walk_at "go"
      have lchars : (st.chars.map fun c => V.str (S [c])).length = st.chars.length := List.length_map ..
      refine r_ite (fun c => ?_) (fun c => ?_)
      · have nb : ¬ isBlank e.1 = true := fun z => by rw [z] at c; cases c
        walk_at "go"
        refine r_cut (M := fun σ2 H2 => H2 = H4 ∧ σ2 = [some (.ref a), some (.ref p), some (.ref q), some (.ref r), some (.int ((if st.chars = [] then e.2 else st.first : Nat) : Int)), some (.int (st.last : Int)), some (.str (S [e.1])), some (.int (e.2 : Int))]) ?_ ?_
        · walk_at "go"
          refine r_ite (fun c2 => ?_) (fun c2 => ?_)
          · have c2 := of_decide_eq_true c2
            rw [lchars] at c2
            have c2 := V.int.inj c2
            have e0 : st.chars = [] := List.eq_nil_of_length_eq_zero (by omega)
            walk_at "go"
            rw [if_pos e0]
            exact ⟨rfl, rfl⟩
          · have c2 := of_decide_eq_false c2
            rw [lchars] at c2
            have e0 : ¬ st.chars = [] := fun z => c2 (by rw [z]; rfl)
            walk_at "go"
            rw [if_neg e0]
            exact ⟨rfl, rfl⟩
        · rintro σ2 H5 ⟨rfl, rfl⟩
          walk_at "go"
          refine r_append mr.1 (Nat.lt_of_le_of_lt (Nat.le_of_eq lchars) (by omega)) (k_wr okL mr fun F5 H5 g5 m5 => ?_)
          walk_at "go"
          walk_at "ss"
          refine ⟨F5, q, r, some (.str (S [e.1])), some (.int (e.2 : Int)), G.comp g5 (side_one (.inr nr)), ⟨pq, pr, qr, ⟨us, g5.mu (one_not pr) mp, ?_⟩, ⟨vs, g5.mu (one_not qr) mq, ?_⟩, ?_⟩, nq, nr, ?_⟩
          · unfold LS.step
            rw [if_neg nb]
            exact g5.rps ru
          · unfold LS.step
            rw [if_neg nb]
            exact g5.rps rv
          · unfold LS.step
            rw [if_neg nb, List.map_append]
            exact m5
          · unfold LS.step
            rw [if_neg nb]
      · have nb : isBlank e.1 = true := by
          cases z : isBlank e.1 with
          | true => rfl
          | false => rw [z] at c; cases c
        walk_at "go"
        refine r_cut (M := fun σ2 H2 => ∃ F2 r2 vs2, Grow [] F H F2 H2 ∧ H r2 = none ∧ p ≠ r2 ∧ q ≠ r2 ∧ Mu F2 H2 p (.lst us) ∧ Rps F2 us (st.lines.map encLn) ∧ Mu F2 H2 q (.lst vs2) ∧ Rps F2 vs2 (st.shut.map encW) ∧ Mu F2 H2 r2 (.lst []) ∧
          σ2 = [some (.ref a), some (.ref p), some (.ref q), some (.ref r2), some (.int (st.first : Int)), some (.int (st.last : Int)), some (.str (S [e.1])), some (.int (e.2 : Int))]) ?_ ?_
        · walk_at "go"
          refine r_ite (fun c2 => ?_) (fun c2 => ?_)
          · have c2 := of_decide_eq_true c2
            rw [lchars] at c2
            have e0 : ¬ st.chars = [] := fun z => by rw [z] at c2; exact absurd c2 (by decide)
            walk_at "go"
            refine r_join (K := K) (ys := st.chars.map fun c => S [c]) (by rw [List.map_map]; walk_at "up") ?_ ?_
            · rw [chars_sum, List.length_map]
              have z : ("" : Str).length = 0 := by decide +kernel
              rw [z]
              omega
            rw [join_ones]
            walk_at "go"
            refine k_new okL fun pt F5 H5 g5 hp5 np5 => ?_
            walk_at "go"
            have mq5 := g5.mu nil_not mq
            have lv := rv.len_map
            refine r_append mq5.1 (by omega) (k_wr g5.fh mq5 fun F6 H6 g6 m6 => ?_)
            walk_at "go"
            refine k_mu g6.fh fun r2 F7 H7 g7 m7 n7 => ?_
            walk_at "go"
            walk_at "ss"
            have mp6 := g6.mu (one_not pq) (g5.mu nil_not mp)
            refine ⟨F7, r2, _, ((G.comp g5 side_nil).comp g6 (side_one (.inr nq))).comp g7 side_nil, Grow.back0 ((G.comp g5 side_nil).comp g6 (side_one (.inr nq))) n7, mp6.ne n7, m6.ne n7, g7.mu nil_not mp6, g7.rps (g6.rps (g5.rps ru)), g7.mu nil_not m6, ?_, m7, rfl⟩
            unfold LS.shut
            rw [if_neg e0, List.map_append]
            exact g7.rps ((g6.rps (g5.rps rv)).append (.one (g6.rp (encW_mk (x := (st.chars, st.first, st.last)) hp5))))
          · have c2 := of_decide_eq_false c2
            rw [lchars] at c2
            have e0 : st.chars = [] := List.eq_nil_of_length_eq_zero (by omega)
            walk_at "go"
            rw [e0] at mr
            refine ⟨F4, r, vs, G, nr, pr, qr, mp, ru, mq, ?_, mr, rfl⟩
            unfold LS.shut
            rw [if_pos e0]
            exact rv
        · rintro σ2 H5 ⟨F5, r2, vs2, G5, nr2, pr2, qr2, mp5, ru5, mq5, rv5, mr5, rfl⟩
          walk_at "go"
          rw [nl_str]
          have dn : decide (V.str (S [e.1]) = V.str (S [10])) = decide (e.1 = 10) := decide_eq_decide.mpr one_iff
          rw [dn]
          refine r_ite (fun c2 => ?_) (fun c2 => ?_)
          · have c2 := of_decide_eq_true c2
            walk_at "go"
            refine k_fz G5.fh mq5 fun F6 g6 hq6 => ?_
            have mp6 := g6.mu (one_not pq) mp5
            have lu := ru5.len_map
            refine r_append mp6.1 (by omega) (k_wr g6.fh mp6 fun F7 H7 g7 m7 => ?_)
            walk_at "go"
            refine k_mu g7.fh fun q2 F8 H8 g8 m8 n8 => ?_
            walk_at "go"
            walk_at "ss"
            have mr7 := g7.mu (one_not pr2.symm) (g6.mu (one_not qr2.symm) mr5)
            have G7 := (G5.comp g6 (side_one (.inr nq))).comp g7 (side_one (.inr np1))
            refine ⟨F8, q2, r2, some (.str (S [e.1])), some (.int (e.2 : Int)), G7.comp g8 side_nil, ⟨m7.ne n8, pr2, (mr7.ne n8).symm, ⟨_, g8.mu nil_not m7, ?_⟩, ⟨[], m8, ?_⟩, ?_⟩, Grow.back0 G7 n8, nr2, ?_⟩
            · unfold LS.step
              rw [if_pos nb, if_pos c2, List.map_append]
              exact g8.rps (g7.rps ((g6.rps ru5).append (.one (.lst hq6 (g6.rps rv5)))))
            · unfold LS.step
              rw [if_pos nb, if_pos c2]
              exact .nil
            · unfold LS.step
              rw [if_pos nb, if_pos c2]
              exact g8.mu nil_not mr7
            · unfold LS.step
              rw [if_pos nb, if_pos c2]
          · have c2 := of_decide_eq_false c2
            walk_at "go"
            refine ⟨F5, q, r2, some (.str (S [e.1])), some (.int (e.2 : Int)), G5, ⟨pq, pr2, qr2, ⟨us, mp5, ?_⟩, ⟨vs2, mq5, ?_⟩, ?_⟩, nq, nr2, ?_⟩
            · unfold LS.step
              rw [if_pos nb, if_neg c2]
              exact ru5
            · unfold LS.step
              rw [if_pos nb, if_neg c2]
              exact rv5
            · unfold LS.step
              rw [if_pos nb, if_neg c2]
              exact mr5
            · unfold LS.step
              rw [if_pos nb, if_neg c2]
    · rintro σ' H4 ⟨F4, q, r, y, z, G, LSt, nq, nr, rfl⟩
      have hle := runL_le (cs.take xs.length)
      rw [hr.len_map, List.take_length] at LSt hle
      rw [hr.len_map, List.take_length]
      have hs : splitL cs = (runL cs).lines ++ [(runL cs).shut] := rfl
      rw [hs] at k
      obtain ⟨pq, pr, qr, ⟨us, mp, ru⟩, ⟨vs, mq, rv⟩, mr⟩ := LSt
      generalize runL cs = st at ru rv mr hle k ⊢
      have okL := G.fh
      have lchars : (st.chars.map fun c => V.str (S [c])).length = st.chars.length := List.length_map ..
      walk_at "go"
      refine r_cut (M := fun σ2 H2 => ∃ F2 vs2, Grow [] F H F2 H2 ∧ Mu F2 H2 p (.lst us) ∧ Rps F2 us (st.lines.map encLn) ∧ Mu F2 H2 q (.lst vs2) ∧ Rps F2 vs2 (st.shut.map encW) ∧
          ∃ y, σ2 = [some (.ref a), some (.ref p), some (.ref q), some (.ref r)] ++ y) ?_ ?_
      · walk_at "go"
        refine r_ite (fun c2 => ?_) (fun c2 => ?_)
        · have c2 := of_decide_eq_true c2
          rw [lchars] at c2
          have e0 : ¬ st.chars = [] := fun z => by rw [z] at c2; exact absurd c2 (by decide)
          walk_at "go"
          refine r_join (K := K) (ys := st.chars.map fun c => S [c]) (by rw [List.map_map]; walk_at "up") ?_ ?_
          · rw [chars_sum, List.length_map]
            have z : ("" : Str).length = 0 := by decide +kernel
            rw [z]
            omega
          rw [join_ones]
          walk_at "go"
          refine k_new okL fun pt F5 H5 g5 hp5 np5 => ?_
          walk_at "go"
          have mq5 := g5.mu nil_not mq
          have lv := rv.len_map
          refine r_append mq5.1 (by omega) (k_wr g5.fh mq5 fun F6 H6 g6 m6 => ?_)
          walk_at "go"
          refine ⟨F6, _, (G.comp g5 side_nil).comp g6 (side_one (.inr nq)), g6.mu (one_not pq) (g5.mu nil_not mp), g6.rps (g5.rps ru), m6, ?_, _, rfl⟩
          unfold LS.shut
          rw [if_neg e0, List.map_append]
          exact (g6.rps (g5.rps rv)).append (.one (g6.rp (encW_mk (x := (st.chars, st.first, st.last)) hp5)))
        · have c2 := of_decide_eq_false c2
          rw [lchars] at c2
          have e0 : st.chars = [] := List.eq_nil_of_length_eq_zero (by omega)
          walk_at "go"
          refine ⟨F4, vs, G, mp, ru, mq, ?_, _, rfl⟩
          unfold LS.shut
          rw [if_pos e0]
          exact rv
      · rintro σ2 H5 ⟨F5, vs2, G5, mp5, ru5, mq5, rv5, y5, rfl⟩
        walk_at "go"
        refine k_fz G5.fh mq5 fun F6 g6 hq6 => ?_
        have mp6 := g6.mu (one_not pq) mp5
        have lu := ru5.len_map
        refine r_append mp6.1 (by omega) (k_wr g6.fh mp6 fun F7 H7 g7 m7 => ?_)
        walk_at "go"
        refine k_fz g7.fh m7 fun F8 g8 hp8 => ?_
        have G7 := (G5.comp g6 (side_one (.inr nq))).comp g7 (side_one (.inr np1))
        refine k _ F8 H7 (G7.comp g8 (side_one (.inr np1))) (.lst hp8 ?_)
        rw [List.map_append]
        exact g8.rps (g7.rps ((g6.rps ru5).append (.one (.lst hq6 (g6.rps rv5)))))

end
/-! ### cleaning -/
abbrev Line := List (List Nat)
def encDoc (d : List Line) : PyData := .list (d.map encStrs)
def encDocs (l : List (List Line)) : PyData := .list (l.map encDoc)
def plain (ls : List (List Wd)) : List Line := ls.map fun l => l.map fun x => x.1
def cnt (docs : List (List Line)) (ln : Line) : Nat := (docs.filter fun d => decide (ln ∈ d)).length
def kk (ln : Line) : List Key := ln.map fun w => Sum.inr (S w)
theorem kk_map (ln : Line) : (kk ln).map kV = ln.map fun w => V.str (S w) := by
  unfold kk
  rw [List.map_map]
  rfl
theorem kk_inj : ∀ {a b : Line}, kk a = kk b → a = b
  | [], [], _ => rfl
  | [], _ :: _, h => by cases h
  | _ :: _, [], h => by cases h
  | x :: a, y :: b, h => by
    have h2 : (Sum.inr (S x) : Key) :: kk a = Sum.inr (S y) :: kk b := h
    injection h2 with h3 h4
    rw [S_inj (Sum.inr.inj h3), kk_inj h4]
def cntV (n : Nat) : Option V := if n = 0 then none else some (.int (n : Int))
inductive Fate where
  | short | banned (w : List Nat) | common (n : Nat) | kept
  deriving DecidableEq
def Fate.enc : Fate → PyData
  | .short => .tuple [.str "short"]
  | .banned w => .tuple [.str "banned", .str (S w)]
  | .common n => .tuple [.str "common", .int (n : Int)]
  | .kept => .tuple [.str "kept"]
def firstB (ln ban : Line) : Option (List Nat) := ln.find? fun w => decide (w ∈ ban)
def fateOf (R : Ru) (docs : List (List Line)) (ln : Line) : Fate :=
  if ln.length < R.lineWords then .short
  else match firstB ln R.banned with
    | some w => .banned w
    | none => if 0 < R.lineDocs ∧ R.lineDocs ≤ cnt docs ln then .common (cnt docs ln) else .kept
def encFs (l : List Fate) : PyData := .list (l.map Fate.enc)
def leftW (x : List (List Wd × Fate)) : List Wd := x.flatMap fun y => if y.2 = .kept then y.1 else []
inductive Reason where
  | short | share (k : Nat)
def encR : Option Reason → PyData
  | none => .none
  | some .short => .tuple [.str "short"]
  | some (.share k) => .tuple [.str "share", .int (k : Int)]
noncomputable def overShare (ws : List (List Nat)) (s : Shape × Nat × Nat) : Bool := decide (s.2.1 * ws.length < (ws.filter fun w => has w s.1).length * s.2.2)
def shIx {α : Type} (p : α → Bool) : Nat → List α → Option Nat
  | _, [] => none
  | n, a :: l => if p a = true then some n else shIx p (n + 1) l
theorem shIx_hit {α : Type} {p : α → Bool} : ∀ {l : List α} {i n : Nat} {a : α}, (∀ (j : Nat) b, j < i → l[j]? = some b → p b = false) → l[i]? = some a → p a = true → shIx p n l = some (n + i)
  | [], _, _, _, _, h, _ => by cases h
  | b :: l, 0, n, a, _, h, q => by
    have e : b = a := Option.some.inj h
    subst e
    show (if p b = true then some n else _) = _
    rw [if_pos q]
    rfl
  | b :: l, i + 1, n, a, f, h, q => by
    show (if p b = true then some n else shIx p (n + 1) l) = _
    rw [if_neg (by rw [f 0 b (by omega) rfl]; decide), shIx_hit (i := i) (a := a) (fun j c hj hc => f (j + 1) c (by omega) hc) h q, show n + 1 + i = n + (i + 1) by omega]
theorem shIx_none {α : Type} {p : α → Bool} : ∀ {l : List α} {n : Nat}, (∀ (j : Nat) b, l[j]? = some b → p b = false) → shIx p n l = none
  | [], _, _ => rfl
  | b :: l, n, f => by
    show (if p b = true then some n else shIx p (n + 1) l) = _
    rw [if_neg (by rw [f 0 b rfl]; decide), shIx_none fun j c hc => f (j + 1) c hc]
noncomputable def reasonOf (R : Ru) (ws : List (List Nat)) : Option Reason := if ws.length < R.docWords then some .short else (shIx (overShare ws) 0 R.shares).map Reason.share
abbrev Row := Option Reason × List Fate × List Wd
def encRow (r : Row) : PyData := .tuple [encR r.1, encFs r.2.1, .list (r.2.2.map encW)]
noncomputable def rowOf (R : Ru) (docs : List (List Line)) (ls : List (List Wd)) : Row :=
  let fs := (plain ls).map (fateOf R docs)
  let ws := leftW (ls.zip fs)
  (reasonOf R (ws.map fun x => x.1), fs, ws)
noncomputable def lnOf (R : Ru) (t : List Nat) : List (List Wd) := linesOf R.changes R.hidden R.mark t
noncomputable def cleanR (R : Ru) (ts : List (List Nat)) : List Row :=
  (ts.map (lnOf R)).map (rowOf R ((ts.map (lnOf R)).map plain))
theorem eqV_str {x y : Str} : eqV (.str x) (.str y) = decide (x = y) := by
  unfold eqV
  rfl
theorem inV_strs {w : List Nat} : ∀ {l : List (List Nat)}, inV (.str (S w)) (l.map fun x => V.str (S x)) = decide (w ∈ l)
  | [] => rfl
  | a :: l => by
    have ih := inV_strs (w := w) (l := l)
    unfold inV at ih ⊢
    rw [List.map_cons, List.any_cons, ih, eqV_str]
    by_cases e : w = a
    · subst e
      simp
    · have e2 : ¬ S a = S w := fun z => e (S_inj z).symm
      rw [decide_eq_false e2, Bool.false_or]
      exact decide_eq_decide.mpr ⟨fun h => List.mem_cons_of_mem _ h, fun h => (List.mem_cons.mp h).resolve_left e⟩
theorem flat_strs (l : List (List Nat)) : (l.map fun x => V.str (S x)).all flatV = true := by
  rw [List.all_map]
  exact List.all_eq_true.mpr fun _ _ => rfl
theorem cnt_snoc {docs : List (List Line)} {i : Nat} {d : List Line} (h : docs[i]? = some d) (ln : Line) : cnt (docs.take (i + 1)) ln = cnt (docs.take i) ln + (if ln ∈ d then 1 else 0) := by
  unfold cnt
  rw [take_more h, List.filter_append, List.length_append, List.filter_cons]
  by_cases e : ln ∈ d
  · rw [if_pos (decide_eq_true e), if_pos e]
    rfl
  · rw [if_neg (by simpa using e), if_neg e]
    rfl
theorem cnt_pos {docs : List (List Line)} {d : List Line} {ln : Line} (h : d ∈ docs) (h2 : ln ∈ d) : 0 < cnt docs ln := by
  unfold cnt
  exact List.length_pos_of_mem (List.mem_filter.mpr ⟨h, decide_eq_true h2⟩)
theorem leftW_snoc (x : List (List Wd × Fate)) (y : List Wd × Fate) : leftW (x ++ [y]) = leftW x ++ if y.2 = .kept then y.1 else [] := by
  unfold leftW
  rw [List.flatMap_append]
  simp
section
variable {F : Hp} {v : V}
theorem strs_inv {l : List (List Nat)} (h : Rp F v (encStrs l)) : ∃ a, v = .ref a ∧ F a = some (.lst (l.map fun x => V.str (S x))) := by
  obtain ⟨a, xs, rfl, ha, r⟩ := h.lst_inv
  have e : l.map (fun x => PyData.str (S x)) = (l.map S).map PyData.str := by rw [List.map_map]; rfl
  rw [e] at r
  have q := r.strs_inv
  rw [List.map_map] at q
  subst q
  exact ⟨a, rfl, ha⟩
theorem strs_mk {l : List (List Nat)} {a : Addr} (h : F a = some (.lst (l.map fun x => V.str (S x)))) : Rp F (.ref a) (encStrs l) := by
  refine .lst h ?_
  have e : l.map (fun x => PyData.str (S x)) = (l.map S).map PyData.str := by rw [List.map_map]; rfl
  have e2 : l.map (fun x => V.str (S x)) = (l.map S).map V.str := by rw [List.map_map]; rfl
  rw [e, e2]
  exact Rps.strs _
end
theorem LS.ok_step {s : LS} {x : Nat × Nat} {n : Nat} (h : (∀ l ∈ s.lines, l.length ≤ n ∧ ∀ y ∈ l, y.1.length ≤ n) ∧ (∀ y ∈ s.line, y.1.length ≤ n) ∧ s.lines.length + s.line.length + s.chars.length ≤ n) :
    (∀ l ∈ (s.step x).lines, l.length ≤ n + 1 ∧ ∀ y ∈ l, y.1.length ≤ n + 1) ∧ (∀ y ∈ (s.step x).line, y.1.length ≤ n + 1) ∧ (s.step x).lines.length + (s.step x).line.length + (s.step x).chars.length ≤ n + 1 := by
  obtain ⟨h1, h2, h3⟩ := h
  have hs : s.shut.length ≤ s.line.length + s.chars.length ∧ ∀ y ∈ s.shut, y.1.length ≤ n := by
    unfold LS.shut
    split
    · exact ⟨by omega, h2⟩
    · rename_i hc
      have : 1 ≤ s.chars.length := by
        cases q : s.chars with
        | nil => exact absurd q hc
        | cons a l => simp
      refine ⟨by rw [List.length_append, List.length_singleton]; omega, fun y hy => ?_⟩
      rcases List.mem_append.mp hy with z | z
      · exact h2 y z
      · cases List.mem_singleton.mp z
        show s.chars.length ≤ n
        omega
  refine ⟨?_, ?_, Nat.le_trans (s.step_len x) (by omega)⟩
  · intro l hl
    unfold LS.step at hl
    split at hl
    · split at hl
      · rcases List.mem_append.mp hl with z | z
        · exact ⟨Nat.le_succ_of_le (h1 l z).1, fun y hy => Nat.le_succ_of_le ((h1 l z).2 y hy)⟩
        · cases List.mem_singleton.mp z
          exact ⟨by omega, fun y hy => Nat.le_succ_of_le (hs.2 y hy)⟩
      · exact ⟨Nat.le_succ_of_le (h1 l hl).1, fun y hy => Nat.le_succ_of_le ((h1 l hl).2 y hy)⟩
    · exact ⟨Nat.le_succ_of_le (h1 l hl).1, fun y hy => Nat.le_succ_of_le ((h1 l hl).2 y hy)⟩
  · intro y hy
    unfold LS.step at hy
    split at hy
    · split at hy
      · cases hy
      · exact Nat.le_succ_of_le (hs.2 y hy)
    · exact Nat.le_succ_of_le (h2 y hy)
theorem LS.ok_run : ∀ (cs : List (Nat × Nat)) (s : LS) (n : Nat), (∀ l ∈ s.lines, l.length ≤ n ∧ ∀ y ∈ l, y.1.length ≤ n) ∧ (∀ y ∈ s.line, y.1.length ≤ n) ∧ s.lines.length + s.line.length + s.chars.length ≤ n →
    (∀ l ∈ (cs.foldl LS.step s).lines, l.length ≤ n + cs.length ∧ ∀ y ∈ l, y.1.length ≤ n + cs.length) ∧ (∀ y ∈ (cs.foldl LS.step s).line, y.1.length ≤ n + cs.length) ∧
      (cs.foldl LS.step s).lines.length + (cs.foldl LS.step s).line.length + (cs.foldl LS.step s).chars.length ≤ n + cs.length
  | [], s, n, h => h
  | x :: cs, s, n, h => by
    have q := LS.ok_run cs (s.step x) (n + 1) (LS.ok_step h)
    rw [List.foldl_cons, List.length_cons, show n + (cs.length + 1) = n + 1 + cs.length by omega]
    exact q
theorem splitL_len {cs : List (Nat × Nat)} : (splitL cs).length ≤ cs.length + 1 ∧ ∀ l ∈ splitL cs, l.length ≤ cs.length + 1 ∧ ∀ x ∈ l, x.1.length ≤ cs.length + 1 := by
  have q := LS.ok_step (x := (10, 0)) (LS.ok_run cs LS.init 0 ⟨fun l h => absurd (show l ∈ ([] : List (List Wd)) from h) List.not_mem_nil, fun l h => absurd (show l ∈ ([] : List Wd) from h) List.not_mem_nil, Nat.le_refl _⟩)
  have e : splitL cs = ((runL cs).step (10, 0)).lines := rfl
  rw [e]
  unfold runL
  rw [Nat.zero_add] at q
  exact ⟨by omega, q.1⟩
theorem splitL_ok {cs : List (Nat × Nat)} (h : cs.length ≤ 900000) : (splitL cs).length ≤ 10000000 ∧ ∀ l ∈ splitL cs, l.length ≤ 10000000 ∧ ∀ x ∈ l, x.1.length ≤ 1000000 := by
  obtain ⟨a, b⟩ := splitL_len (cs := cs)
  exact ⟨by omega, fun l hl => ⟨by have := (b l hl).1; omega, fun x hx => by have := (b l hl).2 x hx; omega⟩⟩

theorem putK_len {κ : Type} [DecidableEq κ] (kvs : List (κ × V)) (k : κ) (v : V) : (putK kvs k v).length ≤ kvs.length + 1 := by
  unfold putK
  split
  · rw [List.length_map]
    exact Nat.le_succ _
  · rw [List.length_append]
    exact Nat.le_refl _

theorem lnOf_ok {R : Ru} {t : List Nat} {b : Nat} (hO : RuOk R) (hch : ∀ c ∈ R.changes, c.2.length ≤ b) (ht : t.length ≤ 200) (hb : 1 ≤ b := by decide) (hb2 : b ≤ 8 := by decide) :
    (lnOf R t).length ≤ 1601 ∧ ∀ l ∈ lnOf R t, l.length ≤ 1601 ∧ ∀ x ∈ l, x.1.length ≤ 1601 := by
  have h1 := chg_len (b := b) hb hch 0 t
  have h2 : (chg R.changes 0 t).length ≤ 1600 := by
    have := Nat.mul_le_mul hb2 ht
    omega
  obtain ⟨h3, h4⟩ := splitL_len (cs := chg R.changes 0 t)
  have hm := hO.mrk
  unfold lnOf linesOf hideL
  refine ⟨by rw [List.length_map]; omega, fun l hl => ?_⟩
  obtain ⟨l2, hl2, rfl⟩ := List.mem_map.mp hl
  obtain ⟨h5, h6⟩ := h4 l2 hl2
  refine ⟨by rw [List.length_map]; omega, fun x hx => ?_⟩
  obtain ⟨y, hy, rfl⟩ := List.mem_map.mp hx
  have := h6 y hy
  show (if hasAny y.1 R.hidden = true then R.mark else y.1).length ≤ 1601
  split <;> omega
theorem plain_ok {ls : List (List Wd)} (h : ls.length ≤ 1601 ∧ ∀ l ∈ ls, l.length ≤ 1601 ∧ ∀ x ∈ l, x.1.length ≤ 1601) : (plain ls).length ≤ 10000 ∧ ∀ l ∈ plain ls, l.length ≤ 1000000 := by
  unfold plain
  refine ⟨by rw [List.length_map]; have := h.1; omega, fun l hl => ?_⟩
  obtain ⟨l2, hl2, rfl⟩ := List.mem_map.mp hl
  rw [List.length_map]
  have := (h.2 l2 hl2).1
  omega

theorem leftW_ok {ls : List (List Wd)} {fs : List Fate} (h : ls.length ≤ 1601 ∧ ∀ l ∈ ls, l.length ≤ 1601 ∧ ∀ x ∈ l, x.1.length ≤ 1601) : (leftW (ls.zip fs)).length ≤ 2563201 ∧ ∀ x ∈ leftW (ls.zip fs), x.1.length ≤ 1601 := by
  constructor
  · have q : ∀ z : List (List Wd × Fate), (∀ y ∈ z, y.1.length ≤ 1601) → (leftW z).length ≤ 1601 * z.length := by
      intro z
      induction z with
      | nil => intro _; exact Nat.zero_le _
      | cons a z ih =>
        intro hz
        have i1 := ih fun y hy => hz y (List.mem_cons_of_mem _ hy)
        have i2 := hz a List.mem_cons_self
        unfold leftW at i1 ⊢
        rw [List.flatMap_cons, List.length_append, List.length_cons]
        split
        · omega
        · show 0 + _ ≤ _
          omega
    have e := q (ls.zip fs) fun y hy => (h.2 y.1 (List.of_mem_zip hy).1).1
    have e2 : (ls.zip fs).length ≤ 1601 := by
      rw [List.length_zip]
      have := h.1
      omega
    omega
  · intro x hx
    unfold leftW at hx
    obtain ⟨y, hy, hx⟩ := List.mem_flatMap.mp hx
    split at hx
    · exact (h.2 y.1 (List.of_mem_zip hy).1).2 x hx
    · cases hx
section
variable {P : Program} {w : World} {K : PySem.W.Frag} {mg : Str → Option Value} {base : Heap}

def sp_shown : Sp := fun vs H Q _ => ∃ (F : Hp) (w : List Nat) (v : V) (l : List Shape) (m : List Nat), vs = [.str (S w), v, .str (S m)] ∧ Same F H ∧ Rp F v (encShs l) ∧ w.length ≤ 1000000 ∧ ShsOk l ∧
  ∀ (F' H' : Hp), Grow [] F H F' H' → Q (.str (S (if hasAny w l = true then m else w))) H'
abbrev N_shown : List Str := ["word", "hidden", "mark"]
theorem sc_shown : FnScope N_shown ["word", "hidden", "mark"] (defScope s_shown) := ⟨rfl, rfl, rfl, by decide +kernel, rfl, by decide +kernel, by decide +kernel⟩
theorem ok_shown (T : Txt K mg) : OkG P w K mg base 7 "_shown" ["word", "hidden", "mark"] sp_shown := by
  obtain ⟨f_has_any_shape, fd_has_any_shape, G_has_any_shape, mg_has_any_shape, kp_has_any_shape, b_has_any_shape⟩ := ok_has_any_shape (P := P) (w := w) (base := base) T
  refine T.okG 17 17 rfl rfl (d := d_shown) sc_shown (fun _ _ _ _ _ _ us hl => match us, hl with | [_, _, _], _ => rfl) (fun vs H Q E h => ?_) (fun cdv A outer s H vs Q E hr h => ?_)
  · obtain ⟨_, _, _, _, _, rfl, _⟩ := h
    rfl
  · refine ⟨_, PSs.nox (pss_cons (ps_if (pt_val (pe_call G_has_any_shape (hr.mono (by decide)) rfl mg_has_any_shape kp_has_any_shape b_has_any_shape .nil pass0 (pa_cons (pv 0) (pa_cons (pv 1) pa_nil))))
        (pss_one (ps_ret (pv 2)))
        pss_nil)
      (pss_one (ps_ret (pv 0)))), ?_⟩
    obtain ⟨F, w, v, l, m, rfl, ok, hv, h1, h2, k⟩ := h
    walk_at "go"
    refine ⟨F, w, v, l, rfl, ok, hv, h1, h2, fun F1 H1 g1 => ?_⟩
    walk_at "go"
    refine r_ite (fun c => ?_) (fun c => ?_)
    · walk_at "go"
      rw [if_pos c] at k
      exact k F1 H1 g1
    · walk_at "go"
      rw [if_neg (by rw [c]; decide)] at k
      exact k F1 H1 g1

def LnsOk (ls : List (List Wd)) : Prop := ls.length ≤ 10000000 ∧ ∀ l ∈ ls, l.length ≤ 10000000 ∧ ∀ x ∈ l, x.1.length ≤ 1000000
def sp_hide_words : Sp := fun vs H Q _ => ∃ (F : Hp) (u v : V) (ls : List (List Wd)) (hid : List Shape) (m : List Nat), vs = [u, v, .str (S m)] ∧ Same F H ∧ Rp F u (encLns ls) ∧ Rp F v (encShs hid) ∧ LnsOk ls ∧ ShsOk hid ∧
  ∀ (v' : V) (F' H' : Hp), Grow [] F H F' H' → Rp F' v' (encLns (hideL hid m ls)) → Q v' H'
abbrev N_hide_words : List Str := ["lines", "hidden", "mark", "rows", "line", "word", "first", "last"]
theorem sc_hide_words : FnScope N_hide_words ["lines", "hidden", "mark"] (defScope s_hide_words) := ⟨rfl, rfl, rfl, by decide +kernel, rfl, by decide +kernel, by decide +kernel⟩
theorem ok_hide_words (T : Txt K mg) : OkG P w K mg base 8 "hide_words" ["lines", "hidden", "mark"] sp_hide_words := by
  obtain ⟨f_shown, fd_shown, G_shown, mg_shown, kp_shown, b_shown⟩ := ok_shown (P := P) (w := w) (base := base) T
  refine T.okG 18 18 rfl rfl (d := d_hide_words) sc_hide_words (fun _ _ _ _ _ _ us hl => match us, hl with | [_, _, _], _ => rfl) (fun vs H Q E h => ?_) (fun cdv A outer s H vs Q E hr h => ?_)
  · obtain ⟨_, _, _, _, _, _, rfl, _⟩ := h
    rfl
  · refine ⟨_, PSs.nox (pss_cons (ps_set (i := 3) sc_hide_words.nd rfl (Or.inl rfl) (pe_lst pa_nil))
      (pss_cons (ps_for PassesOwn.never rfl (pi_list (pv 0)) (pg_name (i := 4) sc_hide_words.nd rfl (Or.inl rfl))
        (pss_one (ps_expr (pe_bm PySem.F.plainAttrs_list PySem.F.slot_list_append PySem.F.type_list_append mt_append (pv 3) (pa_cons (pe_lc (own := [("word", 5), ("first", 6), ("last", 7)]) (g := gTup K 3 (gCons (gName 5) (gCons (gName 6) (gCons (gName 7) gNil)))) (tt := tYes) rfl sc_hide_words.nd (pi_list (pv 4)) (blkOk_by (own := [("word", 5), ("first", 6), ("last", 7)]) (N := N_hide_words) (sc := defScope s_hide_words) (by decide +kernel)) (fun _ _ _ _ _ => (pg_tup (by rfl) (pgs_cons (pg_name (i := 5) sc_hide_words.nd rfl (Or.inl rfl)) (pgs_cons (pg_name (i := 6) sc_hide_words.nd rfl (Or.inl rfl)) (pgs_cons (pg_name (i := 7) sc_hide_words.nd rfl (Or.inl rfl)) pgs_nil))))) (fun _ _ _ _ _ => pts_nil) (fun _ _ _ _ _ => (pe_tup (pa_cons (pe_call G_shown (hr.mono (by decide)) rfl mg_shown kp_shown b_shown .nil pass0 (pa_cons (pv 5) (pa_cons (pv 1) (pa_cons (pv 2) pa_nil)))) (pa_cons (pv 6) (pa_cons (pv 7) pa_nil)))))) pa_nil)))))
      (pss_one (ps_ret (pv 3))))), ?_⟩
    obtain ⟨F, u, v, ls, hid, m, rfl, ok, hu, hv, h1, h2, k⟩ := h
    obtain ⟨a, xs, rfl, ha, hrr⟩ := hu.lst_inv
    walk_at "go"
    refine k_mu ok fun p F1 H1 g1 hp1 np1 => ?_
    walk_at "go"
    walk_at "ss"
    refine r_itL (by walk_at "up") ?_
    refine loopL (xs := xs) (fun i σ' H' => ∃ (F' : Hp) (us : List V) (y : Option V), Grow [] F H F' H' ∧ Mu F' H' p (.lst us) ∧ Rps F' us ((hideL hid m (ls.take i)).map encLn) ∧
      σ' = [some (.ref a), some v, some (.str (S m)), some (.ref p), y, none, none, none]) ⟨F1, [], none, g1, hp1, .nil, rfl⟩ (fun i σ' H' _ ⟨F', _, _, G, _⟩ => sql_fz G.fh (G.at ha)) ?_ ?_
    · rintro i x σ' H2 hx ⟨F2, us, y, G, mm, ru, rfl⟩
      obtain ⟨l, hl, rl⟩ := (G.rps hrr).get_map hx
      obtain ⟨al, xl, rfl, hal, hrl⟩ := rl.lst_inv
      have okL := G.fh
      have lo := h1.2 l (List.mem_of_getElem? hl)
      have hi : i < ls.length := (List.getElem?_eq_some_iff.mp hl).1
      walk_at "go"
      walk_at "ss"
      walk_at "go"
      refine r_itL (by walk_at "up") fun Dl hD => ?_
      refine lcL_map (ds := l.map encW) (es := (l.map (hide1 hid m)).map encW) okL hD hal hrl (by simp) (by rw [List.length_map]; omega) ?_ ?_
      · intro j x d e F3 H3 Kc hd he rx g3 kc
        obtain ⟨wd, hwd, rfl⟩ := map_at hd
        obtain ⟨wd2, hwd2, rfl⟩ := map_at he
        obtain ⟨wd3, hwd3, rfl⟩ := map_at hwd2
        rw [hwd] at hwd3
        cases hwd3
        obtain ⟨aw, rfl, haw⟩ := encW_inv rx
        have okJ := g3.fh
        walk_at "go"
        refine ⟨rfl, ?_⟩
        walk_at "go"
        refine ⟨F3, wd.1, v, hid, m, rfl, g3.fh, g3.rp (G.rp hv), lo.2 wd (List.mem_of_getElem? hwd), h2, fun F4 H4 g4 => ?_⟩
        walk_at "go"
        refine k_new g4.fh fun pt F5 H5 g5 hp5 np5 => ?_
        exact kc _ F5 H5 (g4.comp g5 side_nil) (encW_mk (x := hide1 hid m wd) hp5)
      · intro F3 H3 g3 r3
        walk_at "go"
        have m3 := g3.mu nil_not mm
        refine r_append m3.1 ?_ (k_wr g3.fh m3 fun F4 H4 g4 m4 => ?_)
        · have e := ru.len_map
          unfold hideL at e
          rw [List.length_map, List.length_take] at e
          have := h1.1
          omega
        · refine ⟨F4, _, _, (G.comp g3 side_nil).comp g4 (side_one (.inr np1)), m4, ?_, rfl⟩
          unfold hideL
          rw [take_more hl, List.map_append, List.map_append]
          exact (g4.rps (g3.rps ru)).append (.one (g4.rp r3))
    · rintro σ' H2 ⟨F2, us, y, G, mm, ru, rfl⟩
      rw [hrr.len_map, List.take_length] at ru
      walk_at "go"
      refine k_fz G.fh mm fun F4 g4 hp4 => ?_
      exact k _ F4 H2 (G.comp g4 (side_one (.inr np1))) (.lst hp4 (g4.rps ru))

abbrev RUF (K : PySem.W.Frag) : Addr := He.ga K "Rules"
def sp_text_lines (K : PySem.W.Frag) : Sp := fun vs H Q _ => ∃ (F : Hp) (t : List Nat) (v : V) (R : Ru), vs = [.str (S t), v] ∧ Same F H ∧ RuAt (RUF K) F v R ∧ RuOk R ∧ t.length ≤ 5000 ∧
  ∀ (v' : V) (F' H' : Hp), Grow [] F H F' H' → Rp F' v' (encLns (lnOf R t)) → Q v' H'
abbrev N_text_lines : List Str := ["text", "rules"]
theorem sc_text_lines : FnScope N_text_lines ["text", "rules"] (defScope s_text_lines) := ⟨rfl, rfl, rfl, by decide +kernel, rfl, by decide +kernel, by decide +kernel⟩
theorem ok_text_lines (T : Txt K mg) : OkG P w K mg base 9 "text_lines" ["text", "rules"] (sp_text_lines K) := by
  obtain ⟨f_hide_words, fd_hide_words, G_hide_words, mg_hide_words, kp_hide_words, b_hide_words⟩ := ok_hide_words (P := P) (w := w) (base := base) T
  obtain ⟨f_split_lines, fd_split_lines, G_split_lines, mg_split_lines, kp_split_lines, b_split_lines⟩ := ok_split_lines (P := P) (w := w) (base := base) T
  obtain ⟨f_change_text, fd_change_text, G_change_text, mg_change_text, kp_change_text, b_change_text⟩ := ok_change_text (P := P) (w := w) (base := base) T
  refine T.okG 19 19 rfl rfl (d := d_text_lines) sc_text_lines (fun _ _ _ _ _ _ us hl => match us, hl with | [_, _], _ => rfl) (fun vs H Q E h => ?_) (fun cdv A outer s H vs Q E hr h => ?_)
  · obtain ⟨_, _, _, _, rfl, _⟩ := h
    rfl
  · refine ⟨_, PSs.nox (pss_one (ps_ret (pe_call G_hide_words (hr.mono (by decide)) rfl mg_hide_words kp_hide_words b_hide_words .nil pass0 (pa_cons (pe_call G_split_lines (hr.mono (by decide)) rfl mg_split_lines kp_split_lines b_split_lines .nil pass0 (pa_cons (pe_call G_change_text (hr.mono (by decide)) rfl mg_change_text kp_change_text b_change_text .nil pass0 (pa_cons (pv 0) (pa_cons (pe_fld (pv 1) rfl) pa_nil))) pa_nil)) (pa_cons (pe_fld (pv 1) rfl) (pa_cons (pe_fld (pv 1) rfl) pa_nil)))))), ?_⟩
    obtain ⟨F, t, v, R, rfl, ok, hR, hO, h1, k⟩ := h
    obtain ⟨a, dx, fs, rfl, ha, RF⟩ := id hR
    obtain ⟨x1, e1, r1⟩ := RF.changes
    obtain ⟨x2, e2, r2⟩ := RF.hidden
    walk_at "go"
    refine r_fldV (ok _ _ ha) T.cR T.n_changes e1 ?_
    walk_at "go"
    refine ⟨F, t, x1, R.changes, rfl, ok, r1, by omega, hO.ch, fun v1 F1 H1 g1 c1 => ?_⟩
    walk_at "go"
    have cl := chg_len (b := 100) (by decide) hO.ch.2 0 t
    refine ⟨F1, v1, _, rfl, g1.fh, c1, by omega, fun v2 F2 H2 g2 c2 => ?_⟩
    walk_at "go"
    refine r_fldV (g2.fh _ _ (g2.at (g1.at ha))) T.cR T.n_hidden e2 ?_
    walk_at "go"
    refine r_fldV (g2.fh _ _ (g2.at (g1.at ha))) T.cR T.n_mark RF.mark ?_
    walk_at "go"
    refine ⟨F2, v2, x2, _, R.hidden, R.mark, rfl, g2.fh, c2, g2.rp (g1.rp r2), splitL_ok (by omega), hO.hid, fun v3 F3 H3 g3 c3 => ?_⟩
    exact k v3 F3 H3 ((g1.comp g2 side_nil).comp g3 side_nil) c3

abbrev DT := List (List Key × V)
/-- the dict of counts -/
def CntAt (F : Hp) (v : V) (docs : List (List Line)) : Prop := ∃ a kvs, v = .ref a ∧ F a = some (.dT kvs) ∧ ∀ ln, valV kvs (kk ln) = cntV (cnt docs ln)
def DocOk (d : List Line) : Prop := d.length ≤ 10000 ∧ ∀ l ∈ d, l.length ≤ 1000000
theorem cntV_isSome {n : Nat} : (cntV n).isSome = decide (0 < n) := by
  unfold cntV
  by_cases e : n = 0
  · rw [if_pos e, e]; rfl
  · rw [if_neg e, decide_eq_true (by omega)]; rfl
theorem cntV_getD {n : Nat} : (cntV n).getD (.int 0) = .int (n : Int) := by
  unfold cntV
  by_cases e : n = 0
  · rw [if_pos e, e]; rfl
  · rw [if_neg e]; rfl
def sp_count_lines : Sp := fun vs H Q _ => ∃ (F : Hp) (v : V) (docs : List (List Line)), vs = [v] ∧ Same F H ∧ Rp F v (encDocs docs) ∧ docs.length ≤ 100 ∧ (∀ d ∈ docs, DocOk d) ∧
  ∀ (v' : V) (F' H' : Hp), Grow [] F H F' H' → CntAt F' v' docs → Q v' H'
abbrev N_count_lines : List Str := ["documents", "counts", "lines", "seen", "line", "key"]
theorem sc_count_lines : FnScope N_count_lines ["documents"] (defScope s_count_lines) := ⟨rfl, rfl, rfl, by decide +kernel, rfl, by decide +kernel, by decide +kernel⟩
theorem ok_count_lines (T : Txt K mg) : OkG P w K mg base 1 "count_lines" ["documents"] sp_count_lines := by
  have m_tuple : mg "tuple" = none := T.free 71 rfl
  refine T.okG 20 20 rfl rfl (d := d_count_lines) sc_count_lines (fun _ _ _ _ _ _ us hl => match us, hl with | [_], _ => rfl) (fun vs H Q E h => ?_) (fun cdv A outer s H vs Q E hr h => ?_)
  · obtain ⟨_, _, _, rfl, _⟩ := h
    rfl
  · have hu := hu_of hr
    refine ⟨_, PSs.nox (pss_cons (ps_set (i := 1) sc_count_lines.nd rfl (Or.inl rfl) pe_dnewT)
      (pss_cons (ps_for PassesOwn.never rfl (pi_list (pv 0)) (pg_name (i := 2) sc_count_lines.nd rfl (Or.inl rfl))
        (pss_cons (ps_set (i := 3) sc_count_lines.nd rfl (Or.inl rfl) pe_dnewT)
        (pss_one (ps_for PassesOwn.never rfl (pi_list (pv 2)) (pg_name (i := 4) sc_count_lines.nd rfl (Or.inl rfl))
          (pss_cons (ps_set (i := 5) sc_count_lines.nd rfl (Or.inl rfl) (pe_callTy cr_tupOf (by rfl) m_tuple (by decide +kernel) (pa_cons (pv 4) pa_nil)))
          (pss_one (ps_if (pt_cmp (pc_dnotin hu (pv 5) (pv 3)))
            (pss_cons (ps_dput hu (pv 3) (pv 5) pe_bl rfl)
            (pss_one (ps_dput hu (pv 1) (pv 5) (pe_op op_add (pe_dget2 hu (pv 1) (pv 5) pe_int ⟨rfl, rfl, rfl, rfl⟩) pe_int) rfl)))
            pss_nil)))))))
      (pss_one (ps_ret (pv 1))))), ?_⟩
    obtain ⟨F, v, docs, rfl, ok, hv, h1, h2, k⟩ := h
    obtain ⟨a, xs, rfl, ha, hrr⟩ := hv.lst_inv
    walk_at "go"
    refine k_mu ok fun p F1 H1 g1 hp1 np1 => ?_
    walk_at "go"
    walk_at "ss"
    refine r_itL (by walk_at "up") ?_
    refine loopL (xs := xs) (fun i σ' H' => ∃ (F' : Hp) (kvs : DT) (x y z u : Option V), Grow [] F H F' H' ∧ Mu F' H' p (.dT kvs) ∧ kvs.length ≤ 10000 * i ∧ (∀ ln, valV kvs (kk ln) = cntV (cnt (docs.take i) ln)) ∧
      σ' = [some (.ref a), some (.ref p), x, y, z, u]) ⟨F1, [], none, none, none, none, g1, hp1, Nat.zero_le _, fun _ => rfl, rfl⟩ (fun i σ' H' _ ⟨F', _, _, _, _, _, G, _⟩ => sql_fz G.fh (G.at ha)) ?_ ?_
    · rintro i x σ' H2 hx ⟨F2, kvs, y1, y2, y3, y4, G, mm, lk, fk, rfl⟩
      obtain ⟨d, hd, rd⟩ := (G.rps hrr).get_map hx
      obtain ⟨ad, xd, rfl, had, hrd⟩ := rd.lst_inv
      have okL := G.fh
      have dO := h2 d (List.mem_of_getElem? hd)
      have hi : i < docs.length := (List.getElem?_eq_some_iff.mp hd).1
      walk_at "go"
      refine k_mu okL fun q F3 H3 g3 hq3 nq3 => ?_
      have nq0 : H q = none := Grow.back0 G nq3
      have pq : p ≠ q := mm.ne nq3
      have okM := g3.fh
      have had3 := g3.at had
      have hrd3 := g3.rps hrd
      have G3 := G.comp g3 side_nil
      have mm3 := g3.mu nil_not mm
      clear g3
      walk_at "go"
      walk_at "ss"
      refine r_itL (sql_fz okM had3) ?_
      refine loopL (xs := xd) (fun j σ' H' => ∃ (F' : Hp) (kvs' sv : DT) (x y : Option V), Grow [] F H F' H' ∧ F' ad = some (.lst xd) ∧ Mu F' H' p (.dT kvs') ∧ Mu F' H' q (.dT sv) ∧ kvs'.length ≤ 10000 * i + j ∧ sv.length ≤ j ∧ Rps F' xd (d.map encStrs) ∧
        (∀ ln, valV kvs' (kk ln) = cntV (cnt (docs.take i) ln + if ln ∈ d.take j then 1 else 0)) ∧ (∀ ln, (valV sv (kk ln)).isSome = decide (ln ∈ d.take j)) ∧
        σ' = [some (.ref a), some (.ref p), some (.ref ad), some (.ref q), x, y])
        ⟨F3, kvs, [], y3, y4, G3, had3, mm3, hq3, lk, Nat.le_refl _, hrd3, fun ln => by rw [fk]; rfl, fun ln => by rw [List.take_zero]; rfl, rfl⟩
        (fun i σ' H' _ ⟨F', _, _, _, _, G, h, _⟩ => sql_fz G.fh h) ?_ ?_
      · rintro j x σ' H4 hx2 ⟨F4, kvs4, sv, x4, y4, G4, had4, mp4, mq4, lk4, ls4, rd4, fk4, fs4, rfl⟩
        obtain ⟨ln, hln, rln⟩ := rd4.get_map hx2
        obtain ⟨al, rfl, hal⟩ := strs_inv rln
        have okJ := G4.fh
        have hj : j < d.length := (List.getElem?_eq_some_iff.mp hln).1
        have dl := dO.1
        walk_at "go"
        walk_at "ss"
        walk_at "go"
        refine r_tupOf (by walk_at "up") (k_new okJ fun pk F5 H5 g5 hk5 nk5 => ?_)
        have okK := g5.fh
        have hkey : H5 pk = some (.tup ((kk ln).map kV)) := by rw [kk_map]; exact okK _ _ hk5
        have mp5 := g5.mu nil_not mp4
        have mq5 := g5.mu nil_not mq4
        have G5 := G4.comp g5 side_nil
        walk_at "go"
        walk_at "ss"
        walk_at "go"
        refine ⟨_, _, rfl, DGet.t (k := kk ln) mq5.1 hkey, ?_⟩
        walk_at "go"
        rw [fs4]
        have tk := take_more hln
        refine r_ite (fun c => ?_) (fun c => ?_)
        · have hni : ¬ ln ∈ d.take j := fun z => by rw [decide_eq_true z] at c; cases c
          walk_at "go"
          refine k_dputT (k := kk ln) okK mq5 hkey (by omega) fun F6 H6 g6 m6 => ?_
          have mp6 := g6.mu (one_not pq) mp5
          have hk6 : H6 pk = some (.tup ((kk ln).map kV)) := by rw [kk_map]; exact g6.fh _ _ (g6.at hk5)
          walk_at "go"
          refine ⟨_, rfl, .inr ⟨kvs4, .inl mp6.1⟩, ?_⟩
          walk_at "go"
          refine ⟨_, DGet.t (k := kk ln) mp6.1 hk6, ?_⟩
          have e1 : (valV kvs4 (kk ln)).getD (.int 0) = .int ((cnt (docs.take i) ln : Nat) : Int) := by rw [fk4, if_neg hni, Nat.add_zero, cntV_getD]
          rw [e1]
          walk_at "go"
          refine k_dputT (k := kk ln) g6.fh mp6 hk6 (by omega) fun F7 H7 g7 m7 => ?_
          refine ⟨F7, _, _, _, _, (G5.comp g6 (side_one (.inr nq0))).comp g7 (side_one (.inr np1)), g7.at (g6.at (g5.at had4)), m7, g7.mu (one_not pq.symm) m6, ?_, ?_, g7.rps (g6.rps (g5.rps rd4)), fun l2 => ?_, fun l2 => ?_, rfl⟩
          · exact Nat.le_trans (putK_len _ _ _) (by omega)
          · exact Nat.le_trans (putK_len _ _ _) (by omega)
          · rw [valV_put, tk]
            by_cases e : l2 = ln
            · subst e
              rw [if_pos rfl, if_pos (by simp)]
              unfold cntV
              rw [if_neg (by omega)]
              congr 2
            · rw [if_neg (fun z => e (kk_inj z)), fk4]
              have e2 : (l2 ∈ d.take j ++ [ln]) ↔ l2 ∈ d.take j := by simp [e]
              simp only [e2]
          · rw [valV_put, tk]
            by_cases e : l2 = ln
            · subst e
              rw [if_pos rfl, decide_eq_true (by simp)]
              rfl
            · rw [if_neg (fun z => e (kk_inj z)), fs4]
              exact decide_eq_decide.mpr (by simp [e])
        · have hi2 : ln ∈ d.take j := by
            cases z : decide (ln ∈ d.take j) with
            | true => exact of_decide_eq_true z
            | false => rw [z] at c; cases c
          walk_at "go"
          have e2 : ∀ l2, (l2 ∈ d.take j ++ [ln]) ↔ l2 ∈ d.take j := fun l2 => by
            constructor
            · intro z
              rcases List.mem_append.mp z with q | q
              · exact q
              · rw [List.mem_singleton.mp q]; exact hi2
            · exact fun z => List.mem_append_left _ z
          refine ⟨F5, kvs4, sv, _, _, G5, g5.at had4, mp5, mq5, by omega, by omega, g5.rps rd4, fun l2 => ?_, fun l2 => ?_, rfl⟩
          · rw [fk4, tk]
            simp only [e2 l2]
          · rw [fs4, tk]
            exact (decide_eq_decide.mpr (e2 l2)).symm
      · rintro σ' H4 ⟨F4, kvs4, sv, x4, y4, G4, had4, mp4, mq4, lk4, ls4, rd4, fk4, fs4, rfl⟩
        rw [hrd.len_map, List.take_length] at fk4
        have lx := hrd.len_map
        have dl := dO.1
        refine ⟨F4, kvs4, _, _, _, _, G4, mp4, by omega, fun l2 => ?_, rfl⟩
        rw [fk4, cnt_snoc hd]
    · rintro σ' H2 ⟨F2, kvs, y1, y2, y3, y4, G, mm, lk, fk, rfl⟩
      rw [hrr.len_map, List.take_length] at fk
      walk_at "go"
      refine k_fz G.fh mm fun F4 g4 hp4 => ?_
      exact k _ F4 H2 (G.comp g4 (side_one (.inr np1))) ⟨p, kvs, rfl, hp4, fk⟩

end
section
variable {P : Program} {w : World} {K : PySem.W.Frag} {mg : Str → Option Value} {base : Heap}

def fbV : Option (List Nat) → V
  | some w => .str (S w)
  | none => .non
def Fate.tag : Fate → Str
  | .short => "short"
  | .banned _ => "banned"
  | .common _ => "common"
  | .kept => "kept"
theorem Fate.tag_inv {F : Hp} {v : V} {f : Fate} (h : Rp F v f.enc) : ∃ a xs, v = .ref a ∧ F a = some (.tup xs) ∧ xs[0]? = some (.str f.tag) := by
  cases f with
  | short =>
    obtain ⟨a, xs, rfl, ha, r⟩ := Rp.tup_inv h
    obtain ⟨_, _, rfl, r1, r⟩ := r.cons_inv
    cases r1.str_inv
    exact ⟨a, _, rfl, ha, rfl⟩
  | banned w =>
    obtain ⟨a, xs, rfl, ha, r⟩ := Rp.tup_inv h
    obtain ⟨_, _, rfl, r1, r⟩ := r.cons_inv
    cases r1.str_inv
    exact ⟨a, _, rfl, ha, rfl⟩
  | common n =>
    obtain ⟨a, xs, rfl, ha, r⟩ := Rp.tup_inv h
    obtain ⟨_, _, rfl, r1, r⟩ := r.cons_inv
    cases r1.str_inv
    exact ⟨a, _, rfl, ha, rfl⟩
  | kept =>
    obtain ⟨a, xs, rfl, ha, r⟩ := Rp.tup_inv h
    obtain ⟨_, _, rfl, r1, r⟩ := r.cons_inv
    cases r1.str_inv
    exact ⟨a, _, rfl, ha, rfl⟩
theorem Fate.is_kept (f : Fate) : decide (V.str f.tag = V.str "kept") = decide (f = .kept) := by
  cases f with
  | short => rw [decide_eq_false (p := Fate.short = Fate.kept) (fun h => nomatch h)]; decide +kernel
  | banned w => rw [decide_eq_false (p := Fate.banned w = Fate.kept) (fun h => nomatch h)]; show decide (V.str "banned" = V.str "kept") = false; decide +kernel
  | common n => rw [decide_eq_false (p := Fate.common n = Fate.kept) (fun h => nomatch h)]; show decide (V.str "common" = V.str "kept") = false; decide +kernel
  | kept => rfl
def sp_first_banned : Sp := fun vs H Q _ => ∃ (F : Hp) (a b : Addr) (ln ban : Line), vs = [.ref a, .ref b] ∧ Same F H ∧ F a = some (.lst (ln.map fun x => V.str (S x))) ∧ F b = some (.lst (ban.map fun x => V.str (S x))) ∧
  Q (fbV (firstB ln ban)) H
abbrev N_first_banned : List Str := ["line", "banned", "word"]
theorem sc_first_banned : FnScope N_first_banned ["line", "banned"] (defScope s_first_banned) := ⟨rfl, rfl, rfl, by decide +kernel, rfl, by decide +kernel, by decide +kernel⟩
theorem ok_first_banned (T : Txt K mg) : OkG P w K mg base 1 "_first_banned" ["line", "banned"] sp_first_banned := by
  refine T.okG 21 21 rfl rfl (d := d_first_banned) sc_first_banned (fun _ _ _ _ _ _ us hl => match us, hl with | [_, _], _ => rfl) (fun vs H Q E h => ?_) (fun cdv A outer s H vs Q E hr h => ?_)
  · obtain ⟨_, _, _, _, _, rfl, _⟩ := h
    rfl
  · refine ⟨_, PSs.nox (pss_cons (ps_for PassesOwn.never rfl (pi_list (pv 0)) (pg_name (i := 2) sc_first_banned.nd rfl (Or.inl rfl))
        (pss_one (ps_if (pt_cmpR op_in_seq (pv 2) (pv 1) (by rfl))
          (pss_one (ps_ret (pv 2)))
          pss_nil)))
      (pss_one (ps_ret pe_non))), ?_⟩
    obtain ⟨F, a, b, ln, ban, rfl, ok, ha, hb, k⟩ := h
    walk_at "go"
    refine r_itL (sql_fz ok ha) ?_
    refine loopL (xs := ln.map fun x => V.str (S x)) (fun i σ' H' => ∃ (y : Option V), H' = H ∧ firstB (ln.take i) ban = none ∧ σ' = [some (.ref a), some (.ref b), y])
      ⟨none, rfl, rfl, rfl⟩ (fun i σ' H' _ ⟨_, e, _⟩ => by rw [e]; exact sql_fz ok ha) ?_ ?_
    · rintro i x σ' H2 hx ⟨y, rfl, f, rfl⟩
      obtain ⟨u, hu, rfl⟩ := map_at hx
      walk_at "go"
      walk_at "ss"
      walk_at "go"
      refine r_inL (sql_fz ok hb) rfl (flat_strs _) ?_
      rw [inV_strs]
      walk_at "go"
      refine r_ite (fun c => ?_) (fun c => ?_)
      · walk_at "go"
        have e : firstB ln ban = some u := by
          unfold firstB at f ⊢
          obtain ⟨hl, e⟩ := List.getElem?_eq_some_iff.mp hu
          have s : ln = ln.take i ++ (u :: ln.drop (i + 1)) := by
            rw [← e, ← List.drop_eq_getElem_cons hl, List.take_append_drop]
          rw [s, List.find?_append, f, List.find?_cons, c]
          rfl
        rw [e] at k
        exact k
      · walk_at "go"
        refine ⟨_, rfl, ?_, rfl⟩
        unfold firstB at f ⊢
        rw [take_more hu, List.find?_append, f, List.find?_cons, c]
        rfl
    · rintro σ' H2 ⟨y, rfl, f, rfl⟩
      rw [List.length_map, List.take_length] at f
      walk_at "go"
      rw [f] at k
      exact k

def sp_line_fate (K : PySem.W.Frag) : Sp := fun vs H Q _ => ∃ (F : Hp) (u v p : V) (ln : Line) (R : Ru) (docs : List (List Line)), vs = [u, v, p] ∧ Same F H ∧ Rp F u (encStrs ln) ∧ RuAt (RUF K) F v R ∧ CntAt F p docs ∧ 0 < cnt docs ln ∧
  ∀ (v' : V) (F' H' : Hp), Grow [] F H F' H' → Rp F' v' (fateOf R docs ln).enc → Q v' H'
abbrev N_line_fate : List Str := ["line", "rules", "counts", "word", "many"]
theorem sc_line_fate : FnScope N_line_fate ["line", "rules", "counts"] (defScope s_line_fate) := ⟨rfl, rfl, rfl, by decide +kernel, rfl, by decide +kernel, by decide +kernel⟩
theorem ok_line_fate (T : Txt K mg) : OkG P w K mg base 2 "_line_fate" ["line", "rules", "counts"] (sp_line_fate K) := by
  have m_len : mg "len" = none := T.free 68 rfl
  have m_tuple : mg "tuple" = none := T.free 71 rfl
  obtain ⟨f_first_banned, fd_first_banned, G_first_banned, mg_first_banned, kp_first_banned, b_first_banned⟩ := ok_first_banned (P := P) (w := w) (base := base) T
  refine T.okG 22 22 rfl rfl (d := d_line_fate) sc_line_fate (fun _ _ _ _ _ _ us hl => match us, hl with | [_, _, _], _ => rfl) (fun vs H Q E h => ?_) (fun cdv A outer s H vs Q E hr h => ?_)
  · obtain ⟨_, _, _, _, _, _, _, rfl, _⟩ := h
    rfl
  · have hu := hu_of hr
    refine ⟨_, PSs.nox (pss_cons (ps_if (pt_cmpR op_lt (pe_callB cr_lenL (by rfl) m_len PySem.boot_len (pa_cons (pv 0) pa_nil)) (pe_fld (pv 1) rfl) (nomark _))
        (pss_one (ps_ret (pe_tup (pa_cons pe_str pa_nil))))
        pss_nil)
      (pss_cons (ps_set (i := 3) sc_line_fate.nd rfl (Or.inl rfl) (pe_call G_first_banned (hr.mono (by decide)) rfl mg_first_banned kp_first_banned b_first_banned .nil pass0 (pa_cons (pv 0) (pa_cons (pe_fld (pv 1) rfl) pa_nil))))
      (pss_cons (ps_if (pt_cmpR op_notN1 (pv 3) pe_non (nomark _))
        (pss_one (ps_ret (pe_tup (pa_cons pe_str (pa_cons (pv 3) pa_nil)))))
        pss_nil)
      (pss_cons (ps_set (i := 4) sc_line_fate.nd rfl (Or.inl rfl) (pe_dget hu (pv 2) (pe_callTy cr_tupOf (by rfl) m_tuple (by decide +kernel) (pa_cons (pv 0) pa_nil)) (fun _ _ => rfl)))
      (pss_cons (ps_if (PW.pt (pw_and (pt_cmpR op_gt (pe_fld (pv 1) rfl) pe_int (nomark _)) (pw_and1 (pt_cmpR op_ge (pv 4) (pe_fld (pv 1) rfl) (nomark _)))))
        (pss_one (ps_ret (pe_tup (pa_cons pe_str (pa_cons (pv 4) pa_nil)))))
        pss_nil)
      (pss_one (ps_ret (pe_tup (pa_cons pe_str pa_nil))))))))), ?_⟩
    obtain ⟨F, u, v, p, ln, R, docs, rfl, ok, hu1, hR, hC, hpos, k⟩ := h
    obtain ⟨a, rfl, ha⟩ := strs_inv hu1
    obtain ⟨ar, dx, fs, rfl, har, RF⟩ := id hR
    obtain ⟨pc, kvs, rfl, hpc, fk⟩ := hC
    obtain ⟨x1, e1, r1⟩ := RF.banned
    obtain ⟨ab, rfl, hab⟩ := strs_inv r1
    walk_at "go"
    refine r_fldV (ok _ _ har) T.cR T.n_line_words RF.lineWords ?_
    walk_at "go"
    rw [List.length_map]
    unfold fateOf at k
    refine r_ite (fun c => ?_) (fun c => ?_)
    · have c := of_decide_eq_true c
      rw [if_pos (by omega)] at k
      walk_at "go"
      refine k_new ok fun pt F1 H1 g1 hp1 np1 => ?_
      exact k _ F1 H1 g1 (.tup hp1 (.cons (.str _) .nil))
    · have c := of_decide_eq_false c
      rw [if_neg (by omega)] at k
      walk_at "go"
      refine r_fldV (ok _ _ har) T.cR T.n_banned e1 ?_
      walk_at "go"
      refine ⟨F, a, ab, ln, R.banned, rfl, ok, ha, hab, ?_⟩
      walk_at "go"
      walk_at "ss"
      cases q : firstB ln R.banned with
      | some wb =>
        rw [q] at k
        refine r_iteT rfl ?_
        walk_at "go"
        refine k_new ok fun pt F1 H1 g1 hp1 np1 => ?_
        exact k _ F1 H1 g1 (.tup hp1 (.cons (.str _) (.cons (.str _) .nil)))
      | none =>
        rw [q] at k
        refine r_iteF rfl ?_
        walk_at "go"
        refine r_tupOf (sql_fz ok ha) (k_new ok fun pk F1 H1 g1 hp1 np1 => ?_)
        have hkey : H1 pk = some (.tup ((kk ln).map kV)) := by rw [kk_map]; exact g1.fh _ _ hp1
        have ev : valV kvs (kk ln) = some (.int (cnt docs ln : Int)) := by
          rw [fk]
          unfold cntV
          rw [if_neg (by omega)]
        refine ⟨_, _, rfl, by rw [← ev]; exact DGet.t (k := kk ln) (g1.fh _ _ (g1.at hpc)) hkey, ?_⟩
        walk_at "go"
        walk_at "ss"
        have k : ∀ (v' : V) (F' H' : Hp), Grow [] F H F' H' → Rp F' v' (if 0 < R.lineDocs ∧ R.lineDocs ≤ cnt docs ln then Fate.common (cnt docs ln) else Fate.kept).enc → Q v' H' := k
        have har1 := g1.fh _ _ (g1.at har)
        have kept : (¬ (0 < R.lineDocs ∧ R.lineDocs ≤ cnt docs ln)) → New (.tup [.str "kept"]) H1 Q := fun c2 => by
          rw [if_neg c2] at k
          refine k_new g1.fh fun pt F2 H2 g2 hp2 np2 => ?_
          exact k _ F2 H2 (g1.comp g2 side_nil) (.tup hp2 (.cons (.str _) .nil))
        refine r_fldV har1 T.cR T.n_line_documents RF.lineDocs ?_
        walk_at "go"
        refine r_ite (fun c2 => ?_) (fun c2 => ?_)
        · have c2 := of_decide_eq_true c2
          walk_at "go"
          refine r_fldV har1 T.cR T.n_line_documents RF.lineDocs ?_
          walk_at "go"
          refine r_ite (fun c3 => ?_) (fun c3 => ?_)
          · have c3 := of_decide_eq_true c3
            walk_at "go"
            refine k_new g1.fh fun pt F2 H2 g2 hp2 np2 => ?_
            rw [if_pos ⟨by omega, by omega⟩] at k
            exact k _ F2 H2 (g1.comp g2 side_nil) (.tup hp2 (.cons (.str _) (.cons (.int _) .nil)))
          · have c3 := of_decide_eq_false c3
            walk_at "go"
            exact kept fun z => c3 (by omega)
        · have c2 := of_decide_eq_false c2
          walk_at "go"
          exact kept fun z => c2 (by omega)

def sp_line_fates (K : PySem.W.Frag) : Sp := fun vs H Q _ => ∃ (F : Hp) (u v p : V) (d : List Line) (R : Ru) (docs : List (List Line)), vs = [u, v, p] ∧ Same F H ∧ Rp F u (encDoc d) ∧ RuAt (RUF K) F v R ∧ CntAt F p docs ∧ d.length ≤ 10000000 ∧ (∀ ln ∈ d, 0 < cnt docs ln) ∧
  ∀ (v' : V) (F' H' : Hp), Grow [] F H F' H' → Rp F' v' (encFs (d.map (fateOf R docs))) → Q v' H'
abbrev N_line_fates : List Str := ["lines", "rules", "counts", "line"]
theorem sc_line_fates : FnScope N_line_fates ["lines", "rules", "counts"] (defScope s_line_fates) := ⟨rfl, rfl, rfl, by decide +kernel, rfl, by decide +kernel, by decide +kernel⟩
theorem ok_line_fates (T : Txt K mg) : OkG P w K mg base 3 "line_fates" ["lines", "rules", "counts"] (sp_line_fates K) := by
  obtain ⟨f_line_fate, fd_line_fate, G_line_fate, mg_line_fate, kp_line_fate, b_line_fate⟩ := ok_line_fate (P := P) (w := w) (base := base) T
  refine T.okG 23 23 rfl rfl (d := d_line_fates) sc_line_fates (fun _ _ _ _ _ _ us hl => match us, hl with | [_, _, _], _ => rfl) (fun vs H Q E h => ?_) (fun cdv A outer s H vs Q E hr h => ?_)
  · obtain ⟨_, _, _, _, _, _, _, rfl, _⟩ := h
    rfl
  · refine ⟨_, PSs.nox (pss_one (ps_ret (pe_lc (own := [("line", 3)]) (g := gName 3) (tt := tYes) rfl sc_line_fates.nd (pi_list (pv 0)) (blkOk_by (own := [("line", 3)]) (N := N_line_fates) (sc := defScope s_line_fates) (by decide +kernel)) (fun _ _ _ _ _ => (pg_name (i := 3) sc_line_fates.nd rfl (Or.inl rfl))) (fun _ _ _ _ _ => pts_nil) (fun _ _ _ _ _ => (pe_call G_line_fate (hr.mono (by decide)) rfl mg_line_fate kp_line_fate b_line_fate .nil pass0 (pa_cons (pv 3) (pa_cons (pv 1) (pa_cons (pv 2) pa_nil)))))))), ?_⟩
    obtain ⟨F, u, v, p, d, R, docs, rfl, ok, hu1, hR, hC, hd, hpos, k⟩ := h
    obtain ⟨a, xs, rfl, ha, hrr⟩ := hu1.lst_inv
    walk_at "go"
    refine r_itL (sql_fz ok ha) fun Dl hD => ?_
    refine lcL_map (ds := d.map encStrs) (es := (d.map (fateOf R docs)).map Fate.enc) ok hD ha hrr (by simp) (by rw [List.length_map]; omega) ?_ ?_
    · intro j x dd e F3 H3 Kc hdd he rx g3 kc
      obtain ⟨ln, hln, rfl⟩ := map_at hdd
      obtain ⟨f, hf, rfl⟩ := map_at he
      obtain ⟨ln2, hln2, rfl⟩ := map_at hf
      rw [hln] at hln2
      cases hln2
      walk_at "go"
      refine ⟨rfl, ?_⟩
      walk_at "go"
      refine ⟨F3, x, v, p, ln, R, docs, rfl, g3.fh, rx, g3.ru hR, ?_, hpos ln (List.mem_of_getElem? hln), fun v4 F4 H4 g4 r4 => ?_⟩
      · obtain ⟨pc, kvs, e, hpc, fk⟩ := hC
        exact ⟨pc, kvs, e, g3.at hpc, fk⟩
      · exact kc v4 F4 H4 g4 r4
    · intro F3 H3 g3 r3
      exact k _ F3 H3 g3 r3

def sp_left_words : Sp := fun vs H Q _ => ∃ (F : Hp) (u v : V) (ls : List (List Wd)) (fs : List Fate), vs = [u, v] ∧ Same F H ∧ Rp F u (encLns ls) ∧ Rp F v (encFs fs) ∧ fs.length = ls.length ∧ ls.length ≤ 1601 ∧ (∀ l ∈ ls, l.length ≤ 1601) ∧
  ∀ (v' : V) (F' H' : Hp), Grow [] F H F' H' → Rp F' v' (.list ((leftW (ls.zip fs)).map encW)) → Q v' H'
abbrev N_left_words : List Str := ["lines", "fates", "words", "index"]
theorem sc_left_words : FnScope N_left_words ["lines", "fates"] (defScope s_left_words) := ⟨rfl, rfl, rfl, by decide +kernel, rfl, by decide +kernel, by decide +kernel⟩
theorem ok_left_words (T : Txt K mg) : OkG P w K mg base 1 "left_words" ["lines", "fates"] sp_left_words := by
  have m_len : mg "len" = none := T.free 68 rfl
  have m_range : mg "range" = none := T.free 70 rfl
  refine T.okG 24 24 rfl rfl (d := d_left_words) sc_left_words (fun _ _ _ _ _ _ us hl => match us, hl with | [_, _], _ => rfl) (fun vs H Q E h => ?_) (fun cdv A outer s H vs Q E hr h => ?_)
  · obtain ⟨_, _, _, _, _, rfl, _⟩ := h
    rfl
  · refine ⟨_, PSs.nox (pss_cons (ps_set (i := 2) sc_left_words.nd rfl (Or.inl rfl) (pe_lst pa_nil))
      (pss_cons (ps_for PassesOwn.never rfl (pi_range1 (by rfl) m_range (pa_cons (pe_callB cr_lenL (by rfl) m_len PySem.boot_len (pa_cons (pv 0) pa_nil)) pa_nil)) (pg_name (i := 3) sc_left_words.nd rfl (Or.inl rfl))
        (pss_one (ps_if (pt_cmpR op_eq (pe_ix ix_tup (pe_ix ix_list (pv 1) (pv 3) (fun _ _ => rfl)) pe_int (fun _ _ => rfl)) pe_str (nomark _))
          (pss_one (ps_expr (pe_bm PySem.F.plainAttrs_list PySem.F.slot_list_extend PySem.F.type_list_extend mt_extend (pv 2) (pa_cons (pe_ix ix_list (pv 0) (pv 3) (fun _ _ => rfl)) pa_nil))))
          pss_nil)))
      (pss_one (ps_ret (pv 2))))), ?_⟩
    obtain ⟨F, u, v, ls, fs, rfl, ok, hu1, hv1, hl, h1, h2, k⟩ := h
    obtain ⟨a, xs, rfl, ha, hra⟩ := hu1.lst_inv
    obtain ⟨b, ys, rfl, hb, hrb⟩ := hv1.lst_inv
    walk_at "go"
    refine k_mu ok fun p F1 H1 g1 hp1 np1 => ?_
    walk_at "go"
    walk_at "ss"
    have lx := hra.len_map
    rw [lx]
    refine r_rng1E (n := ls.length) rfl (by omega) ?_
    refine loopR0 (fun i σ' H' => ∃ (F' : Hp) (us : List V) (y : Option V), Grow [] F H F' H' ∧ Mu F' H' p (.lst us) ∧ us.length ≤ 1601 * i ∧ Rps F' us ((leftW ((ls.zip fs).take i)).map encW) ∧
      σ' = [some (.ref a), some (.ref b), some (.ref p), y]) ⟨F1, [], none, g1, hp1, Nat.zero_le _, .nil, rfl⟩ ?_ ?_
    · rintro i σ' H2 hi ⟨F2, us, y, G, m, lu, ru, rfl⟩
      have okL := G.fh
      have hli : ls[i]? = some ls[i] := List.getElem?_eq_getElem hi
      have hfi : fs[i]? = some fs[i] := List.getElem?_eq_getElem (by omega)
      obtain ⟨xl, hxl, rxl⟩ := (G.rps hra).at_map hli
      obtain ⟨xf, hxf, rxf⟩ := (G.rps hrb).at_map hfi
      obtain ⟨af, tf, rfl, haf, tag⟩ := Fate.tag_inv rxf
      obtain ⟨al, vl, rfl, hal, rvl⟩ := rxl.lst_inv
      have hz : (ls.zip fs)[i]? = some (ls[i], fs[i]) := by rw [List.getElem?_zip_eq_some]; exact ⟨hli, hfi⟩
      have lvl := rvl.len_map
      have lo := h2 ls[i] (List.mem_of_getElem? hli)
      walk_at "go"
      walk_at "ss"
      walk_at "go"
      refine r_ixL (n := i) (xs := ys) (by walk_at "up") rfl hxf ?_
      walk_at "go"
      refine r_ixT (n := 0) (by walk_at "up") rfl tag ?_
      walk_at "go"
      rw [Fate.is_kept]
      refine r_ite (fun c => ?_) (fun c => ?_)
      · have c := of_decide_eq_true c
        walk_at "go"
        refine r_ixL (n := i) (xs := xs) (by walk_at "up") rfl hxl ?_
        walk_at "go"
        refine r_extend m.1 (okL _ _ hal) (by omega) (k_wr okL m fun F3 H3 g3 m3 => ?_)
        refine ⟨F3, _, _, G.comp g3 (side_one (.inr np1)), m3, by rw [List.length_append]; omega, ?_, rfl⟩
        rw [take_more hz, leftW_snoc, if_pos c, List.map_append]
        exact (g3.rps ru).append (g3.rps rvl)
      · have c := of_decide_eq_false c
        walk_at "go"
        refine ⟨F2, us, _, G, m, by omega, ?_, rfl⟩
        rw [take_more hz, leftW_snoc, if_neg c, List.append_nil]
        exact ru
    · rintro σ' H2 ⟨F2, us, y, G, m, lu, ru, rfl⟩
      rw [List.take_of_length_le (by rw [List.length_zip]; omega)] at ru
      walk_at "go"
      refine k_fz G.fh m fun F3 g3 hp3 => ?_
      exact k _ F3 H2 (G.comp g3 (side_one (.inr np1))) (.lst hp3 (g3.rps ru))

def sp_drop_reason (K : PySem.W.Frag) : Sp := fun vs H Q _ => ∃ (F : Hp) (u v : V) (ws : List (List Nat)) (R : Ru), vs = [u, v] ∧ Same F H ∧ Rp F u (encStrs ws) ∧ RuAt (RUF K) F v R ∧ RuOk R ∧ R.shares.length ≤ 1000 ∧ ws.length ≤ 10000000 ∧ (∀ x ∈ ws, x.length ≤ 1000000) ∧
  ∀ (v' : V) (F' H' : Hp), Grow [] F H F' H' → Rp F' v' (encR (reasonOf R ws)) → Q v' H'
abbrev N_drop_reason : List Str := ["words", "rules", "index", "shape", "over", "under", "many", "word"]
theorem sc_drop_reason : FnScope N_drop_reason ["words", "rules"] (defScope s_drop_reason) := ⟨rfl, rfl, rfl, by decide +kernel, rfl, by decide +kernel, by decide +kernel⟩
theorem ok_drop_reason (T : Txt K mg) : OkG P w K mg base 6 "drop_reason" ["words", "rules"] (sp_drop_reason K) := by
  have m_len : mg "len" = none := T.free 68 rfl
  have m_range : mg "range" = none := T.free 70 rfl
  obtain ⟨f_has_shape, fd_has_shape, G_has_shape, mg_has_shape, kp_has_shape, b_has_shape⟩ := ok_has_shape (P := P) (w := w) (base := base) T
  refine T.okG 25 25 rfl rfl (d := d_drop_reason) sc_drop_reason (fun _ _ _ _ _ _ us hl => match us, hl with | [_, _], _ => rfl) (fun vs H Q E h => ?_) (fun cdv A outer s H vs Q E hr h => ?_)
  · obtain ⟨_, _, _, _, _, rfl, _⟩ := h
    rfl
  · refine ⟨_, PSs.nox (pss_cons (ps_if (pt_cmpR op_lt (pe_callB cr_lenL (by rfl) m_len PySem.boot_len (pa_cons (pv 0) pa_nil)) (pe_fld (pv 1) rfl) (nomark _))
        (pss_one (ps_ret (pe_tup (pa_cons pe_str pa_nil))))
        pss_nil)
      (pss_cons (ps_for PassesOwn.never rfl (pi_range1 (by rfl) m_range (pa_cons (pe_callB cr_lenL (by rfl) m_len PySem.boot_len (pa_cons (pe_fld (pv 1) rfl) pa_nil)) pa_nil)) (pg_name (i := 2) sc_drop_reason.nd rfl (Or.inl rfl))
        (pss_cons (ps_asg (pe_ix ix_list (pe_fld (pv 1) rfl) (pv 2) (fun _ _ => rfl)) (pg_tup (by rfl) (pgs_cons (pg_name (i := 3) sc_drop_reason.nd rfl (Or.inr rfl)) (pgs_cons (pg_name (i := 4) sc_drop_reason.nd rfl (Or.inl rfl)) (pgs_cons (pg_name (i := 5) sc_drop_reason.nd rfl (Or.inl rfl)) pgs_nil)))))
        (pss_cons (ps_set (i := 6) sc_drop_reason.nd rfl (Or.inl rfl) (pe_callB cr_lenL (by rfl) m_len PySem.boot_len (pa_cons (pe_lc (own := [("word", 7)]) (g := gName 7) rfl sc_drop_reason.nd (pi_list (pv 0)) (blkOk_by (own := [("word", 7)]) (N := N_drop_reason) (sc := defScope s_drop_reason) (by decide +kernel)) (fun _ _ _ _ _ => (pg_name (i := 7) sc_drop_reason.nd rfl (Or.inl rfl))) (fun _ _ _ _ _ => (pts_one (pt_val (pe_call G_has_shape (hr.mono (by decide)) rfl mg_has_shape kp_has_shape b_has_shape .nil pass0 (pa_cons (pv 7) (pa_cons (pv 3) pa_nil)))))) (fun _ _ _ _ _ => (pv 7))) pa_nil)))
        (pss_one (ps_if (pt_cmpR op_gt (pe_op op_mul (pv 6) (pv 5)) (pe_op op_mul (pv 4) (pe_callB cr_lenL (by rfl) m_len PySem.boot_len (pa_cons (pv 0) pa_nil))) (nomark _))
          (pss_one (ps_ret (pe_tup (pa_cons pe_str (pa_cons (pv 2) pa_nil)))))
          pss_nil)))))
      (pss_one (ps_ret pe_non)))), ?_⟩
    obtain ⟨F, u, v, ws, R, rfl, ok, hu1, hR, hO, hs, hw, hww, k⟩ := h
    obtain ⟨a, rfl, ha⟩ := strs_inv hu1
    obtain ⟨ar, dx, fs, rfl, har, RF⟩ := id hR
    obtain ⟨x1, e1, r1⟩ := RF.shares
    obtain ⟨as, xs, rfl, hasx, hrs⟩ := r1.lst_inv
    walk_at "go"
    refine r_fldV (ok _ _ har) T.cR T.n_document_words RF.docWords ?_
    walk_at "go"
    rw [List.length_map]
    unfold reasonOf at k
    refine r_ite (fun c => ?_) (fun c => ?_)
    · have c := of_decide_eq_true c
      rw [if_pos (by omega)] at k
      walk_at "go"
      refine k_new ok fun pt F1 H1 g1 hp1 np1 => ?_
      exact k _ F1 H1 g1 (.tup hp1 (.cons (.str _) .nil))
    · have c := of_decide_eq_false c
      rw [if_neg (by omega)] at k
      walk_at "go"
      refine r_fldV (ok _ _ har) T.cR T.n_shares e1 ?_
      walk_at "go"
      have lx := hrs.len_map
      rw [lx]
      refine r_rng1E (n := R.shares.length) rfl (by omega) ?_
      refine loopR0 (fun i σ' H' => ∃ (F' : Hp) (y1 y2 y3 y4 y5 : Option V), Grow [] F H F' H' ∧ (∀ j s, j < i → R.shares[j]? = some s → overShare ws s = false) ∧
        σ' = [some (.ref a), some (.ref ar), y1, y2, y3, y4, y5, none]) ⟨F, none, none, none, none, none, Grow.refl ok, fun j s hj => absurd hj (by omega), rfl⟩ ?_ ?_
      · rintro i σ' H2 hi ⟨F2, y1, y2, y3, y4, y5, G, fi, rfl⟩
        have okL := G.fh
        have hsi : R.shares[i]? = some R.shares[i] := List.getElem?_eq_getElem hi
        obtain ⟨x, hx, rx⟩ := (G.rps hrs).at_map hsi
        obtain ⟨ax, vx, rfl, hax, rvx⟩ := rx.tup_inv
        obtain ⟨z1, _, rfl, q1, rvx⟩ := rvx.cons_inv
        obtain ⟨_, _, rfl, q2, rvx⟩ := rvx.cons_inv
        obtain ⟨_, _, rfl, q3, rvx⟩ := rvx.cons_inv
        cases rvx.nil_inv
        cases q2.int_inv
        cases q3.int_inv
        have so := hO.shr R.shares[i] (List.mem_of_getElem? hsi)
        walk_at "go"
        walk_at "ss"
        walk_at "go"
        refine r_fldV (okL _ _ (G.at har)) T.cR T.n_shares e1 ?_
        walk_at "go"
        refine r_ixL (n := i) (xs := xs) (by walk_at "up") rfl hx ?_
        walk_at "go"
        walk_at "ss"
        refine r_itL (xs := ws.map fun x => V.str (S x)) (by walk_at "up") fun Dl hD => ?_
        have hra := (hu1.up G.ff)
        obtain ⟨a2, xs2, ea2, ha2, hra2⟩ := hra.lst_inv
        cases ea2
        refine lcL_filter (xs := xs2) (ds := ws.map fun x => .str (S x)) (fun d => match d with | .str z => has (tl z) R.shares[i].1 | _ => false) okL hD ha2 hra2 (by rw [List.length_map]; omega) (fun _ => rfl) (fun _ => rfl) ?_ ?_
        · intro j x d F3 H3 Kt hd rx g3 kt
          obtain ⟨wd, hwd, rfl⟩ := map_at hd
          cases rx.str_inv
          walk_at "go"
          refine ⟨F3, wd, z1, R.shares[i].1, rfl, g3.fh, g3.rp q1, hww wd (List.mem_of_getElem? hwd), so.1, fun F4 H4 g4 => ?_⟩
          walk_at "go"
          exact kt F4 H4 g4
        · intro F3 H3 g3 r3
          have ef : (ws.map fun x => PyData.str (S x)).filter (fun d => match d with | .str z => has (tl z) R.shares[i].1 | _ => false) = (ws.filter fun w => has w R.shares[i].1).map fun x => .str (S x) := by
            rw [List.filter_map]
            rfl
          rw [ef] at r3
          obtain ⟨af, haf0, haf⟩ := strs_inv r3
          cases haf0
          have okM := g3.fh
          walk_at "go"
          walk_at "ss"
          rw [List.length_map]
          have lf := List.length_filter_le (fun w => has w R.shares[i].1) ws
          refine r_I (.inl ⟨by omega, by omega⟩) ?_
          walk_at "go"
          rw [hra2.len_map]
          refine r_I (.inl ⟨by omega, by omega⟩) ?_
          walk_at "go"
          have eo : overShare ws R.shares[i] = decide (((R.shares[i].2.1 : Int) * (ws.length : Int)) < (((ws.filter fun w => has w R.shares[i].1).length : Int) * (R.shares[i].2.2 : Int))) := by
            unfold overShare
            exact decide_eq_decide.mpr (by rw [← Int.natCast_mul, ← Int.natCast_mul]; exact Int.ofNat_lt.symm)
          rw [← eo]
          refine r_ite (fun c2 => ?_) (fun c2 => ?_)
          · walk_at "go"
            refine k_new g3.fh fun pt F4 H4 g4 hp4 np4 => ?_
            rw [shIx_hit fi hsi c2, Nat.zero_add] at k
            exact k _ F4 H4 ((G.comp g3 side_nil).comp g4 side_nil) (.tup hp4 (.cons (.str _) (.cons (.int _) .nil)))
          · walk_at "go"
            refine ⟨F3, _, _, _, _, _, G.comp g3 side_nil, fun j s hj hs2 => ?_, rfl⟩
            by_cases ej : j = i
            · subst ej
              rw [hsi] at hs2
              cases hs2
              exact c2
            · exact fi j s (by omega) hs2
      · rintro σ' H2 ⟨F2, y1, y2, y3, y4, y5, G, fi, rfl⟩
        walk_at "go"
        rw [shIx_none fun j s hs2 => fi j s (List.getElem?_eq_some_iff.mp hs2).1 hs2] at k
        exact k _ F2 H2 G .non

def sp_plain_lines : Sp := fun vs H Q _ => ∃ (F : Hp) (u : V) (ls : List (List Wd)), vs = [u] ∧ Same F H ∧ Rp F u (encLns ls) ∧ ls.length ≤ 10000000 ∧ (∀ l ∈ ls, l.length ≤ 10000000) ∧
  ∀ (v' : V) (F' H' : Hp), Grow [] F H F' H' → Rp F' v' (encDoc (plain ls)) → Q v' H'
abbrev N_plain_lines : List Str := ["lines", "line", "word", "first", "last"]
theorem sc_plain_lines : FnScope N_plain_lines ["lines"] (defScope s_plain_lines) := ⟨rfl, rfl, rfl, by decide +kernel, rfl, by decide +kernel, by decide +kernel⟩
theorem ok_plain_lines (T : Txt K mg) : OkG P w K mg base 1 "_plain_lines" ["lines"] sp_plain_lines := by
  refine T.okG 26 26 rfl rfl (d := d_plain_lines) sc_plain_lines (fun _ _ _ _ _ _ us hl => match us, hl with | [_], _ => rfl) (fun vs H Q E h => ?_) (fun cdv A outer s H vs Q E hr h => ?_)
  · obtain ⟨_, _, _, rfl, _⟩ := h
    rfl
  · refine ⟨_, PSs.nox (pss_one (ps_ret (pe_lc (own := [("line", 1)]) (g := gName 1) (tt := tYes) rfl sc_plain_lines.nd (pi_list (pv 0)) (blkOk_by (own := [("line", 1)]) (N := N_plain_lines) (sc := defScope s_plain_lines) (by decide +kernel)) (fun _ _ _ _ _ => (pg_name (i := 1) sc_plain_lines.nd rfl (Or.inl rfl))) (fun _ _ _ _ _ => pts_nil) (by intro _ _ _ _ _; refine' pe_lc (wi := iList K (tVar 1)) (te := tVar 2) (own := [("word", 2), ("first", 3), ("last", 4)]) (g := gTup K 3 (gCons (gName 2) (gCons (gName 3) (gCons (gName 4) gNil)))) (tt := tYes) rfl sc_plain_lines.nd ?_ ?_ ?_ ?_ ?_; (exact (pi_list (pv 1))); (exact (blkOk_by (own := [("word", 2), ("first", 3), ("last", 4)]) (N := N_plain_lines) (by kernel_rfl))); (exact (fun _ _ _ _ _ => (pg_tup (by rfl) (pgs_cons (pg_name (i := 2) sc_plain_lines.nd rfl (Or.inl rfl)) (pgs_cons (pg_name (i := 3) sc_plain_lines.nd rfl (Or.inl rfl)) (pgs_cons (pg_name (i := 4) sc_plain_lines.nd rfl (Or.inl rfl)) pgs_nil)))))); (exact (fun _ _ _ _ _ => pts_nil)); (exact (fun _ _ _ _ _ => (pv 2))))))), ?_⟩
    obtain ⟨F, u, ls, rfl, ok, hu1, h1, h2, k⟩ := h
    obtain ⟨a, xs, rfl, ha, hrr⟩ := hu1.lst_inv
    walk_at "go"
    refine r_itL (sql_fz ok ha) fun Dl hD => ?_
    refine lcL_map (ds := ls.map encLn) (es := (plain ls).map encStrs) ok hD ha hrr (by simp [plain]) (by rw [List.length_map]; omega) ?_ ?_
    · intro j x dd e F3 H3 Kc hdd he rx g3 kc
      obtain ⟨l, hl, rfl⟩ := map_at hdd
      obtain ⟨pl, hpl, rfl⟩ := map_at he
      obtain ⟨l2, hl2, rfl⟩ := map_at (f := fun l : List Wd => l.map fun x => x.1) hpl
      rw [hl] at hl2
      cases hl2
      obtain ⟨al, xl, rfl, hal, hrl⟩ := rx.lst_inv
      have okL := g3.fh
      walk_at "go"
      refine ⟨rfl, ?_⟩
      walk_at "go"
      refine r_itL (by walk_at "up") fun D2 hD2 => ?_
      refine lcL_map (ds := l.map encW) (es := (l.map fun x => x.1).map fun x => .str (S x)) okL hD2 hal hrl (by simp) (by rw [List.length_map]; have := h2 l (List.mem_of_getElem? hl); omega) ?_ ?_
      · intro j2 x2 d2 e2 F4 H4 Kc2 hd2 he2 rx2 g4 kc2
        obtain ⟨wd, hwd, rfl⟩ := map_at hd2
        obtain ⟨x1, hx1, rfl⟩ := map_at he2
        obtain ⟨wd2, hwd2, rfl⟩ := map_at hx1
        rw [hwd] at hwd2
        cases hwd2
        obtain ⟨aw, rfl, haw⟩ := encW_inv rx2
        have okJ := g4.fh
        walk_at "go"
        refine ⟨rfl, ?_⟩
        walk_at "go"
        exact kc2 _ F4 H4 (Grow.refl okJ) (.str _)
      · intro F4 H4 g4 r4
        exact kc _ F4 H4 g4 r4
    · intro F3 H3 g3 r3
      exact k _ F3 H3 g3 r3

def TsOk (ts : List (List Nat)) : Prop := ts.length ≤ 100 ∧ ∀ t ∈ ts, t.length ≤ 200
def sp_clean_documents (K : PySem.W.Frag) : Sp := fun vs H Q _ => ∃ (F : Hp) (u v : V) (ts : List (List Nat)) (R : Ru), vs = [u, v] ∧ Same F H ∧ Rp F u (encStrs ts) ∧ RuAt (RUF K) F v R ∧ RuOk R ∧ R.shares.length ≤ 1000 ∧ (∀ c ∈ R.changes, c.2.length ≤ 8) ∧ TsOk ts ∧
  ∀ (v' : V) (F' H' : Hp), Grow [] F H F' H' → Rp F' v' (.list ((cleanR R ts).map encRow)) → Q v' H'
abbrev N_clean_documents : List Str := ["texts", "rules", "placed", "plain", "counts", "rows", "index", "fates", "words", "text", "lines", "word", "first", "last"]
theorem sc_clean_documents : FnScope N_clean_documents ["texts", "rules"] (defScope s_clean_documents) := ⟨rfl, rfl, rfl, by decide +kernel, rfl, by decide +kernel, by decide +kernel⟩
theorem ok_clean_documents (T : Txt K mg) : OkG P w K mg base 10 "clean_documents" ["texts", "rules"] (sp_clean_documents K) := by
  have m_len : mg "len" = none := T.free 68 rfl
  have m_range : mg "range" = none := T.free 70 rfl
  obtain ⟨f_text_lines, fd_text_lines, G_text_lines, mg_text_lines, kp_text_lines, b_text_lines⟩ := ok_text_lines (P := P) (w := w) (base := base) T
  obtain ⟨f_plain_lines, fd_plain_lines, G_plain_lines, mg_plain_lines, kp_plain_lines, b_plain_lines⟩ := ok_plain_lines (P := P) (w := w) (base := base) T
  obtain ⟨f_count_lines, fd_count_lines, G_count_lines, mg_count_lines, kp_count_lines, b_count_lines⟩ := ok_count_lines (P := P) (w := w) (base := base) T
  obtain ⟨f_line_fates, fd_line_fates, G_line_fates, mg_line_fates, kp_line_fates, b_line_fates⟩ := ok_line_fates (P := P) (w := w) (base := base) T
  obtain ⟨f_left_words, fd_left_words, G_left_words, mg_left_words, kp_left_words, b_left_words⟩ := ok_left_words (P := P) (w := w) (base := base) T
  obtain ⟨f_drop_reason, fd_drop_reason, G_drop_reason, mg_drop_reason, kp_drop_reason, b_drop_reason⟩ := ok_drop_reason (P := P) (w := w) (base := base) T
  refine T.okG 27 27 rfl rfl (d := d_clean_documents) sc_clean_documents (fun _ _ _ _ _ _ us hl => match us, hl with | [_, _], _ => rfl) (fun vs H Q E h => ?_) (fun cdv A outer s H vs Q E hr h => ?_)
  · obtain ⟨_, _, _, _, _, rfl, _⟩ := h
    rfl
  · refine ⟨_, PSs.nox (pss_cons (ps_setLc (i := 2) (own := [("text", 9)]) (g := gName 9) (tt := tYes) rfl sc_clean_documents.nd rfl rfl (sw_true rfl rfl rfl (by decide +kernel)) (pi_list (pv 0)) (blkOk_by (own := [("text", 9)]) (N := N_clean_documents) (sc := defScope s_clean_documents) (by decide +kernel)) (fun _ _ _ _ _ => (pg_name (i := 9) sc_clean_documents.nd rfl (Or.inl rfl))) (fun _ _ _ _ _ => pts_nil) (fun _ _ _ _ _ => (pe_call G_text_lines (hr.mono (by decide)) rfl mg_text_lines kp_text_lines b_text_lines .nil pass0 (pa_cons (pv 9) (pa_cons (pv 1) pa_nil)))))
      (pss_cons (ps_setLc (i := 3) (own := [("lines", 10)]) (g := gName 10) (tt := tYes) rfl sc_clean_documents.nd rfl rfl (sw_true rfl rfl rfl (by decide +kernel)) (pi_list (pv 2)) (blkOk_by (own := [("lines", 10)]) (N := N_clean_documents) (sc := defScope s_clean_documents) (by decide +kernel)) (fun _ _ _ _ _ => (pg_name (i := 10) sc_clean_documents.nd rfl (Or.inl rfl))) (fun _ _ _ _ _ => pts_nil) (fun _ _ _ _ _ => (pe_call G_plain_lines (hr.mono (by decide)) rfl mg_plain_lines kp_plain_lines b_plain_lines .nil pass0 (pa_cons (pv 10) pa_nil))))
      (pss_cons (ps_set (i := 4) sc_clean_documents.nd rfl (Or.inl rfl) (pe_call G_count_lines (hr.mono (by decide)) rfl mg_count_lines kp_count_lines b_count_lines .nil pass0 (pa_cons (pv 3) pa_nil)))
      (pss_cons (ps_set (i := 5) sc_clean_documents.nd rfl (Or.inl rfl) (pe_lst pa_nil))
      (pss_cons (ps_for PassesOwn.never rfl (pi_range1 (by rfl) m_range (pa_cons (pe_callB cr_lenL (by rfl) m_len PySem.boot_len (pa_cons (pv 0) pa_nil)) pa_nil)) (pg_name (i := 6) sc_clean_documents.nd rfl (Or.inl rfl))
        (pss_cons (ps_set (i := 7) sc_clean_documents.nd rfl (Or.inl rfl) (pe_call G_line_fates (hr.mono (by decide)) rfl mg_line_fates kp_line_fates b_line_fates .nil pass0 (pa_cons (pe_ix ix_list (pv 3) (pv 6) (fun _ _ => rfl)) (pa_cons (pv 1) (pa_cons (pv 4) pa_nil)))))
        (pss_cons (ps_set (i := 8) sc_clean_documents.nd rfl (Or.inl rfl) (pe_call G_left_words (hr.mono (by decide)) rfl mg_left_words kp_left_words b_left_words .nil pass0 (pa_cons (pe_ix ix_list (pv 2) (pv 6) (fun _ _ => rfl)) (pa_cons (pv 7) pa_nil))))
        (pss_one (ps_expr (pe_bm PySem.F.plainAttrs_list PySem.F.slot_list_append PySem.F.type_list_append mt_append (pv 5) (pa_cons (pe_tup (pa_cons (pe_call G_drop_reason (hr.mono (by decide)) rfl mg_drop_reason kp_drop_reason b_drop_reason .nil pass0 (pa_cons (pe_lc (own := [("word", 11), ("first", 12), ("last", 13)]) (g := gTup K 3 (gCons (gName 11) (gCons (gName 12) (gCons (gName 13) gNil)))) (tt := tYes) rfl sc_clean_documents.nd (pi_list (pv 8)) (blkOk_by (own := [("word", 11), ("first", 12), ("last", 13)]) (N := N_clean_documents) (sc := defScope s_clean_documents) (by decide +kernel)) (fun _ _ _ _ _ => (pg_tup (by rfl) (pgs_cons (pg_name (i := 11) sc_clean_documents.nd rfl (Or.inl rfl)) (pgs_cons (pg_name (i := 12) sc_clean_documents.nd rfl (Or.inl rfl)) (pgs_cons (pg_name (i := 13) sc_clean_documents.nd rfl (Or.inl rfl)) pgs_nil))))) (fun _ _ _ _ _ => pts_nil) (fun _ _ _ _ _ => (pv 11))) (pa_cons (pv 1) pa_nil))) (pa_cons (pv 7) (pa_cons (pv 8) pa_nil)))) pa_nil)))))))
      (pss_one (ps_ret (pv 5)))))))), ?_⟩
    obtain ⟨F, u, v, ts, R, rfl, ok, hu1, hR, hO, hs, hch, hts, k⟩ := h
    obtain ⟨a, rfl, ha⟩ := strs_inv hu1
    obtain ⟨a2, xs, ea, ha2, hrr⟩ := hu1.lst_inv
    cases ea
    have lno := fun t ht => lnOf_ok (t := t) (b := 8) hO hch (hts.2 t ht)
    walk_at "go"
    refine r_itL (sql_fz ok ha) fun Dl hD => ?_
    refine lcL_map (ds := ts.map fun x => .str (S x)) (es := (ts.map (lnOf R)).map encLns) ok hD ha2 hrr (by simp) (by rw [List.length_map]; have := hts.1; omega) ?_ ?_
    · intro j x dd e F3 H3 Kc hdd he rx g3 kc
      obtain ⟨t, ht, rfl⟩ := map_at hdd
      obtain ⟨ln, hln, rfl⟩ := map_at he
      obtain ⟨t2, ht2, rfl⟩ := map_at hln
      rw [ht] at ht2
      cases ht2
      cases rx.str_inv
      walk_at "go"
      refine ⟨rfl, ?_⟩
      walk_at "go"
      refine ⟨F3, t, v, R, rfl, g3.fh, g3.ru hR, hO, by have := hts.2 t (List.mem_of_getElem? ht); omega, fun v4 F4 H4 g4 r4 => ?_⟩
      exact kc v4 F4 H4 g4 r4
    intro F1 H1 g1 r1
    obtain ⟨pa, px, epa, hpa, hpr⟩ := r1.lst_inv
    cases epa
    walk_at "go"
    walk_at "ss"
    refine r_itL (by walk_at "up") fun D2 hD2 => ?_
    have okA := g1.fh
    refine lcL_map (ds := (ts.map (lnOf R)).map encLns) (es := ((ts.map (lnOf R)).map plain).map encDoc) okA hD2 hpa hpr (by simp) (by rw [List.length_map, List.length_map]; have := hts.1; omega) ?_ ?_
    · intro j x dd e F3 H3 Kc hdd he rx g3 kc
      obtain ⟨ln, hln, rfl⟩ := map_at hdd
      obtain ⟨pl, hpl, rfl⟩ := map_at he
      obtain ⟨ln2, hln2, rfl⟩ := map_at hpl
      rw [hln] at hln2
      cases hln2
      obtain ⟨t, ht, rfl⟩ := map_at hln
      have lo := lno t (List.mem_of_getElem? ht)
      walk_at "go"
      refine ⟨rfl, ?_⟩
      walk_at "go"
      refine ⟨F3, x, _, rfl, g3.fh, rx, by have := lo.1; omega, fun l hl => by have := (lo.2 l hl).1; omega, fun v4 F4 H4 g4 r4 => ?_⟩
      exact kc v4 F4 H4 g4 r4
    intro F2 H2 g2 r2
    have G2 := g1.comp g2 side_nil
    walk_at "go"
    walk_at "ss"
    walk_at "go"
    have plo : ∀ d ∈ (ts.map (lnOf R)).map plain, DocOk d := fun d hd => by
      obtain ⟨ln, hln, rfl⟩ := List.mem_map.mp hd
      obtain ⟨t, ht, rfl⟩ := List.mem_map.mp hln
      exact plain_ok (lno t ht)
    refine ⟨F2, _, _, rfl, g2.fh, r2, by rw [List.length_map, List.length_map]; exact hts.1, plo, fun v3 F3 H3 g3 c3 => ?_⟩
    have G3 := G2.comp g3 side_nil
    have pr3 := g3.rps (g2.rps hpr)
    have ppa := g3.at (g2.at hpa)
    obtain ⟨qa, qx, eqa, hqa, hqr⟩ := (g3.rp r2).lst_inv
    cases eqa
    walk_at "go"
    walk_at "ss"
    walk_at "go"
    refine k_mu g3.fh fun p F4 H4 g4 hp4 np4 => ?_
    have np0 := G3.back0 np4
    have G4 := G3.comp g4 side_nil
    walk_at "go"
    walk_at "ss"
    have ok4 := g4.fh
    rw [hrr.len_map]
    refine r_rng1E (n := ts.length) rfl (by have := hts.1; omega) ?_
    have ha4 := G4.at ha
    have c4 : CntAt F4 v3 ((ts.map (lnOf R)).map plain) := by
      obtain ⟨pc, kvs, e, hpc, fk⟩ := c3
      exact ⟨pc, kvs, e, g4.at hpc, fk⟩
    have pr4 := g4.rps pr3
    have pp4 := g4.at ppa
    have qr4 := g4.rps hqr
    have qq4 := g4.at hqa
    refine loopR0 (fun i σ' H' => ∃ (F' : Hp) (us : List V) (y1 y2 y3 : Option V), Grow [] F H F' H' ∧ Same F4 F' ∧ Mu F' H' p (.lst us) ∧ Rps F' us (((ts.map (lnOf R)).take i).map fun l => encRow (rowOf R ((ts.map (lnOf R)).map plain) l)) ∧
      σ' = [some (.ref a), some v, some (.ref Dl), some (.ref D2), some v3, some (.ref p), y1, y2, y3, none, none, none, none, none]) ⟨F4, [], none, none, none, G4, fun _ _ e => e, hp4, .nil, rfl⟩ ?_ ?_
    · rintro i σ' H5 hi ⟨F5, us, y1, y2, y3, G5, s5, m5, r5, rfl⟩
      have okL := G5.fh
      have pp5 := s5 _ _ pp4
      have qq5 := s5 _ _ qq4
      have pr5 := Rps.up s5 _ pr4
      have qr5 := Rps.up s5 _ qr4
      have hti : ts[i]? = some ts[i] := List.getElem?_eq_getElem hi
      have hli : (ts.map (lnOf R))[i]? = some (lnOf R ts[i]) := by rw [List.getElem?_map, hti]; rfl
      have hdi : ((ts.map (lnOf R)).map plain)[i]? = some (plain (lnOf R ts[i])) := by rw [List.getElem?_map, hli]; rfl
      obtain ⟨xp, hxp, rxp⟩ := pr5.at_map hli
      obtain ⟨xq, hxq, rxq⟩ := qr5.at_map hdi
      have lo := lno ts[i] (List.mem_of_getElem? hti)
      have c5 : CntAt F5 v3 ((ts.map (lnOf R)).map plain) := by
        obtain ⟨pc, kvs, e, hpc, fk⟩ := c4
        exact ⟨pc, kvs, e, s5 _ _ hpc, fk⟩
      walk_at "go"
      walk_at "ss"
      walk_at "go"
      refine r_ixL (n := i) (xs := qx) (by walk_at "up") rfl hxq ?_
      walk_at "go"
      refine ⟨F5, xq, v, v3, _, R, _, rfl, okL, rxq, G5.ru hR, c5, by have := (plo _ (List.mem_of_getElem? hdi)).1; omega, fun ln hln => cnt_pos (List.mem_of_getElem? hdi) hln, fun vf F6 H6 g6 r6 => ?_⟩
      have ok6 := g6.fh
      walk_at "go"
      walk_at "ss"
      walk_at "go"
      refine r_ixL (n := i) (xs := px) (by walk_at "up") rfl hxp ?_
      walk_at "go"
      refine ⟨F6, xp, vf, _, _, rfl, ok6, g6.rp rxp, r6, by simp [plain], by have := lo.1; omega, fun l hl => by have := (lo.2 l hl).1; omega, fun vw F7 H7 g7 r7 => ?_⟩
      have ok7 := g7.fh
      obtain ⟨aw, wx, rfl, haw, wr⟩ := r7.lst_inv
      walk_at "go"
      walk_at "ss"
      walk_at "go"
      refine r_itL (by walk_at "up") fun D3 hD3 => ?_
      have lwo := leftW_ok (fs := (plain (lnOf R ts[i])).map (fateOf R ((ts.map (lnOf R)).map plain))) lo
      refine lcL_map (ds := (leftW ((lnOf R ts[i]).zip ((plain (lnOf R ts[i])).map (fateOf R ((ts.map (lnOf R)).map plain))))).map encW) (es := ((leftW ((lnOf R ts[i]).zip ((plain (lnOf R ts[i])).map (fateOf R ((ts.map (lnOf R)).map plain))))).map fun x => x.1).map fun x => .str (S x)) ok7 hD3 haw wr (by simp) (by rw [List.length_map]; have := lwo.1; omega) ?_ ?_
      · intro j2 x2 d2 e2 F8 H8 Kc2 hd2 he2 rx2 g8 kc2
        obtain ⟨wd, hwd, rfl⟩ := map_at hd2
        obtain ⟨x1, hx1, rfl⟩ := map_at he2
        obtain ⟨wd2, hwd2, rfl⟩ := map_at hx1
        rw [hwd] at hwd2
        cases hwd2
        obtain ⟨aw2, rfl, haw2⟩ := encW_inv rx2
        have okJ := g8.fh
        walk_at "go"
        refine ⟨rfl, ?_⟩
        walk_at "go"
        exact kc2 _ F8 H8 (Grow.refl okJ) (.str _)
      · intro F8 H8 g8 r8
        have ok8 := g8.fh
        walk_at "go"
        refine ⟨F8, _, v, _, R, rfl, ok8, r8, g8.ru (g7.ru (g6.ru (G5.ru hR))), hO, hs, by rw [List.length_map]; have := lwo.1; omega, fun x hx => ?_, fun vr F9 H9 g9 r9 => ?_⟩
        · obtain ⟨y, hy, rfl⟩ := List.mem_map.mp hx
          have := lwo.2 y hy
          omega
        walk_at "go"
        refine k_new g9.fh fun pt F10 H10 g10 hp10 np10 => ?_
        have m10 := g10.mu nil_not (g9.mu nil_not (g8.mu nil_not (g7.mu nil_not (g6.mu nil_not m5))))
        have G10 := ((((G5.comp g6 side_nil).comp g7 side_nil).comp g8 side_nil).comp g9 side_nil).comp g10 side_nil
        have r10 := g10.rps (g9.rps (g8.rps (g7.rps (g6.rps r5))))
        walk_at "go"
        refine r_append m10.1 ?_ (k_wr g10.fh m10 fun F11 H11 g11 m11 => ?_)
        · have e := r10.length
          rw [List.length_map, List.length_take, List.length_map] at e
          have := hts.1
          omega
        refine ⟨F11, _, _, _, _, G10.comp g11 (side_one (.inr np0)), fun b o e => g11.at (g10.at (g9.at (g8.at (g7.at (g6.at (s5 b o e)))))), m11, ?_, rfl⟩
        rw [take_more hli, List.map_append]
        refine (g11.rps r10).append (.one (g11.rp (.tup hp10 (.cons (g10.rp r9) (.cons (g10.rp (g9.rp (g8.rp (g7.rp r6)))) (.cons (g10.rp (g9.rp (g8.rp (.lst haw wr)))) .nil))))))
    · rintro σ' H5 ⟨F5, us, y1, y2, y3, G5, s5, m5, r5, rfl⟩
      rw [List.take_of_length_le (by rw [List.length_map]; exact Nat.le_refl _)] at r5
      walk_at "go"
      refine k_fz G5.fh m5 fun F6 g6 hp6 => ?_
      refine k _ F6 H5 (G5.comp g6 (side_one (.inr np0))) (.lst hp6 ?_)
      have e : (cleanR R ts).map encRow = (ts.map (lnOf R)).map fun l => encRow (rowOf R ((ts.map (lnOf R)).map plain) l) := by
        unfold cleanR
        rw [List.map_map]
        rfl
      rw [e]
      exact g6.rps r5

end
/-! ### the law's own readings -/
def lookLast (cs : List Chg) (c : Nat) : List Nat := cs.foldl (fun o x => if x.1 = c then x.2 else o) [c]
theorem lookLast_none : ∀ (cs : List Chg) (c : Nat) (o : List Nat), (∀ x ∈ cs, x.1 ≠ c) → cs.foldl (fun o x => if x.1 = c then x.2 else o) o = o
  | [], _, _, _ => rfl
  | x :: cs, c, o, h => by
    rw [List.foldl_cons, if_neg (h x List.mem_cons_self)]
    exact lookLast_none cs c o fun y hy => h y (List.mem_cons_of_mem _ hy)
theorem lookLast_eq : ∀ {cs : List Chg} (c : Nat) (o : List Nat), (cs.map fun x => x.1).Nodup → cs.foldl (fun o x => if x.1 = c then x.2 else o) o = ((cs.find? fun x => decide (x.1 = c)).map (·.2)).getD o
  | [], _, _, _ => rfl
  | x :: cs, c, o, h => by
    have h : (x.1 :: cs.map fun x => x.1).Nodup := h
    obtain ⟨h1, h2⟩ := List.nodup_cons.mp h
    rw [List.foldl_cons, List.find?_cons]
    by_cases e : x.1 = c
    · rw [if_pos e, decide_eq_true e, lookLast_none cs c x.2 fun y hy z => h1 (List.mem_map.mpr ⟨y, hy, z.trans e.symm⟩)]
      rfl
    · rw [if_neg e, decide_eq_false e]
      exact lookLast_eq c o h2
theorem lookLast_is {cs : List Chg} (h : (cs.map fun x => x.1).Nodup) (c : Nat) : lookLast cs c = lookC cs c := lookLast_eq c [c] h
theorem eqv_strs : ∀ {a b : List (List Nat)}, PyData.eqvAll (a.map fun x => .str (S x)) (b.map fun x => .str (S x)) = decide (a = b)
  | [], [] => by simp [PyData.eqvAll]
  | [], _ :: _ => by simp [PyData.eqvAll]
  | _ :: _, [] => by simp [PyData.eqvAll]
  | x :: a, y :: b => by
    have ih := eqv_strs (a := a) (b := b)
    rw [List.map_cons, List.map_cons]
    unfold PyData.eqvAll PyData.eqv
    rw [ih]
    by_cases e : x = y
    · subst e
      simp
    · have e2 : ¬ S x = S y := fun z => e (S_inj z)
      simp [e, e2]
theorem any_strs {ln : Line} : ∀ {d : List Line}, ((d.map encStrs).any fun z => PyData.eqv z (encStrs ln)) = decide (ln ∈ d)
  | [] => rfl
  | a :: d => by
    rw [List.map_cons, List.any_cons, any_strs (d := d)]
    have e : PyData.eqv (encStrs a) (encStrs ln) = decide (a = ln) := by
      unfold encStrs
      rw [PyData.eqv]
      exact eqv_strs
    rw [e]
    by_cases q : a = ln
    · subst q
      simp
    · have q2 : ¬ ln = a := fun z => q z.symm
      simp [q, q2]
def okC (l : List Nat) : Prop := ∀ c ∈ l, c < 0x110000
theorem str_ok {l : List Nat} (h : okC l) : PyData.strOk (S l) = true := by
  show (l.toArray.all fun c => decide (c < 0x110000)) = true
  rw [List.all_toArray]
  exact List.all_eq_true.mpr fun c hc => decide_eq_true (h c hc)
theorem lay_strs : ∀ {l : List (List Nat)}, (∀ x ∈ l, okC x) → PyData.canLayAll0 (l.map fun x => .str (S x)) = true
  | [], _ => by simp [PyData.canLayAll0]
  | x :: l, h => by
    rw [List.map_cons, PyData.canLayAll0, PyData.canLay0, str_ok (h x List.mem_cons_self), lay_strs fun y hy => h y (List.mem_cons_of_mem _ hy)]
    rfl
theorem dep_strs : ∀ {l : List (List Nat)}, PyData.depthAll (l.map fun x => .str (S x)) = 0
  | [] => by simp [PyData.depthAll]
  | x :: l => by
    rw [List.map_cons, PyData.depthAll, PyData.depth, dep_strs]
    rfl
theorem shaped_strs {l : List (List Nat)} (h : ∀ x ∈ l, okC x) : SeqAt.shaped (encStrs l) = true := by
  unfold SeqAt.shaped encStrs
  rw [PyData.canLay0, lay_strs h, PyData.depth, dep_strs]
  rfl
theorem lay_doc : ∀ {d : List Line}, (∀ l ∈ d, ∀ x ∈ l, okC x) → PyData.canLayAll0 (d.map encStrs) = true
  | [], _ => by simp [PyData.canLayAll0]
  | x :: l, h => by
    rw [List.map_cons, PyData.canLayAll0, lay_doc fun y hy => h y (List.mem_cons_of_mem _ hy)]
    unfold encStrs
    rw [PyData.canLay0, lay_strs (h x List.mem_cons_self)]
    rfl
theorem dep_doc : ∀ {d : List Line}, PyData.depthAll (d.map encStrs) ≤ 1
  | [] => by simp [PyData.depthAll]
  | x :: l => by
    rw [List.map_cons, PyData.depthAll]
    have ih := dep_doc (d := l)
    have e : PyData.depth (encStrs x) = 1 := by
      unfold encStrs
      rw [PyData.depth, dep_strs]
    rw [e]
    exact Nat.max_le.mpr ⟨Nat.le_refl _, ih⟩
theorem shaped_doc {d : List Line} (h : ∀ l ∈ d, ∀ x ∈ l, okC x) : SeqAt.shaped (encDoc d) = true := by
  unfold SeqAt.shaped encDoc
  have e := dep_doc (d := d)
  rw [PyData.canLay0, lay_doc h, PyData.depth, Bool.true_and]
  exact decide_eq_true (by omega)
theorem eqV_int {i j : Int} : eqV (.int i) (.int j) = decide (i = j) := by
  unfold eqV
  first
    | rfl
    | exact Bool.beq_eq_decide_eq i j
theorem inV_nats {n : Nat} : ∀ {l : List Nat}, inV (.int (n : Int)) (l.map fun k : Nat => V.int (k : Int)) = decide (n ∈ l)
  | [] => rfl
  | a :: l => by
    have ih := inV_nats (n := n) (l := l)
    unfold inV at ih ⊢
    rw [List.map_cons, List.any_cons, ih, eqV_int]
    by_cases e : n = a
    · subst e
      simp
    · have e2 : ¬ ((a : Int) = (n : Int)) := fun z => e (by omega)
      rw [decide_eq_false e2, Bool.false_or]
      exact decide_eq_decide.mpr ⟨fun h => List.mem_cons_of_mem _ h, fun h => (List.mem_cons.mp h).resolve_left e⟩
theorem flat_nats (l : List Nat) : (l.map fun k : Nat => V.int (k : Int)).all flatV = true := by
  rw [List.all_map]
  exact List.all_eq_true.mpr fun _ _ => rfl
/-! a text's words: their signs -/
theorem LS.okC_step {s : LS} {x : Nat × Nat} (hx : x.1 < 0x110000) (h : (∀ l ∈ s.lines, ∀ y ∈ l, okC y.1) ∧ (∀ y ∈ s.line, okC y.1) ∧ okC s.chars) :
    (∀ l ∈ (s.step x).lines, ∀ y ∈ l, okC y.1) ∧ (∀ y ∈ (s.step x).line, okC y.1) ∧ okC (s.step x).chars := by
  obtain ⟨h1, h2, h3⟩ := h
  have hs : ∀ y ∈ s.shut, okC y.1 := by
    unfold LS.shut
    split
    · exact h2
    · intro y hy
      rcases List.mem_append.mp hy with z | z
      · exact h2 y z
      · cases List.mem_singleton.mp z
        exact h3
  unfold LS.step
  split
  · split
    · refine ⟨fun l hl => ?_, fun y hy => absurd (show y ∈ ([] : List Wd) from hy) List.not_mem_nil, fun y hy => absurd (show y ∈ ([] : List Nat) from hy) List.not_mem_nil⟩
      rcases List.mem_append.mp hl with z | z
      · exact h1 l z
      · cases List.mem_singleton.mp z
        exact hs
    · exact ⟨h1, hs, fun y hy => absurd (show y ∈ ([] : List Nat) from hy) List.not_mem_nil⟩
  · refine ⟨h1, h2, fun c hc => ?_⟩
    rcases List.mem_append.mp hc with z | z
    · exact h3 c z
    · rw [List.mem_singleton.mp z]
      exact hx
theorem LS.okC_run : ∀ (cs : List (Nat × Nat)) (s : LS), (∀ x ∈ cs, x.1 < 0x110000) → ((∀ l ∈ s.lines, ∀ y ∈ l, okC y.1) ∧ (∀ y ∈ s.line, okC y.1) ∧ okC s.chars) →
    (∀ l ∈ (cs.foldl LS.step s).lines, ∀ y ∈ l, okC y.1) ∧ (∀ y ∈ (cs.foldl LS.step s).line, okC y.1) ∧ okC (cs.foldl LS.step s).chars
  | [], _, _, h => h
  | x :: cs, s, hx, h => LS.okC_run cs (s.step x) (fun y hy => hx y (List.mem_cons_of_mem _ hy)) (LS.okC_step (hx x List.mem_cons_self) h)
theorem chg_okC {cs : List Chg} (h : ∀ x ∈ cs, okC x.2) : ∀ (n : Nat) (t : List Nat), okC t → ∀ x ∈ chg cs n t, x.1 < 0x110000
  | _, [], _, x, hx => by cases hx
  | n, c :: t, ht, x, hx => by
    have hx : x ∈ chgAt cs n c ++ chg cs (n + 1) t := hx
    rcases List.mem_append.mp hx with z | z
    · obtain ⟨y, hy, rfl⟩ := List.mem_map.mp z
      unfold lookC at hy
      cases q : cs.find? fun x => decide (x.1 = c) with
      | none =>
        rw [q] at hy
        have e : y = c := List.mem_singleton.mp hy
        rw [e]
        exact ht c List.mem_cons_self
      | some u =>
        rw [q] at hy
        exact h u (List.mem_of_find?_eq_some q) y hy
    · exact chg_okC h (n + 1) t (fun y hy => ht y (List.mem_cons_of_mem _ hy)) x z
theorem lnOf_okC {R : Ru} {t : List Nat} (h1 : ∀ x ∈ R.changes, okC x.2) (h2 : okC R.mark) (h3 : okC t) : ∀ l ∈ lnOf R t, ∀ y ∈ l, okC y.1 := by
  have q := LS.okC_step (x := (10, 0)) (by decide) (LS.okC_run (chg R.changes 0 t) LS.init (chg_okC h1 0 t h3) ⟨fun l h => absurd (show l ∈ ([] : List (List Wd)) from h) List.not_mem_nil, fun l h => absurd (show l ∈ ([] : List Wd) from h) List.not_mem_nil, fun l h => absurd (show l ∈ ([] : List Nat) from h) List.not_mem_nil⟩)
  have e : splitL (chg R.changes 0 t) = ((runL (chg R.changes 0 t)).step (10, 0)).lines := rfl
  unfold lnOf linesOf hideL
  intro l hl
  obtain ⟨l2, hl2, rfl⟩ := List.mem_map.mp hl
  intro y hy
  obtain ⟨y2, hy2, rfl⟩ := List.mem_map.mp hy
  rw [e] at hl2
  have h4 := q.1 l2 hl2 y2 hy2
  show okC (if hasAny y2.1 R.hidden = true then R.mark else y2.1)
  split
  · exact h2
  · exact h4
/-! the law's list of rules -/
def encSources : PyData := .list [.tuple [.str "s", .int 1]]
def encRulL (R : Ru) : List PyData := [encSources, encCs R.changes, encStrs R.banned, .int (R.lineWords : Int), .int (R.lineDocs : Int), encShs R.hidden, .str (S R.mark), .int (R.docWords : Int), encShares R.shares, .int 1, .int 2, .int 3, .int 4, .int 2, .int 5, .int 8, .int 2]
def encRul (R : Ru) : PyData := .list (encRulL R)
/-! how far one run goes, in the law's own way -/
theorem stop_iff {w : List Nat} {e : Elem} {s t j : Nat} (hf : ∀ i, s ≤ i → i < s + t → Fit w e.1 i) (hl : s + t ≤ w.length) (hstop : ¬ Fit w e.1 (s + t)) (hj : s ≤ j) :
    (j ≤ w.length ∧ ∀ i, s ≤ i → i < j → Fit w e.1 i) ↔ j < s + t + 1 := by
  constructor
  · rintro ⟨a, b⟩
    refine Nat.lt_of_not_le fun q => hstop (b (s + t) (by omega) (by omega))
  · intro q
    exact ⟨by omega, fun i a b => hf i a (by omega)⟩
theorem step_take {w : List Nat} {e : Elem} {es : List Nat} {k s j : Nat} (hk : es[k]? = some s) :
    step w e (fun x => x ∈ es.take (k + 1)) j ↔ (step w e (fun x => x ∈ es.take k) j ∨ (s + e.2.1 ≤ j ∧ j ≤ s + e.2.2 ∧ j ≤ w.length ∧ ∀ i, s ≤ i → i < j → Fit w e.1 i)) := by
  rw [take_more hk]
  constructor
  · rintro ⟨x, hx, q⟩
    rcases List.mem_append.mp hx with z | z
    · exact .inl ⟨x, z, q⟩
    · rw [List.mem_singleton.mp z] at q
      exact .inr q
  · rintro (⟨x, hx, q⟩ | q)
    · exact ⟨x, List.mem_append_left _ hx, q⟩
    · exact ⟨s, List.mem_append_right _ (List.mem_singleton.mpr rfl), q⟩
theorem nodup_len {l : List Nat} {n : Nat} (h : l.Nodup) (hl : ∀ j ∈ l, j ≤ n) : l.length ≤ n + 1 := by
  have q := L2.nat_nodup_len l (List.range (n + 1)) h fun x hx => List.mem_range.mpr (Nat.lt_succ_of_le (hl x hx))
  rw [List.length_range] at q
  exact q
section
variable {F : Hp} {v : V} {R : Ru}
theorem Rps.snoc_inv : ∀ {vs : List V} {ds : List PyData} {d : PyData}, Rps F vs (ds ++ [d]) → ∃ us u, vs = us ++ [u] ∧ Rps F us ds ∧ Rp F u d
  | _, [], d, h => by
    obtain ⟨v, us, rfl, a, b⟩ := Rps.cons_inv (show Rps F _ (d :: []) from h)
    cases b.nil_inv
    exact ⟨[], v, rfl, .nil, a⟩
  | _, e :: ds, d, h => by
    obtain ⟨v, us, rfl, a, b⟩ := Rps.cons_inv (show Rps F _ (e :: (ds ++ [d])) from h)
    obtain ⟨us2, u, rfl, c, q⟩ := Rps.snoc_inv b
    exact ⟨v :: us2, u, rfl, .cons a c, q⟩
structure RulX (F : Hp) (xs : List V) (R : Ru) : Prop where
  changes : ∃ x, xs[1]? = some x ∧ Rp F x (encCs R.changes)
  banned : ∃ x, xs[2]? = some x ∧ Rp F x (encStrs R.banned)
  lineWords : xs[3]? = some (.int (R.lineWords : Int))
  lineDocs : xs[4]? = some (.int (R.lineDocs : Int))
  hidden : ∃ x, xs[5]? = some x ∧ Rp F x (encShs R.hidden)
  mark : xs[6]? = some (.str (S R.mark))
  docWords : xs[7]? = some (.int (R.docWords : Int))
  shares : ∃ x, xs[8]? = some x ∧ Rp F x (encShares R.shares)
theorem rul_inv (h : Rp F v (encRul R)) : ∃ a xs, v = .ref a ∧ F a = some (.lst xs) ∧ Rps F xs (encRulL R) ∧ RulX F xs R := by
  obtain ⟨a, xs, rfl, ha, r⟩ := h.lst_inv
  refine ⟨a, xs, rfl, ha, r, ?_⟩
  have gi : ∀ (i : Nat) (z : Int), (encRulL R)[i]? = some (.int z) → xs[i]? = some (.int z) := fun i z e => by
    obtain ⟨x, hx, rx⟩ := r.at e
    rw [hx, rx.int_inv]
  have gs : ∀ (i : Nat) (z : Str), (encRulL R)[i]? = some (.str z) → xs[i]? = some (.str z) := fun i z e => by
    obtain ⟨x, hx, rx⟩ := r.at e
    rw [hx, rx.str_inv]
  exact ⟨r.at rfl, r.at rfl, gi 3 _ rfl, gi 4 _ rfl, r.at rfl, gs 6 _ rfl, gi 7 _ rfl, r.at rfl⟩
end
theorem foldl_more {α β : Type} (f : β → α → β) (b : β) {l : List α} {i : Nat} {x : α} (h : l[i]? = some x) : (l.take (i + 1)).foldl f b = f ((l.take i).foldl f b) x := by
  rw [take_more h, List.foldl_append]
  rfl
theorem runL_app (a b : List (Nat × Nat)) : runL (a ++ b) = b.foldl LS.step (runL a) := by
  unfold runL
  rw [List.foldl_append]
theorem shut_nil {s : LS} (h : s.chars = []) : s.shut = s.line := by
  unfold LS.shut
  rw [if_pos h]
theorem shut_cons {s : LS} (h : ¬ s.chars = []) : s.shut = s.line ++ [(s.chars, s.first, s.last)] := by
  unfold LS.shut
  rw [if_neg h]
theorem step_nl (s : LS) (k : Nat) : s.step (10, k) = ⟨s.lines ++ [s.shut], [], [], s.first, s.last⟩ := rfl
theorem step_sp (s : LS) (k : Nat) : s.step (32, k) = ⟨s.lines, s.shut, [], s.first, s.last⟩ := rfl
theorem step_ch (s : LS) {c : Nat} (k : Nat) (h1 : c ≠ 10) (h2 : c ≠ 32) : s.step (c, k) = ⟨s.lines, s.line, s.chars ++ [c], if s.chars = [] then k else s.first, k⟩ := by
  unfold LS.step
  have e : ¬ isBlank c = true := by
    unfold isBlank
    simp [h1, h2]
  rw [if_neg e]
theorem blank_iff {c : Nat} : isBlank c = true ↔ (c = 32 ∨ c = 10) := by
  unfold isBlank
  simp
section
variable {P : Program} {w : World} {K : PySem.W.Frag} {mg : Str → Option Value} {base : Heap}

def sp_law_kind_fits : Sp := fun vs H Q _ => ∃ (c : Nat) (d : Kind), vs = [.str ⟨#[c]⟩, .str d.s] ∧ Q (.bl (d.fits c)) H
abbrev N_law_kind_fits : List Str := ["_law_char", "_law_kind"]
theorem sc_law_kind_fits : FnScope N_law_kind_fits ["_law_char", "_law_kind"] (defScope s_law_kind_fits) := ⟨rfl, rfl, rfl, by decide +kernel, rfl, by decide +kernel, by decide +kernel⟩
theorem ok_law_kind_fits (T : Txt K mg) : OkG P w K mg base 1 "_law_kind_fits" ["_law_char", "_law_kind"] sp_law_kind_fits := by
  refine T.okG 61 50 rfl rfl (d := d_law_kind_fits) sc_law_kind_fits (fun _ _ _ _ _ _ us hl => match us, hl with | [_, _], _ => rfl) (fun vs H Q E h => ?_) (fun cdv A outer s H vs Q E hr h => ?_)
  · obtain ⟨_, _, rfl, _⟩ := h
    rfl
  · refine ⟨_, PSs.nox (pss_cons (ps_if (pt_cmpR op_eq (pv 1) pe_str (nomark _))
        (pss_one (ps_ret (pe_cmpR op_inS (pv 0) pe_str (by rfl))))
        pss_nil)
      (pss_cons (ps_if (pt_cmpR op_eq (pv 1) pe_str (nomark _))
        (pss_one (ps_ret (pe_cmpR op_inS (pv 0) pe_str (by rfl))))
        pss_nil)
      (pss_one (ps_ret (pe_or (pe_cmpR op_eq (pv 1) pe_str (nomark _)) (pe_one (pe_cmpR op_eq (pv 0) (pv 1) (nomark _)))))))), ?_⟩
    obtain ⟨c, d, rfl, k⟩ := h
    walk_at "go"
    rw [Kind.is_letter]
    refine r_ite (fun h => ?_) (fun h => ?_)
    · walk_at "go"
      have e := of_decide_eq_true h
      subst e
      exact k
    · walk_at "go"
      rw [Kind.is_digit]
      refine r_ite (fun h2 => ?_) (fun h2 => ?_)
      · walk_at "go"
        have e := of_decide_eq_true h2
        subst e
        exact k
      · walk_at "go"
        have e := Kind.rest (c := c) (of_decide_eq_false h) (of_decide_eq_false h2)
        rw [Kind.is_any]
        refine r_ite (fun h3 => ?_) (fun h3 => ?_)
        · rw [h3, Bool.true_or] at e
          rw [e]
          exact k
        · walk_at "go"
          rw [h3, Bool.false_or] at e
          rw [e]
          exact k

def natL (l : List Nat) : List V := l.map fun k : Nat => V.int (k : Int)
theorem inV_natL {n : Nat} {l : List Nat} : inV (.int (n : Int)) (natL l) = decide (n ∈ l) := inV_nats
theorem natL_len (l : List Nat) : (natL l).length = l.length := List.length_map ..
def sp_law_has : Sp := fun vs H Q _ => ∃ (F : Hp) (w : List Nat) (v : V) (sh : Shape), vs = [.str (S w), v] ∧ Same F H ∧ Rp F v (encSh sh) ∧ w.length ≤ 1000000 ∧ ShOk sh ∧
  ∀ (F' H' : Hp), Grow [] F H F' H' → Q (.bl (has w sh)) H'
abbrev N_law_has : List Str := ["_law_word_here", "_law_shape_here", "_law_ends", "_law_kind", "_law_least", "_law_most", "_law_fresh", "_law_start", "_law_count", "_law_going", "_law_turn"]
theorem sc_law_has : FnScope N_law_has ["_law_word_here", "_law_shape_here"] (defScope s_law_has) := ⟨rfl, rfl, rfl, by decide +kernel, rfl, by decide +kernel, by decide +kernel⟩
theorem ok_law_has (T : Txt K mg) : OkG P w K mg base 2 "_law_has" ["_law_word_here", "_law_shape_here"] sp_law_has := by
  have m_len : mg "len" = none := T.free 68 rfl
  have m_range : mg "range" = none := T.free 70 rfl
  obtain ⟨f_law_kind_fits, fd_law_kind_fits, G_law_kind_fits, mg_law_kind_fits, kp_law_kind_fits, b_law_kind_fits⟩ := ok_law_kind_fits (P := P) (w := w) (base := base) T
  refine T.okG 62 51 rfl rfl (d := d_law_has) sc_law_has (fun _ _ _ _ _ _ us hl => match us, hl with | [_, _], _ => rfl) (fun vs H Q E h => ?_) (fun cdv A outer s H vs Q E hr h => ?_)
  · obtain ⟨_, _, _, _, rfl, _⟩ := h
    rfl
  · refine ⟨_, PSs.nox (pss_cons (ps_set (i := 2) sc_law_has.nd rfl (Or.inl rfl) (pe_lst (pa_cons pe_int pa_nil)))
      (pss_cons (ps_for PassesOwn.never rfl (pi_list (pv 1)) (pg_tup (by rfl) (pgs_cons (pg_name (i := 3) sc_law_has.nd rfl (Or.inl rfl)) (pgs_cons (pg_name (i := 4) sc_law_has.nd rfl (Or.inl rfl)) (pgs_cons (pg_name (i := 5) sc_law_has.nd rfl (Or.inl rfl)) pgs_nil))))
        (pss_cons (ps_set (i := 6) sc_law_has.nd rfl (Or.inl rfl) (pe_lst pa_nil))
        (pss_cons (ps_for PassesOwn.never rfl (pi_list (pv 2)) (pg_name (i := 7) sc_law_has.nd rfl (Or.inl rfl))
          (pss_cons (ps_set (i := 8) sc_law_has.nd rfl (Or.inl rfl) pe_int)
          (pss_cons (ps_set (i := 9) sc_law_has.nd rfl (Or.inl rfl) pe_bl)
          (pss_one (ps_for PassesOwn.never rfl (pi_range1 (by rfl) m_range (pa_cons (pe_op op_add (pe_op op_sub (pe_callB cr_lenS (by rfl) m_len PySem.boot_len (pa_cons (pv 0) pa_nil)) (pv 7)) pe_int) pa_nil)) (pg_name (i := 10) sc_law_has.nd rfl (Or.inl rfl))
            (Evl.pss_cut (ps_if (PW.pt (pw_and (pt_val (pv 9)) (pw_and (pt_cmpR op_ge (pv 8) (pv 4) (nomark _)) (pw_and (pt_cmpR op_le (pv 8) (pv 5) (nomark _)) (pw_and1 (pt_cmpR op_notIn_seq (pe_op op_add (pv 7) (pv 8)) (pv 6) (by rfl)))))))
              (pss_one (ps_expr (pe_bm PySem.F.plainAttrs_list PySem.F.slot_list_append PySem.F.type_list_append mt_append (pv 6) (pa_cons (pe_op op_add (pv 7) (pv 8)) pa_nil))))
              pss_nil)
            (Evl.pss_cut (ps_if (PW.pt (pw_or (pt_cmpR op_ge (pe_op op_add (pv 7) (pv 8)) (pe_callB cr_lenS (by rfl) m_len PySem.boot_len (pa_cons (pv 0) pa_nil)) (nomark _)) (pw_or1 (pt_not (pt_val (pe_call G_law_kind_fits (hr.mono (by decide)) rfl mg_law_kind_fits kp_law_kind_fits b_law_kind_fits .nil pass0 (pa_cons (pe_ix ix_str (pv 0) (pe_op op_add (pv 7) (pv 8)) (fun _ _ => rfl)) (pa_cons (pv 3) pa_nil))))))))
              (pss_one (ps_set (i := 9) sc_law_has.nd rfl (Or.inl rfl) pe_bl))
              pss_nil)
            (pss_cons (ps_set (i := 8) sc_law_has.nd rfl (Or.inl rfl) (pe_op op_add (pv 8) pe_int))
            (pss_one (ps_if (pt_not (pt_val (pv 9)))
              (pss_one ps_break)
              pss_nil))))))))))
        (pss_one (ps_set (i := 2) sc_law_has.nd rfl (Or.inl rfl) (pv 6))))))
      (pss_one (ps_ret (pe_cmpR op_in_seq (pe_callB cr_lenS (by rfl) m_len PySem.boot_len (pa_cons (pv 0) pa_nil)) (pv 2) (by rfl)))))), ?_⟩
    obtain ⟨F, w, v, sh, rfl, ok, hv, h1, h2, k⟩ := h
    obtain ⟨a, xs, rfl, ha, hrr⟩ := hv.lst_inv
    walk_at "go"
    refine k_new ok fun p0 F1 H1 g1 hp1 np1 => ?_
    walk_at "go"
    walk_at "ss"
    refine r_itL (by walk_at "up") ?_
    refine loopL (xs := xs) (fun i σ' H' => ∃ (F' : Hp) (p : Addr) (es : List Nat) (y1 y2 y3 y4 y5 y6 y7 y8 : Option V), Grow [] F H F' H' ∧ F' p = some (.lst (natL es)) ∧ (∀ j, j ∈ es ↔ Rch w (sh.take i) j) ∧ (∀ j ∈ es, j ≤ w.length) ∧ es.length ≤ w.length + 1 ∧
      σ' = [some (.str (S w)), some (.ref a), some (.ref p), y1, y2, y3, y4, y5, y6, y7, y8])
      ⟨F1, p0, [0], none, none, none, none, none, none, none, none, g1, hp1, fun j => by simp [Rch], fun j hj => by rw [List.mem_singleton.mp hj]; exact Nat.zero_le _, by simp, rfl⟩ (fun i σ' H' _ ⟨F', _, _, _, _, _, _, _, _, _, _, G, _⟩ => sql_fz G.fh (G.at ha)) ?_ ?_
    · rintro i x σ' H2 hx ⟨F2, p, es, y1, y2, y3, y4, y5, y6, y7, y8, G, hp, fe, le, lle, rfl⟩
      obtain ⟨e, he, re⟩ := (G.rps hrr).get_map hx
      obtain ⟨ae, rfl, hae⟩ := encE_inv re
      have okL := G.fh
      have eo := h2 e (List.mem_of_getElem? he)
      walk_at "go"
      walk_at "ss"
      walk_at "go"
      refine k_mu okL fun q F3 H3 g3 hq3 nq3 => ?_
      have nq0 : H q = none := Grow.back0 G nq3
      have G3 := G.comp g3 side_nil
      have hp3 := g3.at hp
      walk_at "go"
      walk_at "ss"
      refine r_itL (sql_fz g3.fh hp3) ?_
      refine loopL (xs := natL es) (fun kx σ' H' => ∃ (F' : Hp) (fs : List Nat) (z1 z2 z3 z4 : Option V), Grow [] F H F' H' ∧ F' p = some (.lst (natL es)) ∧ Mu F' H' q (.lst (natL fs)) ∧ fs.Nodup ∧ (∀ j ∈ fs, j ≤ w.length) ∧ (∀ j, j ∈ fs ↔ step w e (fun x => x ∈ es.take kx) j) ∧
        σ' = [some (.str (S w)), some (.ref a), some (.ref p), some (.str e.1.s), some (.int (e.2.1 : Int)), some (.int (e.2.2 : Int)), some (.ref q), z1, z2, z3, z4])
        ⟨F3, [], y5, y6, y7, y8, G3, hp3, hq3, List.nodup_nil, fun j hj => absurd hj List.not_mem_nil, fun j => ⟨fun z => absurd z List.not_mem_nil, fun ⟨s, hs, _⟩ => absurd hs (by simp)⟩, rfl⟩ (fun i σ' H' _ ⟨F', _, _, _, _, _, G, hp, _⟩ => sql_fz G.fh hp) ?_ ?_
      · rintro kx x σ' H4 hx4 ⟨F4, fs, z1, z2, z3, z4, G4, hp4, mq4, nd4, lf4, ff4, rfl⟩
        obtain ⟨s, hs, rfl⟩ := map_at hx4
        have sl := le s (List.mem_of_getElem? hs)
        walk_at "go"
        walk_at "ss"
        walk_at "go"
        walk_at "ss"
        refine r_rng1E (n := w.length - s + 1) (by omega) (by omega) ?_
        refine loopR0 (fun t σ' H' => ∃ (F' : Hp) (fs : List Nat) (z : Option V), Grow [] F H F' H' ∧ F' p = some (.lst (natL es)) ∧ Mu F' H' q (.lst (natL fs)) ∧ fs.Nodup ∧ (∀ j ∈ fs, j ≤ w.length) ∧ s + t ≤ w.length + 1 ∧ (∀ i, s ≤ i → i < s + t → Fit w e.1 i) ∧
          (∀ j, j ∈ fs ↔ (step w e (fun x => x ∈ es.take kx) j ∨ (s + e.2.1 ≤ j ∧ j ≤ s + e.2.2 ∧ j < s + t))) ∧
          σ' = [some (.str (S w)), some (.ref a), some (.ref p), some (.str e.1.s), some (.int (e.2.1 : Int)), some (.int (e.2.2 : Int)), some (.ref q), some (.int (s : Int)), some (.int (t : Int)), some (.bl true), z])
          ⟨F4, fs, z4, G4, hp4, mq4, nd4, lf4, by omega, fun i a b => absurd b (by omega), fun j => by rw [ff4]; exact ⟨.inl, fun z => z.elim id fun z => absurd z (by omega)⟩, rfl⟩ ?_ ?_
        · rintro t σ' H5 ht ⟨F5, fs5, z5, G5, hp5, mq5, nd5, lf5, lt5, fit5, ff5, rfl⟩
          have ok5 := G5.fh
          have hst : s + t ≤ w.length := by omega
          walk_at "go"
          walk_at "ss"
          refine r_cut (M := fun σ2 H2 => ∃ (F' : Hp) (fs : List Nat), Grow [] F H F' H2 ∧ F' p = some (.lst (natL es)) ∧ Mu F' H2 q (.lst (natL fs)) ∧ fs.Nodup ∧ (∀ j ∈ fs, j ≤ w.length) ∧
            (∀ j, j ∈ fs ↔ (step w e (fun x => x ∈ es.take kx) j ∨ (s + e.2.1 ≤ j ∧ j ≤ s + e.2.2 ∧ j < s + t + 1))) ∧
            σ2 = [some (.str (S w)), some (.ref a), some (.ref p), some (.str e.1.s), some (.int (e.2.1 : Int)), some (.int (e.2.2 : Int)), some (.ref q), some (.int (s : Int)), some (.int (t : Int)), some (.bl true), some (.int (t : Int))]) ?_ ?_
          · have same : (¬ (s + e.2.1 ≤ s + t ∧ s + t ≤ s + e.2.2) ∨ s + t ∈ fs5) → ∀ j, j ∈ fs5 ↔ (step w e (fun x => x ∈ es.take kx) j ∨ (s + e.2.1 ≤ j ∧ j ≤ s + e.2.2 ∧ j < s + t + 1)) := fun h j => by
              rw [ff5]
              constructor
              · rintro (z | z)
                · exact .inl z
                · exact .inr ⟨z.1, z.2.1, by omega⟩
              · rintro (z | z)
                · exact .inl z
                · by_cases q : j = s + t
                  · subst q
                    rcases h with h | h
                    · exact absurd ⟨z.1, z.2.1⟩ h
                    · exact (ff5 _).mp h
                  · exact .inr ⟨z.1, z.2.1, by omega⟩
            walk_at "go"
            refine r_ite (fun c1 => ?_) (fun c1 => ?_)
            · have c1 := of_decide_eq_true c1
              walk_at "go"
              refine r_ite (fun c2 => ?_) (fun c2 => ?_)
              · have c2 := of_decide_eq_true c2
                walk_at "go"
                have es1 : ((s : Int) + (t : Int)) = ((s + t : Nat) : Int) := by omega
                rw [es1]
                refine r_notInL (sql_mu mq5) rfl (flat_nats _) ?_
                rw [inV_natL]
                walk_at "go"
                refine r_ite (fun c3 => ?_) (fun c3 => ?_)
                · have c3 : ¬ s + t ∈ fs5 := fun z => by rw [decide_eq_true z] at c3; cases c3
                  walk_at "go"
                  rw [es1]
                  refine r_append mq5.1 ?_ (k_wr ok5 mq5 fun F6 H6 g6 m6 => ?_)
                  · rw [natL_len]
                    have := nodup_len nd5 lf5
                    omega
                  · refine ⟨F6, fs5 ++ [s + t], G5.comp g6 (side_one (.inr nq0)), g6.at hp5, ?_, ?_, ?_, fun j => ?_, rfl⟩
                    · have e1 : natL (fs5 ++ [s + t]) = natL fs5 ++ [V.int ((s + t : Nat) : Int)] := by unfold natL; rw [List.map_append]; rfl
                      rw [e1]
                      exact m6
                    · exact L2.nd_snoc nd5 c3
                    · intro j hj
                      rcases List.mem_append.mp hj with z | z
                      · exact lf5 j z
                      · rw [List.mem_singleton.mp z]; exact hst
                    · rw [List.mem_append, List.mem_singleton, ff5]
                      constructor
                      · rintro ((z | z) | z)
                        · exact .inl z
                        · exact .inr ⟨z.1, z.2.1, by omega⟩
                        · exact .inr ⟨by omega, by omega, by omega⟩
                      · rintro (z | z)
                        · exact .inl (.inl z)
                        · by_cases q : j = s + t
                          · exact .inr q
                          · exact .inl (.inr ⟨z.1, z.2.1, by omega⟩)
                · have c3 : s + t ∈ fs5 := by
                    cases z : decide (s + t ∈ fs5) with
                    | true => exact of_decide_eq_true z
                    | false => rw [z] at c3; cases c3
                  walk_at "go"
                  exact ⟨F5, fs5, G5, hp5, mq5, nd5, lf5, same (.inr c3), rfl⟩
              · have c2 := of_decide_eq_false c2
                walk_at "go"
                exact ⟨F5, fs5, G5, hp5, mq5, nd5, lf5, same (.inl fun z => c2 (by omega)), rfl⟩
            · have c1 := of_decide_eq_false c1
              walk_at "go"
              exact ⟨F5, fs5, G5, hp5, mq5, nd5, lf5, same (.inl fun z => c1 (by omega)), rfl⟩
          · rintro σ2 H6 ⟨F6, fs6, G6, hp6, mq6, nd6, lf6, ff6, rfl⟩
            walk_at "go"
            refine r_cut (M := fun σ2 H2 => H2 = H6 ∧ ∃ b : Bool, (b = true ↔ Fit w e.1 (s + t)) ∧ σ2 = [some (.str (S w)), some (.ref a), some (.ref p), some (.str e.1.s), some (.int (e.2.1 : Int)), some (.int (e.2.2 : Int)), some (.ref q), some (.int (s : Int)), some (.int (t : Int)), some (.bl b), some (.int (t : Int))]) ?_ ?_
            · walk_at "go"
              refine r_ite (fun c1 => ?_) (fun c1 => ?_)
              · have c1 := of_decide_eq_true c1
                walk_at "go"
                refine ⟨rfl, false, ⟨fun z => (by cases z), fun ⟨c, hc, _⟩ => ?_⟩, rfl⟩
                rw [List.getElem?_eq_none (by omega)] at hc
                cases hc
              · have c1 := of_decide_eq_false c1
                have hlt : s + t < w.length := by omega
                walk_at "go"
                refine r_ixSS (n := s + t) (by omega) (by omega) (List.getElem?_eq_getElem hlt) ?_
                walk_at "go"
                refine ⟨_, e.1, rfl, ?_⟩
                walk_at "go"
                refine r_ite (fun c2 => ?_) (fun c2 => ?_)
                · walk_at "go"
                  refine ⟨rfl, false, ⟨fun z => (by cases z), fun ⟨c, hc, hc2⟩ => ?_⟩, rfl⟩
                  rw [List.getElem?_eq_getElem hlt] at hc
                  cases hc
                  rw [hc2] at c2
                  cases c2
                · walk_at "go"
                  refine ⟨rfl, true, ⟨fun _ => ⟨_, List.getElem?_eq_getElem hlt, ?_⟩, fun _ => rfl⟩, rfl⟩
                  cases z : e.1.fits w[s + t] with
                  | true => rfl
                  | false => rw [z] at c2; cases c2
            · rintro σ2 H7 ⟨rfl, bb, hb, rfl⟩
              walk_at "go"
              walk_at "ss"
              walk_at "go"
              cases bb with
              | false =>
                refine r_iteT rfl ?_
                walk_at "go"
                have hns : ¬ Fit w e.1 (s + t) := fun z => by cases hb.mpr z
                refine ⟨F6, fs6, _, _, _, _, G6, hp6, mq6, nd6, lf6, fun j => ?_, rfl⟩
                rw [ff6, step_take hs]
                constructor
                · rintro (z | z)
                  · exact .inl z
                  · have := (stop_iff fit5 hst hns (j := j) (by omega)).mpr z.2.2
                    exact .inr ⟨z.1, z.2.1, this.1, this.2⟩
                · rintro (z | z)
                  · exact .inl z
                  · exact .inr ⟨z.1, z.2.1, (stop_iff fit5 hst hns (j := j) (by omega)).mp ⟨z.2.2.1, z.2.2.2⟩⟩
              | true =>
                refine r_iteF rfl ?_
                walk_at "go"
                have hfit := hb.mp rfl
                refine ⟨F6, fs6, _, G6, hp6, mq6, nd6, lf6, by omega, fun i a b => ?_, fun j => by rw [ff6]; exact Iff.rfl, by rw [show ((t : Int) + 1) = ((t + 1 : Nat) : Int) by omega]⟩
                by_cases q : i = s + t
                · subst q; exact hfit
                · exact fit5 i a (by omega)
        · rintro σ' H5 ⟨F5, fs5, z5, G5, hp5, mq5, nd5, lf5, lt5, fit5, ff5, rfl⟩
          obtain ⟨c, hc, _⟩ := fit5 w.length sl (by omega)
          rw [List.getElem?_eq_none (Nat.le_refl _)] at hc
          cases hc
      · rintro σ' H4 ⟨F4, fs, z1, z2, z3, z4, G4, hp4, mq4, nd4, lf4, ff4, rfl⟩
        have e0 : (natL es).length = es.length := List.length_map ..
        rw [e0, List.take_length] at ff4
        walk_at "go"
        refine k_fz G4.fh mq4 fun F5 g5 hq5 => ?_
        refine ⟨F5, q, fs, _, _, _, _, _, _, _, _, G4.comp g5 (side_one (.inr nq0)), hq5, fun j => ?_, lf4, nodup_len nd4 lf4, rfl⟩
        rw [ff4, Rch_more he]
        exact step_congr fun s _ => fe s
    · rintro σ' H2 ⟨F2, p, es, y1, y2, y3, y4, y5, y6, y7, y8, G, hp, fe, le, lle, rfl⟩
      rw [hrr.len_map, List.take_length] at fe
      walk_at "go"
      refine r_inL (sql_fz G.fh hp) rfl (flat_nats _) ?_
      rw [inV_natL]
      have e : decide (w.length ∈ es) = has w sh := by
        have z := fe w.length
        rw [← has_iff] at z
        exact Bool.eq_iff_iff.mpr (decide_eq_true_iff.trans z)
      rw [e]
      exact k F2 H2 G

def sp_law_shown : Sp := fun vs H Q _ => ∃ (F : Hp) (w : List Nat) (v : V) (l : List Shape) (m : List Nat), vs = [.str (S w), v, .str (S m)] ∧ Same F H ∧ Rp F v (encShs l) ∧ w.length ≤ 1000000 ∧ ShsOk l ∧
  ∀ (F' H' : Hp), Grow [] F H F' H' → Q (.str (S (if hasAny w l = true then m else w))) H'
abbrev N_law_shown : List Str := ["_law_word_here", "_law_hidden", "_law_mark", "_law_shape_here"]
theorem sc_law_shown : FnScope N_law_shown ["_law_word_here", "_law_hidden", "_law_mark"] (defScope s_law_shown) := ⟨rfl, rfl, rfl, by decide +kernel, rfl, by decide +kernel, by decide +kernel⟩
theorem ok_law_shown (T : Txt K mg) : OkG P w K mg base 3 "_law_shown" ["_law_word_here", "_law_hidden", "_law_mark"] sp_law_shown := by
  obtain ⟨f_law_has, fd_law_has, G_law_has, mg_law_has, kp_law_has, b_law_has⟩ := ok_law_has (P := P) (w := w) (base := base) T
  refine T.okG 68 57 rfl rfl (d := d_law_shown) sc_law_shown (fun _ _ _ _ _ _ us hl => match us, hl with | [_, _, _], _ => rfl) (fun vs H Q E h => ?_) (fun cdv A outer s H vs Q E hr h => ?_)
  · obtain ⟨_, _, _, _, _, rfl, _⟩ := h
    rfl
  · refine ⟨_, PSs.nox (pss_cons (ps_for PassesOwn.never rfl (pi_list (pv 1)) (pg_name (i := 3) sc_law_shown.nd rfl (Or.inl rfl))
        (pss_one (ps_if (pt_val (pe_call G_law_has (hr.mono (by decide)) rfl mg_law_has kp_law_has b_law_has .nil pass0 (pa_cons (pv 0) (pa_cons (pv 3) pa_nil))))
          (pss_one (ps_ret (pv 2)))
          pss_nil)))
      (pss_one (ps_ret (pv 0)))), ?_⟩
    obtain ⟨F, w, v, l, m, rfl, ok, hv, h1, h2, k⟩ := h
    obtain ⟨a, xs, rfl, ha, hrr⟩ := hv.lst_inv
    walk_at "go"
    refine r_itL (sql_fz ok ha) ?_
    refine loopL (xs := xs) (fun i σ' H' => ∃ (F' : Hp) (y : Option V), Grow [] F H F' H' ∧ (l.take i).any (has w) = false ∧ σ' = [some (.str (S w)), some (.ref a), some (.str (S m)), y])
      ⟨F, none, Grow.refl ok, rfl, rfl⟩ (fun i σ' H' _ ⟨F', _, G, _⟩ => sql_fz G.fh (G.at ha)) ?_ ?_
    · rintro i x σ' H' hx ⟨F5, y, G, f, rfl⟩
      obtain ⟨e, he, re⟩ := (G.rps hrr).get_map hx
      walk_at "go"
      walk_at "ss"
      walk_at "go"
      refine ⟨F5, w, x, e, rfl, G.fh, re, h1, h2 e (List.mem_of_getElem? he), fun F6 H6 g6 => ?_⟩
      walk_at "go"
      refine r_ite (fun c => ?_) (fun c => ?_)
      · walk_at "go"
        have z : hasAny w l = true := List.any_eq_true.mpr ⟨e, List.mem_of_getElem? he, c⟩
        rw [if_pos z] at k
        exact k F6 H6 (G.comp g6 side_nil)
      · walk_at "go"
        exact ⟨F6, _, G.comp g6 side_nil, by rw [all_take he, f, c]; rfl, rfl⟩
    · rintro σ' H' ⟨F5, y, G, f, rfl⟩
      rw [hrr.len_map, List.take_length] at f
      walk_at "go"
      have z : ¬ hasAny w l = true := fun q => by
        unfold hasAny at q
        rw [f] at q
        cases q
      rw [if_neg z] at k
      exact k F5 H' G

end
section
variable {P : Program} {w : World} {K : PySem.W.Frag} {mg : Str → Option Value} {base : Heap}

/-- where the law's lists of lines stand -/
def LWat (H0 F H : Hp) (p : Addr) (st : LS) : Prop := ∃ us vs q, Mu F H p (.lst (us ++ [V.ref q])) ∧ Rps F us (st.lines.map encLn) ∧ Mu F H q (.lst vs) ∧ Rps F vs (st.shut.map encW) ∧ p ≠ q ∧ H0 q = none
def sp_law_lines_of : Sp := fun vs H Q _ => ∃ (F : Hp) (t : List Nat) (u v : V) (cs : List Chg) (hid : List Shape) (m : List Nat), vs = [.str (S t), u, v, .str (S m)] ∧ Same F H ∧ Rp F u (encCs cs) ∧ Rp F v (encShs hid) ∧ t.length ≤ 200 ∧
  (∀ c ∈ cs, c.2.length ≤ 8) ∧ (cs.map fun x => x.1).Nodup ∧ ShsOk hid ∧ ∀ (v' : V) (F' H' : Hp), Grow [] F H F' H' → Rp F' v' (encLns (linesOf cs hid m t)) → Q v' H'
abbrev N_law_lines_of : List Str := ["_law_text_here", "_law_changes_here", "_law_hidden", "_law_mark", "_law_lines", "_law_before", "_law_k", "_law_other", "_law_change", "_law_char", "_law_word_here", "_law_first", "_law_last", "_law_shown_here", "_law_line", "_law_row"]
theorem sc_law_lines_of : FnScope N_law_lines_of ["_law_text_here", "_law_changes_here", "_law_hidden", "_law_mark"] (defScope s_law_lines_of) := ⟨rfl, rfl, rfl, by decide +kernel, rfl, by decide +kernel, by decide +kernel⟩
theorem ok_law_lines_of (T : Txt K mg) : OkG P w K mg base 4 "_law_lines_of" ["_law_text_here", "_law_changes_here", "_law_hidden", "_law_mark"] sp_law_lines_of := by
  have m_len : mg "len" = none := T.free 68 rfl
  have m_range : mg "range" = none := T.free 70 rfl
  obtain ⟨f_law_shown, fd_law_shown, G_law_shown, mg_law_shown, kp_law_shown, b_law_shown⟩ := ok_law_shown (P := P) (w := w) (base := base) T
  refine T.okG 67 56 rfl rfl (d := d_law_lines_of) sc_law_lines_of (fun _ _ _ _ _ _ us hl => match us, hl with | [_, _, _, _], _ => rfl) (fun vs H Q E h => ?_) (fun cdv A outer s H vs Q E hr h => ?_)
  · obtain ⟨_, _, _, _, _, _, _, rfl, _⟩ := h
    rfl
  · refine ⟨_, PSs.nox (pss_cons (ps_set (i := 4) sc_law_lines_of.nd rfl (Or.inl rfl) (pe_lst (pa_cons (pe_lst pa_nil) pa_nil)))
      (pss_cons (ps_set (i := 5) sc_law_lines_of.nd rfl (Or.inl rfl) pe_str)
      (pss_cons (ps_for PassesOwn.never rfl (pi_range1 (by rfl) m_range (pa_cons (pe_callB cr_lenS (by rfl) m_len PySem.boot_len (pa_cons (pv 0) pa_nil)) pa_nil)) (pg_name (i := 6) sc_law_lines_of.nd rfl (Or.inl rfl))
        (pss_cons (ps_set (i := 7) sc_law_lines_of.nd rfl (Or.inl rfl) (pe_ix ix_str (pv 0) (pv 6) (fun _ _ => rfl)))
        (pss_cons (ps_for PassesOwn.never rfl (pi_list (pv 1)) (pg_name (i := 8) sc_law_lines_of.nd rfl (Or.inl rfl))
          (pss_one (ps_if (pt_cmpR op_eq (pe_ix ix_tup (pv 8) pe_int (fun _ _ => rfl)) (pe_ix ix_str (pv 0) (pv 6) (fun _ _ => rfl)) (nomark _))
            (pss_one (ps_set (i := 7) sc_law_lines_of.nd rfl (Or.inl rfl) (pe_ix ix_tup (pv 8) pe_int (fun _ _ => rfl))))
            pss_nil)))
        (pss_one (ps_for PassesOwn.never rfl (pi_str (pv 7)) (pg_name (i := 9) sc_law_lines_of.nd rfl (Or.inl rfl))
          (Evl.pss_cut (ps_if (pt_cmpR op_eq (pv 9) pe_str (nomark _))
            (pss_one (ps_expr (pe_bm PySem.F.plainAttrs_list PySem.F.slot_list_append PySem.F.type_list_append mt_append (pv 4) (pa_cons (pe_lst pa_nil) pa_nil))))
            (pss_one (ps_if (pt_cmpR op_ne (pv 9) pe_str (nomark _))
              (pss_one (ps_if (PW.pt (pw_or (pt_cmpR op_eq (pv 5) pe_str (nomark _)) (pw_or1 (pt_cmpR op_eq (pv 5) pe_str (nomark _)))))
                (pss_one (ps_expr (pe_bm PySem.F.plainAttrs_list PySem.F.slot_list_append PySem.F.type_list_append mt_append (pe_ix ix_list (pv 4) (pe_un un_neg pe_int) (fun _ _ => rfl)) (pa_cons (pe_tup (pa_cons (pv 9) (pa_cons (pv 6) (pa_cons (pv 6) pa_nil)))) pa_nil))))
                (pss_cons (ps_asg (pe_ix ix_list (pe_ix ix_list (pv 4) (pe_un un_neg pe_int) (fun _ _ => rfl)) (pe_un un_neg pe_int) (fun _ _ => rfl)) (pg_tup (by rfl) (pgs_cons (pg_name (i := 10) sc_law_lines_of.nd rfl (Or.inl rfl)) (pgs_cons (pg_name (i := 11) sc_law_lines_of.nd rfl (Or.inl rfl)) (pgs_cons (pg_name (i := 12) sc_law_lines_of.nd rfl (Or.inl rfl)) pgs_nil)))))
                (pss_one (ps_asg (pe_tup (pa_cons (pe_op op_catS (pv 10) (pv 9)) (pa_cons (pv 11) (pa_cons (pv 6) pa_nil)))) (pg_sub (pe_ix ix_list (pv 4) (pe_un un_neg pe_int) (fun _ _ => rfl)) (pe_un un_neg pe_int) set_list))))))
              pss_nil)))
          (pss_one (ps_set (i := 5) sc_law_lines_of.nd rfl (Or.inl rfl) (pv 9)))))))))
      (pss_cons (ps_set (i := 13) sc_law_lines_of.nd rfl (Or.inl rfl) (pe_lst pa_nil))
      (pss_cons (ps_for PassesOwn.never rfl (pi_list (pv 4)) (pg_name (i := 14) sc_law_lines_of.nd rfl (Or.inl rfl))
        (pss_one (ps_expr (pe_bm PySem.F.plainAttrs_list PySem.F.slot_list_append PySem.F.type_list_append mt_append (pv 13) (pa_cons (pe_lc (own := [("_law_row", 15)]) (g := gName 15) (tt := tYes) rfl sc_law_lines_of.nd (pi_list (pv 14)) (blkOk_by (own := [("_law_row", 15)]) (N := N_law_lines_of) (sc := defScope s_law_lines_of) (by decide +kernel)) (fun _ _ _ _ _ => (pg_name (i := 15) sc_law_lines_of.nd rfl (Or.inl rfl))) (fun _ _ _ _ _ => pts_nil) (fun _ _ _ _ _ => (pe_tup (pa_cons (pe_call G_law_shown (hr.mono (by decide)) rfl mg_law_shown kp_law_shown b_law_shown .nil pass0 (pa_cons (pe_ix (ixK_tup (K := K)) (pv 15) pe_int (fun _ _ => rfl)) (pa_cons (pv 2) (pa_cons (pv 3) pa_nil)))) (pa_cons (pe_ix (ixK_tup (K := K)) (pv 15) pe_int (fun _ _ => rfl)) (pa_cons (pe_ix (ixK_tup (K := K)) (pv 15) pe_int (fun _ _ => rfl)) pa_nil)))))) pa_nil)))))
      (pss_one (ps_ret (pv 13)))))))), ?_⟩
    obtain ⟨F, t, u, v, cs, hid, m, rfl, ok, hu1, hv, h1, h2, hnd, h3, k⟩ := h
    obtain ⟨a, xs, rfl, ha, hrr⟩ := hu1.lst_inv
    have cl := chg_len (b := 8) (by decide) h2 0
    walk_at "go"
    refine k_mu ok fun q0 F1 H1 g1 hq1 nq1 => ?_
    walk_at "go"
    refine k_mu g1.fh fun p F2 H2 g2 hp2 np2 => ?_
    have np0 : H p = none := Grow.back0 g1 np2
    have nqp : q0 ≠ p := hq1.ne np2
    walk_at "go"
    walk_at "ss"
    refine r_rng1E (n := t.length) rfl (by omega) ?_
    refine loopR0 (fun i σ' H' => ∃ (F' : Hp) (b : Nat) (y1 y2 y3 y4 y5 y6 y7 : Option V), Grow [] F H F' H' ∧ LWat H F' H' p (runL (chg cs 0 (t.take i))) ∧ (isBlank b = true ↔ (runL (chg cs 0 (t.take i))).chars = []) ∧
      σ' = [some (.str (S t)), some (.ref a), some v, some (.str (S m)), some (.ref p), some (.str (S [b])), y1, y2, y3, y4, y5, y6, y7, none, none, none])
      ⟨F2, 32, none, none, none, none, none, none, none, g1.comp g2 side_nil, ⟨[], [], q0, by walk_at "up", .nil, by walk_at "up", .nil, nqp.symm, nq1⟩, ⟨fun _ => rfl, fun _ => rfl⟩, by rw [sp_str]; rfl⟩ ?_ ?_
    · rintro i σ' H3 hi ⟨F3, b, y1, y2, y3, y4, y5, y6, y7, G3, W3, B3, rfl⟩
      have hti : t[i]? = some t[i] := List.getElem?_eq_getElem hi
      walk_at "go"
      walk_at "ss"
      walk_at "go"
      refine r_ixSS (n := i) (by omega) rfl hti ?_
      walk_at "go"
      walk_at "ss"
      refine r_itL (sql_fz G3.fh (G3.at ha)) ?_
      refine loopL (xs := xs) (fun j σ' H' => H' = H3 ∧ ∃ y3, σ' = [some (.str (S t)), some (.ref a), some v, some (.str (S m)), some (.ref p), some (.str (S [b])), some (.int (i : Int)), some (.str (S ((cs.take j).foldl (fun o x => if x.1 = t[i] then x.2 else o) [t[i]]))), y3, y4, y5, y6, y7, none, none, none])
        ⟨rfl, y3, rfl⟩ (fun i σ' H' _ ⟨e, _⟩ => by rw [e]; exact sql_fz G3.fh (G3.at ha)) ?_ ?_
      · rintro j x σ' H4 hx ⟨rfl, y3, rfl⟩
        obtain ⟨e, he, re⟩ := (G3.rps hrr).get_map hx
        obtain ⟨ae, rfl, hae⟩ := encC_inv re
        have okL := G3.fh
        walk_at "go"
        walk_at "ss"
        walk_at "go"
        refine r_ixSS (n := i) (by omega) rfl hti ?_
        walk_at "go"
        rw [show decide (V.str (S [e.1]) = V.str ⟨#[t[i]]⟩) = decide (e.1 = t[i]) from decide_eq_decide.mpr one_iff]
        rw [foldl_more _ _ he]
        refine r_ite (fun c => ?_) (fun c => ?_)
        · have c := of_decide_eq_true c
          walk_at "go"
          rw [if_pos c]
          exact ⟨rfl, _, rfl⟩
        · have c := of_decide_eq_false c
          walk_at "go"
          rw [if_neg c]
          exact ⟨rfl, _, rfl⟩
      · rintro σ' H4 ⟨rfl, y3, rfl⟩
        rw [hrr.len_map, List.take_length]
        have el : cs.foldl (fun o x => if x.1 = t[i] then x.2 else o) [t[i]] = lookC cs t[i] := lookLast_is hnd t[i]
        rw [el]
        walk_at "go"
        have ll := lookC_len (b := 8) (by decide) h2 t[i]
        have lt1 := cl (t.take i)
        rw [List.length_take] at lt1
        refine loopS (fun j σ' H' => ∃ (F' : Hp) (b : Nat) (y4 y5 y6 y7 : Option V), Grow [] F H F' H' ∧ LWat H F' H' p (runL (chg cs 0 (t.take i) ++ ((lookC cs t[i]).take j).map fun x => (x, i))) ∧ (isBlank b = true ↔ (runL (chg cs 0 (t.take i) ++ ((lookC cs t[i]).take j).map fun x => (x, i))).chars = []) ∧
          σ' = [some (.str (S t)), some (.ref a), some v, some (.str (S m)), some (.ref p), some (.str (S [b])), some (.int (i : Int)), some (.str (S (lookC cs t[i]))), y3, y4, y5, y6, y7, none, none, none])
          ⟨F3, b, y4, y5, y6, y7, G3, by rw [List.take_zero, List.map_nil, List.append_nil]; exact W3, by rw [List.take_zero, List.map_nil, List.append_nil]; exact B3, rfl⟩ ?_ ?_
        · rintro j c σ' H5 hc ⟨F5, b5, y4, y5, y6, y7, G5, W5, B5, rfl⟩
          have hc : (lookC cs t[i])[j]? = some c := hc
          have hj : j < (lookC cs t[i]).length := (List.getElem?_eq_some_iff.mp hc).1
          have hle := runL_le (chg cs 0 (t.take i) ++ ((lookC cs t[i]).take j).map fun x => (x, i))
          rw [List.length_append, List.length_map, List.length_take] at hle
          have es : runL (chg cs 0 (t.take i) ++ ((lookC cs t[i]).take (j + 1)).map fun x => (x, i)) = (runL (chg cs 0 (t.take i) ++ ((lookC cs t[i]).take j).map fun x => (x, i))).step (c, i) := by
            have e : ((lookC cs t[i]).take (j + 1)).map (fun x => (x, i)) = ((lookC cs t[i]).take j).map (fun x => (x, i)) ++ [(c, i)] := by
              rw [take_more hc, List.map_append]
              rfl
            rw [e, ← List.append_assoc, runL_app _ [(c, i)]]
            rfl
          rw [es]
          generalize runL (chg cs 0 (t.take i) ++ ((lookC cs t[i]).take j).map fun x => (x, i)) = st at W5 B5 hle ⊢
          obtain ⟨us, vs, q, mp, ru, mq, rv, pq, nq⟩ := W5
          have okL := G5.fh
          have lu := ru.len_map
          have lv := rv.len_map
          have ls : st.shut.length ≤ st.line.length + 1 := by
            unfold LS.shut
            split
            · omega
            · rw [List.length_append, List.length_singleton]; omega
          walk_at "go"
          walk_at "ss"
          refine r_cut (M := fun σ2 H2 => ∃ (F' : Hp) (y5 y6 y7 : Option V), Grow [] F H F' H2 ∧ LWat H F' H2 p (st.step (c, i)) ∧
            σ2 = [some (.str (S t)), some (.ref a), some v, some (.str (S m)), some (.ref p), some (.str (S [b5])), some (.int (i : Int)), some (.str (S (lookC cs t[i]))), y3, some (.str (S [c])), y5, y6, y7, none, none, none]) ?_ ?_
          · walk_at "go"
            rw [nl_str, show decide (V.str ⟨#[c]⟩ = V.str (S [10])) = decide (c = 10) from decide_eq_decide.mpr one_iff]
            refine r_ite (fun c1 => ?_) (fun c1 => ?_)
            · have c1 := of_decide_eq_true c1
              subst c1
              walk_at "go"
              refine k_fz okL mq fun F6 g6 hq6 => ?_
              have mp6 := g6.mu (one_not pq) mp
              refine k_mu g6.fh fun q2 F7 H7 g7 m7 n7 => ?_
              have mp7 := g7.mu nil_not mp6
              have G7 := (G5.comp g6 (side_one (.inr nq))).comp g7 side_nil
              walk_at "go"
              refine r_append mp7.1 (by rw [List.length_append, List.length_singleton]; omega) (k_wr g7.fh mp7 fun F8 H8 g8 m8 => ?_)
              refine ⟨F8, _, _, _, G7.comp g8 (side_one (.inr np0)), ⟨us ++ [V.ref q], [], q2, m8, ?_, g8.mu (one_not (mp6.ne n7).symm) m7, .nil, ?_, ?_⟩, rfl⟩
              · rw [step_nl]
                show Rps F8 _ ((st.lines ++ [st.shut]).map encLn)
                rw [List.map_append]
                exact g8.rps (g7.rps ((g6.rps ru).append (.one (.lst hq6 (g6.rps rv)))))
              · exact mp6.ne n7
              · exact Grow.back0 (G5.comp g6 (side_one (.inr nq))) n7
            · have c1 := of_decide_eq_false c1
              walk_at "go"
              rw [sp_str, show decide (V.str ⟨#[c]⟩ = V.str (S [32])) = decide (c = 32) from decide_eq_decide.mpr one_iff]
              refine r_ite (fun c2 => ?_) (fun c2 => ?_)
              · have c2 : ¬ c = 32 := fun z => by rw [decide_eq_true z] at c2; cases c2
                have est := step_ch st i c1 c2
                walk_at "go"
                rw [show decide (V.str (S [b5]) = V.str (S [32])) = decide (b5 = 32) from decide_eq_decide.mpr one_iff]
                refine r_ite (fun c3 => ?_) (fun c3 => ?_)
                · have hbl : isBlank b5 = true := blank_iff.mpr (.inl (of_decide_eq_true c3))
                  walk_at "go"
                  refine r_ixLast (sql_mu mp) ?_
                  walk_at "go"
                  refine k_new okL fun pt F6 H6 g6 hp6 np6 => ?_
                  walk_at "go"
                  have mq6 := g6.mu nil_not mq
                  refine r_append mq6.1 (by omega) (k_wr g6.fh mq6 fun F7 H7 g7 m7 => ?_)
                  have ech : st.chars = [] := B5.mp hbl
                  refine ⟨F7, _, _, _, (G5.comp g6 side_nil).comp g7 (side_one (.inr nq)), ⟨us, _, q, g7.mu (one_not pq) (g6.mu nil_not mp), ?_, m7, ?_, pq, nq⟩, rfl⟩
                  · rw [est]
                    exact g7.rps (g6.rps ru)
                  · rw [shut_nil ech] at rv
                    rw [est, ech, if_pos rfl, shut_cons (by simp)]
                    show Rps F7 _ ((st.line ++ [([c], i, i)]).map encW)
                    rw [List.map_append]
                    exact g7.rps ((g6.rps rv).append (.one (encW_mk (x := ([c], i, i)) hp6)))
                · have c3 := of_decide_eq_false c3
                  walk_at "go"
                  rw [show decide (V.str (S [b5]) = V.str (S [10])) = decide (b5 = 10) from decide_eq_decide.mpr one_iff]
                  refine r_ite (fun c4 => ?_) (fun c4 => ?_)
                  · have hbl : isBlank b5 = true := blank_iff.mpr (.inr (of_decide_eq_true c4))
                    walk_at "go"
                    refine r_ixLast (sql_mu mp) ?_
                    walk_at "go"
                    refine k_new okL fun pt F6 H6 g6 hp6 np6 => ?_
                    walk_at "go"
                    have mq6 := g6.mu nil_not mq
                    refine r_append mq6.1 (by omega) (k_wr g6.fh mq6 fun F7 H7 g7 m7 => ?_)
                    have ech : st.chars = [] := B5.mp hbl
                    refine ⟨F7, _, _, _, (G5.comp g6 side_nil).comp g7 (side_one (.inr nq)), ⟨us, _, q, g7.mu (one_not pq) (g6.mu nil_not mp), ?_, m7, ?_, pq, nq⟩, rfl⟩
                    · rw [est]
                      exact g7.rps (g6.rps ru)
                    · rw [shut_nil ech] at rv
                      rw [est, ech, if_pos rfl, shut_cons (by simp)]
                      show Rps F7 _ ((st.line ++ [([c], i, i)]).map encW)
                      rw [List.map_append]
                      exact g7.rps ((g6.rps rv).append (.one (encW_mk (x := ([c], i, i)) hp6)))
                  · have c4 := of_decide_eq_false c4
                    have hnb : isBlank b5 = false := by
                      cases z : isBlank b5 with
                      | false => rfl
                      | true => exact absurd (blank_iff.mp z) (fun z => z.elim c3 c4)
                    walk_at "go"
                    have ech : ¬ st.chars = [] := fun z => by have := B5.mpr z; rw [hnb] at this; cases this
                    rw [shut_cons ech, List.map_append] at rv
                    obtain ⟨vs0, v1, rfl, rv0, rv1⟩ := Rps.snoc_inv rv
                    obtain ⟨aw, rfl, haw⟩ := encW_inv rv1
                    refine r_ixLast (sql_mu mp) ?_
                    walk_at "go"
                    refine r_ixLast (sql_mu mq) ?_
                    walk_at "go"
                    walk_at "ss"
                    walk_at "go"
                    refine r_catSS (w := st.chars) (u := [c]) (by simp only [List.length_singleton]; omega) ?_
                    walk_at "go"
                    refine k_new okL fun pt F6 H6 g6 hp6 np6 => ?_
                    have mp6 := g6.mu nil_not mp
                    have mq6 := g6.mu nil_not mq
                    walk_at "go"
                    refine r_ixLast (sql_mu mp6) ?_
                    walk_at "go"
                    refine r_setLast mq6.1 (k_wr g6.fh mq6 fun F7 H7 g7 m7 => ?_)
                    refine ⟨F7, _, _, _, (G5.comp g6 side_nil).comp g7 (side_one (.inr nq)), ⟨us, _, q, g7.mu (one_not pq) mp6, ?_, m7, ?_, pq, nq⟩, rfl⟩
                    · rw [est]
                      exact g7.rps (g6.rps ru)
                    · rw [est, if_neg ech, shut_cons (by simp)]
                      show Rps F7 _ ((st.line ++ [(st.chars ++ [c], st.first, i)]).map encW)
                      rw [List.map_append]
                      exact g7.rps ((g6.rps rv0).append (.one (encW_mk (x := (st.chars ++ [c], st.first, i)) hp6)))
              · have c2 : c = 32 := by
                  cases z : decide (c = 32) with
                  | true => exact of_decide_eq_true z
                  | false => rw [z] at c2; cases c2
                subst c2
                walk_at "go"
                refine ⟨F5, _, _, _, G5, ⟨us, vs, q, mp, ru, mq, ?_, pq, nq⟩, rfl⟩
                rw [step_sp]
                exact rv
          · rintro σ2 H6 ⟨F6, y5, y6, y7, G6, W6, rfl⟩
            walk_at "go"
            walk_at "ss"
            refine ⟨F6, c, _, y5, y6, y7, G6, W6, ?_, rfl⟩
            rw [blank_iff]
            by_cases e1 : c = 10
            · subst e1
              exact ⟨fun _ => rfl, fun _ => .inr rfl⟩
            · by_cases e2 : c = 32
              · subst e2
                exact ⟨fun _ => rfl, fun _ => .inl rfl⟩
              · rw [step_ch st i e1 e2]
                exact ⟨fun z => z.elim (fun z => absurd z e2) (fun z => absurd z e1), fun z => by simp at z⟩
        · rintro σ' H5 ⟨F5, b5, y4, y5, y6, y7, G5, W5, B5, rfl⟩
          rw [S_len, List.take_length] at W5 B5
          have e : chg cs 0 (t.take (i + 1)) = chg cs 0 (t.take i) ++ (lookC cs t[i]).map fun x => (x, i) := by
            rw [take_more hti, chg_snoc, List.length_take, Nat.min_eq_left (Nat.le_of_lt hi), Nat.zero_add]
            rfl
          rw [e]
          exact ⟨F5, b5, _, _, _, _, _, _, _, G5, W5, B5, rfl⟩
    · rintro σ' H3 ⟨F3, b, y1, y2, y3, y4, y5, y6, y7, G3, W3, B3, rfl⟩
      rw [List.take_length] at W3
      obtain ⟨us, vs, q, mp, ru, mq, rv, pq, nq⟩ := W3
      walk_at "go"
      refine k_fz G3.fh mq fun F4 g4 hq4 => ?_
      have mp4 := g4.mu (one_not pq) mp
      refine k_fz g4.fh mp4 fun F5 g5 hp5 => ?_
      have G5 := (G3.comp g4 (side_one (.inr nq))).comp g5 (side_one (.inr np0))
      have rall : Rps F5 (us ++ [V.ref q]) ((splitL (chg cs 0 t)).map encLn) := by
        have e : splitL (chg cs 0 t) = (runL (chg cs 0 t)).lines ++ [(runL (chg cs 0 t)).shut] := rfl
        rw [e, List.map_append]
        exact g5.rps ((g4.rps ru).append (.one (.lst hq4 (g4.rps rv))))
      obtain ⟨lo1, lo2⟩ := splitL_len (cs := chg cs 0 t)
      have lo0 := cl t
      unfold linesOf at k
      generalize splitL (chg cs 0 t) = ls at rall lo1 lo2 k
      refine k_mu g5.fh fun r F6 H6 g6 hr6 nr6 => ?_
      have nr0 : H r = none := Grow.back0 G5 nr6
      have G6 := G5.comp g6 side_nil
      have hp6 := g6.at hp5
      have r6 := g6.rps rall
      walk_at "go"
      walk_at "ss"
      refine r_itL (sql_fz G6.fh hp6) ?_
      refine loopL (xs := us ++ [V.ref q]) (fun i σ' H' => ∃ (F' : Hp) (ws : List V) (y : Option V), Grow [] F H F' H' ∧ F' p = some (.lst (us ++ [V.ref q])) ∧ Rps F' (us ++ [V.ref q]) (ls.map encLn) ∧ Mu F' H' r (.lst ws) ∧ Rps F' ws ((hideL hid m (ls.take i)).map encLn) ∧
        σ' = [some (.str (S t)), some (.ref a), some v, some (.str (S m)), some (.ref p), some (.str (S [b])), y1, y2, y3, y4, y5, y6, y7, some (.ref r), y, none]) ⟨F6, [], _, G6, hp6, r6, hr6, .nil, rfl⟩ (fun i σ' H' _ ⟨F', _, _, G, h, _⟩ => sql_fz G.fh h) ?_ ?_
      · rintro i x σ' H7 hx ⟨F7, ws, y, G7, hp7, ra7, m7, rw7, rfl⟩
        obtain ⟨l, hl, rl⟩ := ra7.get_map hx
        obtain ⟨al, xl, rfl, hal, hrl⟩ := rl.lst_inv
        have okL := G7.fh
        have lo := lo2 l (List.mem_of_getElem? hl)
        have hi : i < ls.length := (List.getElem?_eq_some_iff.mp hl).1
        walk_at "go"
        walk_at "ss"
        walk_at "go"
        refine r_itL (sql_fz okL hal) fun Dl hD => ?_
        refine lcL_map (ds := l.map encW) (es := (l.map (hide1 hid m)).map encW) okL hD hal hrl (by simp) (by rw [List.length_map]; omega) ?_ ?_
        · intro j x d e F8 H8 Kc hd he rx g8 kc
          obtain ⟨wd, hwd, rfl⟩ := map_at hd
          obtain ⟨wd2, hwd2, rfl⟩ := map_at he
          obtain ⟨wd3, hwd3, rfl⟩ := map_at hwd2
          rw [hwd] at hwd3
          cases hwd3
          obtain ⟨aw, rfl, haw⟩ := encW_inv rx
          have okJ := g8.fh
          walk_at "go"
          refine ⟨rfl, ?_⟩
          walk_at "go"
          refine ⟨F8, wd.1, v, hid, m, rfl, g8.fh, g8.rp (G7.rp hv), by have := lo.2 wd (List.mem_of_getElem? hwd); omega, h3, fun F9 H9 g9 => ?_⟩
          have ok9 := g9.fh
          have haw9 := g9.at haw
          walk_at "go"
          refine k_new g9.fh fun pt F10 H10 g10 hp10 np10 => ?_
          exact kc _ F10 H10 (g9.comp g10 side_nil) (encW_mk (x := hide1 hid m wd) hp10)
        · intro F8 H8 g8 r8
          walk_at "go"
          have m8 := g8.mu nil_not m7
          refine r_append m8.1 ?_ (k_wr g8.fh m8 fun F9 H9 g9 m9 => ?_)
          · have e := rw7.len_map
            unfold hideL at e
            rw [List.length_map, List.length_take] at e
            omega
          · refine ⟨F9, _, _, (G7.comp g8 side_nil).comp g9 (side_one (.inr nr0)), g9.at (g8.at hp7), g9.rps (g8.rps ra7), m9, ?_, rfl⟩
            unfold hideL
            rw [take_more hl, List.map_append, List.map_append]
            exact (g9.rps (g8.rps rw7)).append (.one (g9.rp r8))
      · rintro σ' H7 ⟨F7, ws, y, G7, hp7, ra7, m7, rw7, rfl⟩
        rw [ra7.len_map, List.take_length] at rw7
        walk_at "go"
        refine k_fz G7.fh m7 fun F8 g8 hr8 => ?_
        have k : ∀ (v' : V) (F' H' : Hp), Grow [] F H F' H' → Rp F' v' (encLns (hideL hid m ls)) → Q v' H' := k
        exact k _ F8 H7 (G7.comp g8 (side_one (.inr nr0))) (.lst hr8 (g8.rps rw7))

end
section
variable {P : Program} {w : World} {K : PySem.W.Frag} {mg : Str → Option Value} {base : Heap}

def sp_law_bare : Sp := fun vs H Q _ => ∃ (F : Hp) (u : V) (ls : List (List Wd)), vs = [u] ∧ Same F H ∧ Rp F u (encLns ls) ∧ ls.length ≤ 10000000 ∧ (∀ l ∈ ls, l.length ≤ 10000000) ∧
  ∀ (v' : V) (F' H' : Hp), Grow [] F H F' H' → Rp F' v' (encDoc (plain ls)) → Q v' H'
abbrev N_law_bare : List Str := ["_law_lines", "_law_line", "_law_row"]
theorem sc_law_bare : FnScope N_law_bare ["_law_lines"] (defScope s_law_bare) := ⟨rfl, rfl, rfl, by decide +kernel, rfl, by decide +kernel, by decide +kernel⟩
theorem ok_law_bare (T : Txt K mg) : OkG P w K mg base 1 "_law_bare" ["_law_lines"] sp_law_bare := by
  refine T.okG 69 58 rfl rfl (d := d_law_bare) sc_law_bare (fun _ _ _ _ _ _ us hl => match us, hl with | [_], _ => rfl) (fun vs H Q E h => ?_) (fun cdv A outer s H vs Q E hr h => ?_)
  · obtain ⟨_, _, _, rfl, _⟩ := h
    rfl
  · refine ⟨_, PSs.nox (pss_one (ps_ret (pe_lc (own := [("_law_line", 1)]) (g := gName 1) (tt := tYes) rfl sc_law_bare.nd (pi_list (pv 0)) (blkOk_by (own := [("_law_line", 1)]) (N := N_law_bare) (sc := defScope s_law_bare) (by decide +kernel)) (fun _ _ _ _ _ => (pg_name (i := 1) sc_law_bare.nd rfl (Or.inl rfl))) (fun _ _ _ _ _ => pts_nil) (by intro _ _ _ _ _; refine' pe_lc (wi := iList K (tVar 1)) (te := tOp (rIxT K) (tVar 2) (tC (.int 0))) (own := [("_law_row", 2)]) (g := gName 2) (tt := tYes) rfl sc_law_bare.nd ?_ ?_ ?_ ?_ ?_; (exact (pi_list (pv 1))); (exact (blkOk_by (own := [("_law_row", 2)]) (N := N_law_bare) (by kernel_rfl))); (exact (fun _ _ _ _ _ => (pg_name (i := 2) sc_law_bare.nd rfl (Or.inl rfl)))); (exact (fun _ _ _ _ _ => pts_nil)); (exact (fun _ _ _ _ _ => (pe_ix (ixK_tup (K := K)) (pv 2) pe_int (fun _ _ => rfl)))))))), ?_⟩
    obtain ⟨F, u, ls, rfl, ok, hu1, h1, h2, k⟩ := h
    obtain ⟨a, xs, rfl, ha, hrr⟩ := hu1.lst_inv
    walk_at "go"
    refine r_itL (sql_fz ok ha) fun Dl hD => ?_
    refine lcL_map (ds := ls.map encLn) (es := (plain ls).map encStrs) ok hD ha hrr (by simp [plain]) (by rw [List.length_map]; omega) ?_ ?_
    · intro j x dd e F3 H3 Kc hdd he rx g3 kc
      obtain ⟨l, hl, rfl⟩ := map_at hdd
      obtain ⟨pl, hpl, rfl⟩ := map_at he
      obtain ⟨l2, hl2, rfl⟩ := map_at (f := fun l : List Wd => l.map fun x => x.1) hpl
      rw [hl] at hl2
      cases hl2
      obtain ⟨al, xl, rfl, hal, hrl⟩ := rx.lst_inv
      have okL := g3.fh
      walk_at "go"
      refine ⟨rfl, ?_⟩
      walk_at "go"
      refine r_itL (by walk_at "up") fun D2 hD2 => ?_
      refine lcL_map (ds := l.map encW) (es := (l.map fun x => x.1).map fun x => .str (S x)) okL hD2 hal hrl (by simp) (by rw [List.length_map]; have := h2 l (List.mem_of_getElem? hl); omega) ?_ ?_
      · intro j2 x2 d2 e2 F4 H4 Kc2 hd2 he2 rx2 g4 kc2
        obtain ⟨wd, hwd, rfl⟩ := map_at hd2
        obtain ⟨x1, hx1, rfl⟩ := map_at he2
        obtain ⟨wd2, hwd2, rfl⟩ := map_at hx1
        rw [hwd] at hwd2
        cases hwd2
        obtain ⟨aw, rfl, haw⟩ := encW_inv rx2
        have okJ := g4.fh
        walk_at "go"
        refine ⟨rfl, ?_⟩
        walk_at "go"
        exact kc2 _ F4 H4 (Grow.refl okJ) (.str _)
      · intro F4 H4 g4 r4
        exact kc _ F4 H4 g4 r4
    · intro F3 H3 g3 r3
      exact k _ F3 H3 g3 r3

def sp_law_fate : Sp := fun vs H Q _ => ∃ (F : Hp) (u v p : V) (ln : Line) (R : Ru) (docs : List (List Line)), vs = [u, v, p] ∧ Same F H ∧ Rp F u (encStrs ln) ∧ Rp F v (encRul R) ∧ Rp F p (encDocs docs) ∧ docs.length ≤ 1000 ∧
  (∀ x ∈ ln, okC x) ∧ (∀ d ∈ docs, ∀ l ∈ d, ∀ x ∈ l, okC x) ∧
  ∀ (v' : V) (F' H' : Hp), Grow [] F H F' H' → Rp F' v' (fateOf R docs ln).enc → Q v' H'
abbrev N_law_fate : List Str := ["_law_line", "_law_rules", "_law_documents", "_law_word_here", "_law_many", "_law_lines"]
theorem sc_law_fate : FnScope N_law_fate ["_law_line", "_law_rules", "_law_documents"] (defScope s_law_fate) := ⟨rfl, rfl, rfl, by decide +kernel, rfl, by decide +kernel, by decide +kernel⟩
theorem ok_law_fate (T : Txt K mg) : OkG P w K mg base 1 "_law_fate" ["_law_line", "_law_rules", "_law_documents"] sp_law_fate := by
  have m_len : mg "len" = none := T.free 68 rfl
  refine T.okG 70 59 rfl rfl (d := d_law_fate) sc_law_fate (fun _ _ _ _ _ _ us hl => match us, hl with | [_, _, _], _ => rfl) (fun vs H Q E h => ?_) (fun cdv A outer s H vs Q E hr h => ?_)
  · obtain ⟨_, _, _, _, _, _, _, rfl, _⟩ := h
    rfl
  · refine ⟨_, PSs.nox (pss_cons (ps_if (pt_cmpR op_lt (pe_callB cr_lenL (by rfl) m_len PySem.boot_len (pa_cons (pv 0) pa_nil)) (pe_ix ix_list (pv 1) pe_int (fun _ _ => rfl)) (nomark _))
        (pss_one (ps_ret (pe_tup (pa_cons pe_str pa_nil))))
        pss_nil)
      (pss_cons (ps_for PassesOwn.never rfl (pi_list (pv 0)) (pg_name (i := 3) sc_law_fate.nd rfl (Or.inl rfl))
        (pss_one (ps_if (pt_cmpR op_in_seq (pv 3) (pe_ix ix_list (pv 1) pe_int (fun _ _ => rfl)) (by rfl))
          (pss_one (ps_ret (pe_tup (pa_cons pe_str (pa_cons (pv 3) pa_nil)))))
          pss_nil)))
      (pss_cons (ps_set (i := 4) sc_law_fate.nd rfl (Or.inl rfl) (pe_callB cr_lenL (by rfl) m_len PySem.boot_len (pa_cons (pe_lc (own := [("_law_lines", 5)]) (g := gName 5) rfl sc_law_fate.nd (pi_list (pv 2)) (blkOk_by (own := [("_law_lines", 5)]) (N := N_law_fate) (sc := defScope s_law_fate) (by decide +kernel)) (fun _ _ _ _ _ => (pg_name (i := 5) sc_law_fate.nd rfl (Or.inl rfl))) (fun _ _ _ _ _ => (pts_one (pt_cmpR (opK_inD (K := K) (hu65 hr)) (pv 0) (pv 5) (by rfl)))) (fun _ _ _ _ _ => (pv 5))) pa_nil)))
      (pss_cons (ps_if (PW.pt (pw_and (pt_cmpR op_gt (pe_ix ix_list (pv 1) pe_int (fun _ _ => rfl)) pe_int (nomark _)) (pw_and1 (pt_cmpR op_ge (pv 4) (pe_ix ix_list (pv 1) pe_int (fun _ _ => rfl)) (nomark _)))))
        (pss_one (ps_ret (pe_tup (pa_cons pe_str (pa_cons (pv 4) pa_nil)))))
        pss_nil)
      (pss_one (ps_ret (pe_tup (pa_cons pe_str pa_nil)))))))), ?_⟩
    obtain ⟨F, u, v, p, ln, R, docs, rfl, ok, hu1, hR, hP, hdl, hc1, hc2, k⟩ := h
    obtain ⟨a, rfl, ha⟩ := strs_inv hu1
    obtain ⟨ar, xr, rfl, har, hrr, X⟩ := rul_inv hR
    obtain ⟨ap, xp, rfl, hap, hrp⟩ := hP.lst_inv
    obtain ⟨x1, e1, r1⟩ := X.banned
    obtain ⟨ab, rfl, hab⟩ := strs_inv r1
    walk_at "go"
    refine r_ixL (n := 3) (sql_fz ok har) rfl X.lineWords ?_
    walk_at "go"
    rw [List.length_map]
    unfold fateOf at k
    refine r_ite (fun c => ?_) (fun c => ?_)
    · have c := of_decide_eq_true c
      rw [if_pos (by omega)] at k
      walk_at "go"
      refine k_new ok fun pt F1 H1 g1 hp1 np1 => ?_
      exact k _ F1 H1 g1 (.tup hp1 (.cons (.str _) .nil))
    · have c := of_decide_eq_false c
      rw [if_neg (by omega)] at k
      walk_at "go"
      refine r_itL (sql_fz ok ha) ?_
      refine loopL (xs := ln.map fun x => V.str (S x)) (fun i σ' H' => ∃ (y : Option V), H' = H ∧ firstB (ln.take i) R.banned = none ∧ σ' = [some (.ref a), some (.ref ar), some (.ref ap), y, none, none])
        ⟨none, rfl, rfl, rfl⟩ (fun i σ' H' _ ⟨_, e, _⟩ => by rw [e]; exact sql_fz ok ha) ?_ ?_
      · rintro i x σ' H2 hx ⟨y, rfl, f, rfl⟩
        obtain ⟨u, hu, rfl⟩ := map_at hx
        walk_at "go"
        walk_at "ss"
        walk_at "go"
        refine r_ixL (n := 2) (sql_fz ok har) rfl e1 ?_
        refine r_inL (sql_fz ok hab) rfl (flat_strs _) ?_
        rw [inV_strs]
        walk_at "go"
        refine r_ite (fun c => ?_) (fun c => ?_)
        · walk_at "go"
          have e : firstB ln R.banned = some u := by
            unfold firstB at f ⊢
            obtain ⟨hl, e⟩ := List.getElem?_eq_some_iff.mp hu
            have s : ln = ln.take i ++ (u :: ln.drop (i + 1)) := by
              rw [← e, ← List.drop_eq_getElem_cons hl, List.take_append_drop]
            rw [s, List.find?_append, f, List.find?_cons, c]
            rfl
          rw [e] at k
          refine k_new ok fun pt F1 H1 g1 hp1 np1 => ?_
          exact k _ F1 H1 g1 (.tup hp1 (.cons (.str _) (.cons (.str _) .nil)))
        · walk_at "go"
          refine ⟨_, rfl, ?_, rfl⟩
          unfold firstB at f ⊢
          rw [take_more hu, List.find?_append, f, List.find?_cons, c]
          rfl
      · rintro σ' H2 ⟨y, rfl, f, rfl⟩
        rw [List.length_map, List.take_length] at f
        rw [f] at k
        have k : ∀ (v' : V) (F' H' : Hp), Grow [] F H2 F' H' → Rp F' v' (if 0 < R.lineDocs ∧ R.lineDocs ≤ cnt docs ln then Fate.common (cnt docs ln) else Fate.kept).enc → Q v' H' := k
        walk_at "go"
        refine r_itL (sql_fz ok hap) fun Dl hD => ?_
        refine lcL_filter (xs := xp) (ds := docs.map encDoc) (fun d => match d with | .list z => z.any fun z => PyData.eqv z (encStrs ln) | _ => false) ok hD hap hrp (by rw [List.length_map]; omega) (fun _ => rfl) (fun _ => rfl) ?_ ?_
        · intro j x d F3 H3 Kt hd rx g3 kt
          obtain ⟨dc, hdc, rfl⟩ := map_at hd
          have ha3 := g3.rp hu1
          walk_at "go"
          refine r_inD (Rp.dp _ (ha3.up g3.fh)) (Rp.dp _ (rx.up g3.fh)) (shaped_strs hc1) (shaped_doc (hc2 dc (List.mem_of_getElem? hdc))) ?_
          walk_at "go"
          exact kt F3 H3 (Grow.refl g3.fh)
        · intro F3 H3 g3 r3
          have ef : (docs.map encDoc).filter (fun d => match d with | .list z => z.any fun z => PyData.eqv z (encStrs ln) | _ => false) = (docs.filter fun d => decide (ln ∈ d)).map encDoc := by
            rw [List.filter_map]
            congr 1
            refine List.filter_congr fun d _ => ?_
            exact any_strs
          rw [ef] at r3
          obtain ⟨af, xf, haf0, haf, raf⟩ := r3.lst_inv
          cases haf0
          have lf := raf.len_map
          have okM := g3.fh
          walk_at "go"
          walk_at "ss"
          walk_at "go"
          rw [lf]
          have kept : (¬ (0 < R.lineDocs ∧ R.lineDocs ≤ cnt docs ln)) → New (.tup [.str "kept"]) H3 Q := fun c2 => by
            rw [if_neg c2] at k
            refine k_new g3.fh fun pt F4 H4 g4 hp4 np4 => ?_
            exact k _ F4 H4 (g3.comp g4 side_nil) (.tup hp4 (.cons (.str _) .nil))
          have ec : (docs.filter fun d => decide (ln ∈ d)).length = cnt docs ln := rfl
          rw [ec]
          refine r_ixL (n := 4) (sql_fz okM (g3.at har)) rfl X.lineDocs ?_
          walk_at "go"
          refine r_ite (fun c2 => ?_) (fun c2 => ?_)
          · have c2 := of_decide_eq_true c2
            walk_at "go"
            refine r_ixL (n := 4) (sql_fz okM (g3.at har)) rfl X.lineDocs ?_
            walk_at "go"
            refine r_ite (fun c3 => ?_) (fun c3 => ?_)
            · have c3 := of_decide_eq_true c3
              walk_at "go"
              refine k_new g3.fh fun pt F4 H4 g4 hp4 np4 => ?_
              rw [if_pos ⟨by omega, by omega⟩] at k
              exact k _ F4 H4 (g3.comp g4 side_nil) (.tup hp4 (.cons (.str _) (.cons (.int _) .nil)))
            · have c3 := of_decide_eq_false c3
              walk_at "go"
              exact kept fun z => c3 (by omega)
          · have c2 := of_decide_eq_false c2
            walk_at "go"
            exact kept fun z => c2 (by omega)

def sp_law_reason : Sp := fun vs H Q _ => ∃ (F : Hp) (u v : V) (ws : List (List Nat)) (R : Ru), vs = [u, v] ∧ Same F H ∧ Rp F u (encStrs ws) ∧ Rp F v (encRul R) ∧ RuOk R ∧ R.shares.length ≤ 1000 ∧ ws.length ≤ 10000000 ∧ (∀ x ∈ ws, x.length ≤ 1000000) ∧
  ∀ (v' : V) (F' H' : Hp), Grow [] F H F' H' → Rp F' v' (encR (reasonOf R ws)) → Q v' H'
abbrev N_law_reason : List Str := ["_law_words_here", "_law_rules", "_law_k", "_law_shape_here", "_law_over", "_law_under", "_law_many", "_law_word_here"]
theorem sc_law_reason : FnScope N_law_reason ["_law_words_here", "_law_rules"] (defScope s_law_reason) := ⟨rfl, rfl, rfl, by decide +kernel, rfl, by decide +kernel, by decide +kernel⟩
theorem ok_law_reason (T : Txt K mg) : OkG P w K mg base 3 "_law_reason" ["_law_words_here", "_law_rules"] sp_law_reason := by
  have m_len : mg "len" = none := T.free 68 rfl
  have m_range : mg "range" = none := T.free 70 rfl
  obtain ⟨f_law_has, fd_law_has, G_law_has, mg_law_has, kp_law_has, b_law_has⟩ := ok_law_has (P := P) (w := w) (base := base) T
  refine T.okG 71 60 rfl rfl (d := d_law_reason) sc_law_reason (fun _ _ _ _ _ _ us hl => match us, hl with | [_, _], _ => rfl) (fun vs H Q E h => ?_) (fun cdv A outer s H vs Q E hr h => ?_)
  · obtain ⟨_, _, _, _, _, rfl, _⟩ := h
    rfl
  · refine ⟨_, PSs.nox (pss_cons (ps_if (pt_cmpR op_lt (pe_callB cr_lenL (by rfl) m_len PySem.boot_len (pa_cons (pv 0) pa_nil)) (pe_ix ix_list (pv 1) pe_int (fun _ _ => rfl)) (nomark _))
        (pss_one (ps_ret (pe_tup (pa_cons pe_str pa_nil))))
        pss_nil)
      (pss_cons (ps_for PassesOwn.never rfl (pi_range1 (by rfl) m_range (pa_cons (pe_callB cr_lenL (by rfl) m_len PySem.boot_len (pa_cons (pe_ix ix_list (pv 1) pe_int (fun _ _ => rfl)) pa_nil)) pa_nil)) (pg_name (i := 2) sc_law_reason.nd rfl (Or.inl rfl))
        (pss_cons (ps_asg (pe_ix ix_list (pe_ix ix_list (pv 1) pe_int (fun _ _ => rfl)) (pv 2) (fun _ _ => rfl)) (pg_tup (by rfl) (pgs_cons (pg_name (i := 3) sc_law_reason.nd rfl (Or.inr rfl)) (pgs_cons (pg_name (i := 4) sc_law_reason.nd rfl (Or.inl rfl)) (pgs_cons (pg_name (i := 5) sc_law_reason.nd rfl (Or.inl rfl)) pgs_nil)))))
        (pss_cons (ps_set (i := 6) sc_law_reason.nd rfl (Or.inl rfl) (pe_callB cr_lenL (by rfl) m_len PySem.boot_len (pa_cons (pe_lc (own := [("_law_word_here", 7)]) (g := gName 7) rfl sc_law_reason.nd (pi_list (pv 0)) (blkOk_by (own := [("_law_word_here", 7)]) (N := N_law_reason) (sc := defScope s_law_reason) (by decide +kernel)) (fun _ _ _ _ _ => (pg_name (i := 7) sc_law_reason.nd rfl (Or.inl rfl))) (fun _ _ _ _ _ => (pts_one (pt_val (pe_call G_law_has (hr.mono (by decide)) rfl mg_law_has kp_law_has b_law_has .nil pass0 (pa_cons (pv 7) (pa_cons (pv 3) pa_nil)))))) (fun _ _ _ _ _ => (pv 7))) pa_nil)))
        (pss_one (ps_if (pt_cmpR op_gt (pe_op op_mul (pv 6) (pv 5)) (pe_op op_mul (pv 4) (pe_callB cr_lenL (by rfl) m_len PySem.boot_len (pa_cons (pv 0) pa_nil))) (nomark _))
          (pss_one (ps_ret (pe_tup (pa_cons pe_str (pa_cons (pv 2) pa_nil)))))
          pss_nil)))))
      (pss_one (ps_ret pe_non)))), ?_⟩
    obtain ⟨F, u, v, ws, R, rfl, ok, hu1, hR, hO, hs, hw, hww, k⟩ := h
    obtain ⟨a, rfl, ha⟩ := strs_inv hu1
    obtain ⟨ar, xr, rfl, har, hrr, X⟩ := rul_inv hR
    obtain ⟨x1, e1, r1⟩ := X.shares
    obtain ⟨as, xs, rfl, hasx, hrs⟩ := r1.lst_inv
    walk_at "go"
    refine r_ixL (n := 7) (sql_fz ok har) rfl X.docWords ?_
    walk_at "go"
    rw [List.length_map]
    unfold reasonOf at k
    refine r_ite (fun c => ?_) (fun c => ?_)
    · have c := of_decide_eq_true c
      rw [if_pos (by omega)] at k
      walk_at "go"
      refine k_new ok fun pt F1 H1 g1 hp1 np1 => ?_
      exact k _ F1 H1 g1 (.tup hp1 (.cons (.str _) .nil))
    · have c := of_decide_eq_false c
      rw [if_neg (by omega)] at k
      walk_at "go"
      refine r_ixL (n := 8) (sql_fz ok har) rfl e1 ?_
      walk_at "go"
      have lx := hrs.len_map
      rw [lx]
      refine r_rng1E (n := R.shares.length) rfl (by omega) ?_
      refine loopR0 (fun i σ' H' => ∃ (F' : Hp) (y1 y2 y3 y4 y5 : Option V), Grow [] F H F' H' ∧ (∀ j s, j < i → R.shares[j]? = some s → overShare ws s = false) ∧
        σ' = [some (.ref a), some (.ref ar), y1, y2, y3, y4, y5, none]) ⟨F, none, none, none, none, none, Grow.refl ok, fun j s hj => absurd hj (by omega), rfl⟩ ?_ ?_
      · rintro i σ' H2 hi ⟨F2, y1, y2, y3, y4, y5, G, fi, rfl⟩
        have okL := G.fh
        have hsi : R.shares[i]? = some R.shares[i] := List.getElem?_eq_getElem hi
        obtain ⟨x, hx, rx⟩ := (G.rps hrs).at_map hsi
        obtain ⟨ax, vx, rfl, hax, rvx⟩ := rx.tup_inv
        obtain ⟨z1, _, rfl, q1, rvx⟩ := rvx.cons_inv
        obtain ⟨_, _, rfl, q2, rvx⟩ := rvx.cons_inv
        obtain ⟨_, _, rfl, q3, rvx⟩ := rvx.cons_inv
        cases rvx.nil_inv
        cases q2.int_inv
        cases q3.int_inv
        have so := hO.shr R.shares[i] (List.mem_of_getElem? hsi)
        walk_at "go"
        walk_at "ss"
        walk_at "go"
        refine r_ixL (n := 8) (sql_fz okL (G.at har)) rfl e1 ?_
        walk_at "go"
        refine r_ixL (n := i) (xs := xs) (by walk_at "up") rfl hx ?_
        walk_at "go"
        walk_at "ss"
        refine r_itL (xs := ws.map fun x => V.str (S x)) (by walk_at "up") fun Dl hD => ?_
        have hra := (hu1.up G.ff)
        obtain ⟨a2, xs2, ea2, ha2, hra2⟩ := hra.lst_inv
        cases ea2
        refine lcL_filter (xs := xs2) (ds := ws.map fun x => .str (S x)) (fun d => match d with | .str z => has (tl z) R.shares[i].1 | _ => false) okL hD ha2 hra2 (by rw [List.length_map]; omega) (fun _ => rfl) (fun _ => rfl) ?_ ?_
        · intro j x d F3 H3 Kt hd rx g3 kt
          obtain ⟨wd, hwd, rfl⟩ := map_at hd
          cases rx.str_inv
          walk_at "go"
          refine ⟨F3, wd, z1, R.shares[i].1, rfl, g3.fh, g3.rp q1, hww wd (List.mem_of_getElem? hwd), so.1, fun F4 H4 g4 => ?_⟩
          walk_at "go"
          exact kt F4 H4 g4
        · intro F3 H3 g3 r3
          have ef : (ws.map fun x => PyData.str (S x)).filter (fun d => match d with | .str z => has (tl z) R.shares[i].1 | _ => false) = (ws.filter fun w => has w R.shares[i].1).map fun x => .str (S x) := by
            rw [List.filter_map]
            rfl
          rw [ef] at r3
          obtain ⟨af, haf0, haf⟩ := strs_inv r3
          cases haf0
          have okM := g3.fh
          walk_at "go"
          walk_at "ss"
          rw [List.length_map]
          have lf := List.length_filter_le (fun w => has w R.shares[i].1) ws
          refine r_I (.inl ⟨by omega, by omega⟩) ?_
          walk_at "go"
          rw [hra2.len_map]
          refine r_I (.inl ⟨by omega, by omega⟩) ?_
          walk_at "go"
          have eo : overShare ws R.shares[i] = decide (((R.shares[i].2.1 : Int) * (ws.length : Int)) < (((ws.filter fun w => has w R.shares[i].1).length : Int) * (R.shares[i].2.2 : Int))) := by
            unfold overShare
            exact decide_eq_decide.mpr (by rw [← Int.natCast_mul, ← Int.natCast_mul]; exact Int.ofNat_lt.symm)
          rw [← eo]
          refine r_ite (fun c2 => ?_) (fun c2 => ?_)
          · walk_at "go"
            refine k_new g3.fh fun pt F4 H4 g4 hp4 np4 => ?_
            rw [shIx_hit fi hsi c2, Nat.zero_add] at k
            exact k _ F4 H4 ((G.comp g3 side_nil).comp g4 side_nil) (.tup hp4 (.cons (.str _) (.cons (.int _) .nil)))
          · walk_at "go"
            refine ⟨F3, _, _, _, _, _, G.comp g3 side_nil, fun j s hj hs2 => ?_, rfl⟩
            by_cases ej : j = i
            · subst ej
              rw [hsi] at hs2
              cases hs2
              exact c2
            · exact fi j s (by omega) hs2
      · rintro σ' H2 ⟨F2, y1, y2, y3, y4, y5, G, fi, rfl⟩
        walk_at "go"
        rw [shIx_none fun j s hs2 => fi j s (List.getElem?_eq_some_iff.mp hs2).1 hs2] at k
        exact k _ F2 H2 G .non

end
section
variable {P : Program} {w : World} {K : PySem.W.Frag} {mg : Str → Option Value} {base : Heap}

/-- data that _law_same can walk: the bound on its depth first -/
inductive OkD : Nat → PyData → Prop
  | non (n : Nat) : OkD (n + 1) .none
  | int (n : Nat) (i : Int) : OkD (n + 1) (.int i)
  | str (n : Nat) (x : Str) : OkD (n + 1) (.str x)
  | lst {n : Nat} {ds : List PyData} : ds.length ≤ 10000000 → (∀ d ∈ ds, OkD n d) → OkD (n + 1) (.list ds)
  | tup {n : Nat} {ds : List PyData} : ds.length ≤ 10000000 → (∀ d ∈ ds, OkD n d) → OkD (n + 1) (.tuple ds)
def sp_law_same (n : Nat) : Sp := fun vs H Q _ => ∃ (F : Hp) (u v : V) (d : PyData), vs = [u, v] ∧ Same F H ∧ Rp F u d ∧ Rp F v d ∧ OkD n d ∧ Q (.bl true) H
theorem r_isi {x : V} {a b : String} {r : Bool} {H : Hp} {Q : VK} (ty : TyOf K H x (.type a)) (hk : kitB a b = some r) (q : Q (.bl r) H) : rIsi K [x, .ty b] H Q :=
  ⟨x, .ty b, .type a, .type b, r, rfl, .ty b, .base ty, kit_ty hk, q⟩
theorem r_ixA {a : Addr} {xs : List V} {i : Nat} {v : V} {H : Hp} {Q : VK} (h : H a = some (.lst xs) ∨ H a = some (.tup xs)) (g : xs[i]? = some v) (q : Q v H) : rIx K (.ref a) (.int (i : Int)) H Q := by
  rcases h with h | h
  · exact .inl (r_ixL (SqL.of h) rfl g q)
  · exact .inr (.inl (r_ixT (SqT.of h) rfl g q))
theorem r_lenA {a : Addr} {xs : List V} {H : Hp} {Q : VK} (h : H a = some (.lst xs) ∨ H a = some (.tup xs)) (q : Q (.int (xs.length : Int)) H) : rLenL K [.ref a] H Q := by
  rcases h with h | h
  · exact r_lenL (SqL.of h) q
  · exact r_lenT (SqT.of h) q
abbrev N_law_same : List Str := ["_law_actual", "_law_due", "_law_k"]
theorem sc_law_same : FnScope N_law_same ["_law_actual", "_law_due"] (defScope s_law_same) := ⟨rfl, rfl, rfl, by decide +kernel, rfl, by decide +kernel, by decide +kernel⟩

theorem okn_law_same (T : Txt K mg) : ∀ n : Nat, OkG P w K mg base (n + 1) "_law_same" ["_law_actual", "_law_due"] (sp_law_same n)
  | 0 => T.okG 55 44 rfl rfl (d := d_law_same) sc_law_same (fun _ _ _ _ _ _ us hl => match us, hl with | [_, _], _ => rfl) (fun vs H Q E h => by
      obtain ⟨_, _, _, _, _, _, _, _, q, _⟩ := h
      cases q) (fun cdv A outer s H vs Q E hr h => by
      obtain ⟨_, _, _, _, _, _, _, _, q, _⟩ := h
      cases q)
  | n + 1 => by
    obtain ⟨f_law_same, fd_law_same, G_law_same, mg_law_same, kp_law_same, b_law_same⟩ := okn_law_same T n
    have m_bool : mg "bool" = none := T.free 75 rfl
    have m_int : mg "int" = none := T.free 69 rfl
    have m_isinstance : mg "isinstance" = none := T.free 73 rfl
    have m_len : mg "len" = none := T.free 68 rfl
    have m_list : mg "list" = none := T.free 74 rfl
    have m_range : mg "range" = none := T.free 70 rfl
    have m_str : mg "str" = none := T.free 76 rfl
    have m_tuple : mg "tuple" = none := T.free 71 rfl
    refine T.okG 55 44 rfl rfl (d := d_law_same) sc_law_same (fun _ _ _ _ _ _ us hl => match us, hl with | [_, _], _ => rfl) (fun vs H Q E h => ?_) (fun cdv A outer s H vs Q E hr h => ?_)
    · obtain ⟨_, _, _, _, rfl, _⟩ := h
      rfl
    · refine ⟨_, PSs.nox (pss_cons (ps_if (PW.pt (pw_or (pt_val (pe_callB call_isi (by rfl) m_isinstance (by decide +kernel) (pa_cons (pv 1) (pa_cons (pe_bltn (v := .ty "list") (u := .type "list") (by rfl) m_list (by decide +kernel) rfl) pa_nil)))) (pw_or1 (pt_val (pe_callB call_isi (by rfl) m_isinstance (by decide +kernel) (pa_cons (pv 1) (pa_cons (pe_bltn (v := .ty "tuple") (u := .type "tuple") (by rfl) m_tuple (by decide +kernel) rfl) pa_nil)))))))
          (pss_cons (ps_if (PW.pt (pw_or (pt_cmpR op_ne (pe_callB call_isi (by rfl) m_isinstance (by decide +kernel) (pa_cons (pv 1) (pa_cons (pe_bltn (v := .ty "list") (u := .type "list") (by rfl) m_list (by decide +kernel) rfl) pa_nil))) (pe_callB call_isi (by rfl) m_isinstance (by decide +kernel) (pa_cons (pv 0) (pa_cons (pe_bltn (v := .ty "list") (u := .type "list") (by rfl) m_list (by decide +kernel) rfl) pa_nil))) (nomark _)) (pw_or1 (pt_cmpR op_ne (pe_callB call_isi (by rfl) m_isinstance (by decide +kernel) (pa_cons (pv 1) (pa_cons (pe_bltn (v := .ty "tuple") (u := .type "tuple") (by rfl) m_tuple (by decide +kernel) rfl) pa_nil))) (pe_callB call_isi (by rfl) m_isinstance (by decide +kernel) (pa_cons (pv 0) (pa_cons (pe_bltn (v := .ty "tuple") (u := .type "tuple") (by rfl) m_tuple (by decide +kernel) rfl) pa_nil))) (nomark _)))))
            (pss_one (ps_ret pe_bl))
            pss_nil)
          (pss_cons (ps_if (pt_cmpR op_ne (pe_callB cr_lenL (by rfl) m_len PySem.boot_len (pa_cons (pv 0) pa_nil)) (pe_callB cr_lenL (by rfl) m_len PySem.boot_len (pa_cons (pv 1) pa_nil)) (nomark _))
            (pss_one (ps_ret pe_bl))
            pss_nil)
          (pss_cons (ps_for PassesOwn.never rfl (pi_range1 (by rfl) m_range (pa_cons (pe_callB cr_lenL (by rfl) m_len PySem.boot_len (pa_cons (pv 1) pa_nil)) pa_nil)) (pg_name (i := 2) sc_law_same.nd rfl (Or.inl rfl))
            (pss_one (ps_if (pt_not (pt_val (pe_call G_law_same hr rfl mg_law_same kp_law_same b_law_same .nil pass0 (pa_cons (pe_ix ix_seq (pv 0) (pv 2) (fun _ _ => rfl)) (pa_cons (pe_ix ix_seq (pv 1) (pv 2) (fun _ _ => rfl)) pa_nil)))))
              (pss_one (ps_ret pe_bl))
              pss_nil)))
          (pss_one (ps_ret pe_bl)))))
          pss_nil)
        (pss_cons (ps_if (pt_cmpR op_isN1 (pv 1) pe_non (nomark _))
          (pss_one (ps_ret (pe_cmpR op_isN1 (pv 0) pe_non (nomark _))))
          pss_nil)
        (pss_cons (ps_if (pt_val (pe_callB call_isi (by rfl) m_isinstance (by decide +kernel) (pa_cons (pv 1) (pa_cons (pe_bltn (v := .ty "bool") (u := .type "bool") (by rfl) m_bool (by decide +kernel) rfl) pa_nil))))
          (pss_one (ps_ret (pe_and (pe_callB call_isi (by rfl) m_isinstance (by decide +kernel) (pa_cons (pv 0) (pa_cons (pe_bltn (v := .ty "bool") (u := .type "bool") (by rfl) m_bool (by decide +kernel) rfl) pa_nil))) (pe_one (pe_cmpR op_eq (pv 0) (pv 1) (nomark _))))))
          pss_nil)
        (pss_cons (ps_if (pt_val (pe_callB call_isi (by rfl) m_isinstance (by decide +kernel) (pa_cons (pv 1) (pa_cons (pe_bltn (v := .ty "str") (u := .type "str") (by rfl) m_str (by decide +kernel) rfl) pa_nil))))
          (pss_one (ps_ret (pe_and (pe_callB call_isi (by rfl) m_isinstance (by decide +kernel) (pa_cons (pv 0) (pa_cons (pe_bltn (v := .ty "str") (u := .type "str") (by rfl) m_str (by decide +kernel) rfl) pa_nil))) (pe_one (pe_cmpR op_eq (pv 0) (pv 1) (nomark _))))))
          pss_nil)
        (pss_one (ps_ret (pe_and (pe_callB call_isi (by rfl) m_isinstance (by decide +kernel) (pa_cons (pv 0) (pa_cons (pe_bltn (v := .ty "int") (u := .type "int") (by rfl) m_int (by decide +kernel) rfl) pa_nil))) (pe_and (pe_not (pe_callB call_isi (by rfl) m_isinstance (by decide +kernel) (pa_cons (pv 0) (pa_cons (pe_bltn (v := .ty "bool") (u := .type "bool") (by rfl) m_bool (by decide +kernel) rfl) pa_nil)))) (pe_one (pe_cmpR op_eq (pv 0) (pv 1) (nomark _))))))))))), ?_⟩
      obtain ⟨F, u, v, d, rfl, ok, hu1, hv1, hd, k⟩ := h
      cases hd with
      | non =>
        cases hu1.non_inv
        cases hv1.non_inv
        walk_at "go"
        refine r_isi .non (r := false) (by decide +kernel) ?_
        walk_at "go"
        refine r_isi .non (r := false) (by decide +kernel) ?_
        walk_at "go"
        refine r_iteT (decide_eq_true rfl) ?_
        walk_at "go"
        exact k
      | int =>
        cases hu1.int_inv
        cases hv1.int_inv
        walk_at "go"
        refine r_isi (.int _) (r := false) (by decide +kernel) ?_
        walk_at "go"
        refine r_isi (.int _) (r := false) (by decide +kernel) ?_
        walk_at "go"
        refine r_iteF rfl ?_
        walk_at "go"
        refine r_isi (.int _) (r := false) (by decide +kernel) ?_
        walk_at "go"
        refine r_isi (.int _) (r := false) (by decide +kernel) ?_
        walk_at "go"
        refine r_isi (.int _) (r := true) (by decide +kernel) ?_
        walk_at "go"
        refine r_isi (.int _) (r := false) (by decide +kernel) ?_
        walk_at "go"
        refine r_iteT rfl ?_
        walk_at "go"
        rw [decide_eq_true rfl]
        exact k
      | str =>
        cases hu1.str_inv
        cases hv1.str_inv
        walk_at "go"
        refine r_isi (.str _) (r := false) (by decide +kernel) ?_
        walk_at "go"
        refine r_isi (.str _) (r := false) (by decide +kernel) ?_
        walk_at "go"
        refine r_iteF rfl ?_
        walk_at "go"
        refine r_isi (.str _) (r := false) (by decide +kernel) ?_
        walk_at "go"
        refine r_isi (.str _) (r := true) (by decide +kernel) ?_
        walk_at "go"
        refine r_isi (.str _) (r := true) (by decide +kernel) ?_
        walk_at "go"
        rw [decide_eq_true rfl]
        exact k
      | @lst _ ds hl hds =>
        obtain ⟨a, xs, rfl, ha, hra⟩ := hu1.lst_inv
        obtain ⟨b, ys, rfl, hb, hrb⟩ := hv1.lst_inv
        walk_at "go"
        refine r_isi (.lst (ok _ _ hb)) (r := true) (by decide +kernel) ?_
        walk_at "go"
        refine r_isi (.lst (ok _ _ hb)) (r := true) (by decide +kernel) ?_
        walk_at "go"
        refine r_isi (.lst (ok _ _ ha)) (r := true) (by decide +kernel) ?_
        walk_at "go"
        refine r_iteF (by rw [decide_eq_true rfl]; rfl) ?_
        walk_at "go"
        refine r_isi (.lst (ok _ _ hb)) (r := false) (by decide +kernel) ?_
        walk_at "go"
        refine r_isi (.lst (ok _ _ ha)) (r := false) (by decide +kernel) ?_
        walk_at "go"
        refine r_iteF rfl ?_
        walk_at "go"
        rw [hra.length, hrb.length]
        refine r_iteF (by rw [decide_eq_true rfl]; rfl) ?_
        walk_at "go"
        rw [hrb.length]
        refine r_rng1E (n := ds.length) rfl (by omega) ?_
        refine loopR0 (fun i σ' H' => ∃ (y : Option V), H' = H ∧ σ' = [some (.ref a), some (.ref b), y]) ⟨none, rfl, rfl⟩ ?_ ?_
        · rintro i σ' H' hi ⟨y, rfl, rfl⟩
          have hdi : ds[i]? = some ds[i] := List.getElem?_eq_getElem hi
          obtain ⟨x1, hx1, rx1⟩ := hra.at hdi
          obtain ⟨x2, hx2, rx2⟩ := hrb.at hdi
          walk_at "go"
          walk_at "ss"
          walk_at "go"
          refine r_ixA (.inl (ok _ _ ha)) hx1 ?_
          walk_at "go"
          refine r_ixA (.inl (ok _ _ hb)) hx2 ?_
          walk_at "go"
          refine ⟨F, x1, x2, ds[i], rfl, ok, rx1, rx2, hds _ (List.getElem_mem hi), ?_⟩
          walk_at "go"
          refine r_iteF rfl ?_
          walk_at "go"
          exact ⟨_, rfl, rfl⟩
        · rintro σ' H' ⟨y, rfl, rfl⟩
          walk_at "go"
          exact k
      | @tup _ ds hl hds =>
        obtain ⟨a, xs, rfl, ha, hra⟩ := hu1.tup_inv
        obtain ⟨b, ys, rfl, hb, hrb⟩ := hv1.tup_inv
        walk_at "go"
        refine r_isi (.tup (ok _ _ hb)) (r := false) (by decide +kernel) ?_
        walk_at "go"
        refine r_isi (.tup (ok _ _ hb)) (r := true) (by decide +kernel) ?_
        walk_at "go"
        refine r_isi (.tup (ok _ _ hb)) (r := false) (by decide +kernel) ?_
        walk_at "go"
        refine r_isi (.tup (ok _ _ ha)) (r := false) (by decide +kernel) ?_
        walk_at "go"
        refine r_iteF (by rw [decide_eq_true rfl]; rfl) ?_
        walk_at "go"
        refine r_isi (.tup (ok _ _ hb)) (r := true) (by decide +kernel) ?_
        walk_at "go"
        refine r_isi (.tup (ok _ _ ha)) (r := true) (by decide +kernel) ?_
        walk_at "go"
        refine r_iteF rfl ?_
        walk_at "go"
        refine r_lenT (sqt_fz ok ha) ?_
        walk_at "go"
        refine r_lenT (sqt_fz ok hb) ?_
        walk_at "go"
        rw [hra.length, hrb.length]
        refine r_iteF (by rw [decide_eq_true rfl]; rfl) ?_
        walk_at "go"
        refine r_lenT (sqt_fz ok hb) ?_
        walk_at "go"
        rw [hrb.length]
        refine r_rng1E (n := ds.length) rfl (by omega) ?_
        refine loopR0 (fun i σ' H' => ∃ (y : Option V), H' = H ∧ σ' = [some (.ref a), some (.ref b), y]) ⟨none, rfl, rfl⟩ ?_ ?_
        · rintro i σ' H' hi ⟨y, rfl, rfl⟩
          have hdi : ds[i]? = some ds[i] := List.getElem?_eq_getElem hi
          obtain ⟨x1, hx1, rx1⟩ := hra.at hdi
          obtain ⟨x2, hx2, rx2⟩ := hrb.at hdi
          walk_at "go"
          walk_at "ss"
          walk_at "go"
          refine r_ixA (.inr (ok _ _ ha)) hx1 ?_
          walk_at "go"
          refine r_ixA (.inr (ok _ _ hb)) hx2 ?_
          walk_at "go"
          refine ⟨F, x1, x2, ds[i], rfl, ok, rx1, rx2, hds _ (List.getElem_mem hi), ?_⟩
          walk_at "go"
          refine r_iteF rfl ?_
          walk_at "go"
          exact ⟨_, rfl, rfl⟩
        · rintro σ' H' ⟨y, rfl, rfl⟩
          walk_at "go"
          exact k
theorem ok_law_same (T : Txt K mg) : OkG P w K mg base 8 "_law_same" ["_law_actual", "_law_due"] (sp_law_same 7) := okn_law_same T 7

end
/-! ### the rules' text, in the law's own way -/
theorem len_app (x y : Str) : (x ++ y).length = x.length + y.length := by rw [len_tl, len_tl x, len_tl y, tl_append, List.length_append]
theorem ll0 : ("\"" : Str).length = 1 := by decide +kernel
theorem lt0 : tl ("\"" : Str) = [34] := by decide +kernel
theorem ll1 : (" " : Str).length = 1 := by decide +kernel
theorem lt1 : tl (" " : Str) = [32] := by decide +kernel
theorem ll2 : (" to " : Str).length = 4 := by decide +kernel
theorem lt2 : tl (" to " : Str) = [32, 116, 111, 32] := by decide +kernel
theorem ll3 : (", " : Str).length = 2 := by decide +kernel
theorem lt3 : tl (", " : Str) = [44, 32] := by decide +kernel
theorem ll4 : ("least " : Str).length = 6 := by decide +kernel
theorem lt4 : tl ("least " : Str) = [108, 101, 97, 115, 116, 32] := by decide +kernel
theorem ll5 : ("common " : Str).length = 7 := by decide +kernel
theorem lt5 : tl ("common " : Str) = [99, 111, 109, 109, 111, 110, 32] := by decide +kernel
theorem ll6 : ("lines " : Str).length = 6 := by decide +kernel
theorem lt6 : tl ("lines " : Str) = [108, 105, 110, 101, 115, 32] := by decide +kernel
theorem ll7 : (";\n" : Str).length = 2 := by decide +kernel
theorem lt7 : tl (";\n" : Str) = [59, 10] := by decide +kernel
theorem ll8 : ("s" : Str).length = 1 := by decide +kernel
theorem lt8 : tl ("s" : Str) = [115] := by decide +kernel
theorem ll9 : ("sources " : Str).length = 8 := by decide +kernel
theorem lt9 : tl ("sources " : Str) = [115, 111, 117, 114, 99, 101, 115, 32] := by decide +kernel
theorem ll10 : ("change " : Str).length = 7 := by decide +kernel
theorem lt10 : tl ("change " : Str) = [99, 104, 97, 110, 103, 101, 32] := by decide +kernel
theorem ll11 : ("ban " : Str).length = 4 := by decide +kernel
theorem lt11 : tl ("ban " : Str) = [98, 97, 110, 32] := by decide +kernel
theorem ll12 : ("hide " : Str).length = 5 := by decide +kernel
theorem lt12 : tl ("hide " : Str) = [104, 105, 100, 101, 32] := by decide +kernel
theorem ll13 : ("mark " : Str).length = 5 := by decide +kernel
theorem lt13 : tl ("mark " : Str) = [109, 97, 114, 107, 32] := by decide +kernel
theorem ll14 : (";\ndocuments least " : Str).length = 18 := by decide +kernel
theorem lt14 : tl (";\ndocuments least " : Str) = [59, 10, 100, 111, 99, 117, 109, 101, 110, 116, 115, 32, 108, 101, 97, 115, 116, 32] := by decide +kernel
theorem ll15 : ("share " : Str).length = 6 := by decide +kernel
theorem lt15 : tl ("share " : Str) = [115, 104, 97, 114, 101, 32] := by decide +kernel
theorem ll16 : (": " : Str).length = 2 := by decide +kernel
theorem lt16 : tl (": " : Str) = [58, 32] := by decide +kernel
theorem ll17 : (" of " : Str).length = 4 := by decide +kernel
theorem lt17 : tl (" of " : Str) = [32, 111, 102, 32] := by decide +kernel
theorem ll18 : ("alike " : Str).length = 6 := by decide +kernel
theorem lt18 : tl ("alike " : Str) = [97, 108, 105, 107, 101, 32] := by decide +kernel
theorem ll19 : (", runs of " : Str).length = 10 := by decide +kernel
theorem lt19 : tl (", runs of " : Str) = [44, 32, 114, 117, 110, 115, 32, 111, 102, 32] := by decide +kernel
theorem ll20 : ("phrases " : Str).length = 8 := by decide +kernel
theorem lt20 : tl ("phrases " : Str) = [112, 104, 114, 97, 115, 101, 115, 32] := by decide +kernel
theorem ll21 : (";\npieces least " : Str).length = 15 := by decide +kernel
theorem lt21 : tl (";\npieces least " : Str) = [59, 10, 112, 105, 101, 99, 101, 115, 32, 108, 101, 97, 115, 116, 32] := by decide +kernel
theorem ll22 : (";\njoins " : Str).length = 8 := by decide +kernel
theorem lt22 : tl (";\njoins " : Str) = [59, 10, 106, 111, 105, 110, 115, 32] := by decide +kernel
theorem ll23 : (";\npages " : Str).length = 8 := by decide +kernel
theorem lt23 : tl (";\npages " : Str) = [59, 10, 112, 97, 103, 101, 115, 32] := by decide +kernel
theorem ll24 : (";\nvolumes " : Str).length = 10 := by decide +kernel
theorem lt24 : tl (";\nvolumes " : Str) = [59, 10, 118, 111, 108, 117, 109, 101, 115, 32] := by decide +kernel
theorem ll25 : ("" : Str).length = 0 := by decide +kernel
theorem lt25 : tl ("" : Str) = [] := by decide +kernel
theorem ll26 : ("letter" : Str).length = 6 := by decide +kernel
theorem lt26 : tl ("letter" : Str) = [108, 101, 116, 116, 101, 114] := by decide +kernel
theorem ll27 : ("digit" : Str).length = 5 := by decide +kernel
theorem lt27 : tl ("digit" : Str) = [100, 105, 103, 105, 116] := by decide +kernel
theorem ll28 : ("any" : Str).length = 3 := by decide +kernel
theorem lt28 : tl ("any" : Str) = [97, 110, 121] := by decide +kernel
def dbl (l : List Nat) : List Nat := l.flatMap fun c => if c = 34 then [34, 34] else [c]
theorem dbl_nil : dbl [] = [] := rfl
theorem dbl_cons (c : Nat) (l : List Nat) : dbl (c :: l) = (if c = 34 then [34, 34] else [c]) ++ dbl l := rfl
theorem dbl_len : ∀ l : List Nat, (dbl l).length ≤ 2 * l.length
  | [] => Nat.le_refl _
  | c :: l => by
    rw [dbl_cons, List.length_append, List.length_cons]
    have := dbl_len l
    split <;> simp only [List.length_cons, List.length_nil] <;> omega
theorem repl_dbl : ∀ l : List Nat, PySem.StrLaws.replL [34] [34, 34] l = dbl l
  | [] => PySem.StrLaws.replL_nil
  | c :: l => by
    rw [dbl_cons]
    by_cases h : c = 34
    · subst h
      rw [if_pos rfl, PySem.StrLaws.replL_hit (by decide) rfl, ← repl_dbl l]
      rfl
    · rw [if_neg h, PySem.StrLaws.replL_miss (y := [34]) (c := c) (r := l) (fun z => h (by have z2 : [c] = [34] := z; exact (List.cons.inj z2).1)), repl_dbl l]
      rfl
def quoS (x : Str) : Str := "\"" ++ Txt.replace x "\"" "\"\"" ++ "\""
theorem tl_repl (x : Str) : tl (Txt.replace x "\"" "\"\"") = dbl (tl x) := by
  have h : (Txt.replace x "\"" "\"\"").cps.toList = PySem.StrLaws.replL ("\"" : Str).cps.toList ("\"\"" : Str).cps.toList x.cps.toList := PySem.StrLaws.replace_list (by decide +kernel)
  have e1 : ("\"" : Str).cps.toList = [34] := by decide +kernel
  have e2 : ("\"\"" : Str).cps.toList = [34, 34] := by decide +kernel
  rw [e1, e2, repl_dbl] at h
  exact h
theorem tl_quo (x : Str) : tl (quoS x) = 34 :: (dbl (tl x) ++ [34]) := by
  unfold quoS
  rw [tl_append, tl_append, tl_repl, lt0]
  rfl
theorem quo_len (l : List Nat) : (quoS (S l)).length ≤ 2 * l.length + 2 := by
  rw [len_tl, tl_quo, tl_S]
  have := dbl_len l
  simp only [List.length_cons, List.length_append, List.length_nil]
  omega
def numS (n : Nat) : Str := Str.ofString (toString ((n : Nat) : Int))
theorem numL_small : ∀ n : Nat, n < 10 → numL n = [48 + n] := by decide +kernel
theorem tl_numS {n : Nat} (h : n < 10) : tl (numS n) = [48 + n] := by
  unfold numS
  rw [tl_num, numL_small n h]
theorem num_len {n : Nat} (h : n < 10) : (numS n).length = 1 := by rw [len_tl, tl_numS h]; rfl
theorem log_small {n : Nat} (h : n < 10) : ((n : Int)).natAbs.log2 < 1920 := by
  have e : ((n : Int)).natAbs = n := rfl
  rw [e]
  have := Nat.log2_le_self n
  omega
theorem r_strI {n : Nat} {H : Hp} {Q : VK} (h : n < 10) (q : Q (.str (numS n)) H) : rStrI [.int (n : Int)] H Q := ⟨_, rfl, log_small h, q⟩
def kindS : Kind → Str
  | .ch c => quoS (S [c])
  | k => k.s
theorem kind_len (k : Kind) : (kindS k).length ≤ 6 := by
  cases k with
  | letter => decide +kernel
  | digit => decide +kernel
  | any => decide +kernel
  | ch c => exact Nat.le_trans (quo_len [c]) (by show 2 * 1 + 2 ≤ 6; decide)
def elemS (e : Elem) : Str :=
  if e.2.1 ≠ e.2.2 then kindS e.1 ++ " " ++ numS e.2.1 ++ " to " ++ numS e.2.2
  else if e.2.1 ≠ 1 then kindS e.1 ++ " " ++ numS e.2.1 else kindS e.1
theorem elem_len {e : Elem} (h1 : e.2.1 < 10) (h2 : e.2.2 < 10) : (elemS e).length ≤ 20 := by
  have := kind_len e.1
  unfold elemS
  split
  · simp only [len_app, num_len h1, num_len h2, ll1, ll2]
    omega
  · split
    · simp only [len_app, num_len h1, ll1]
      omega
    · omega
def shapeS (s : Shape) : Str := Txt.join ", " (s.map elemS)
theorem sum_le {α : Type} {f : α → Nat} {b : Nat} : ∀ {l : List α}, (∀ x ∈ l, f x ≤ b) → (l.map f).sum ≤ b * l.length
  | [], _ => Nat.le_refl _
  | x :: l, h => by
    have i1 := sum_le (l := l) fun y hy => h y (List.mem_cons_of_mem _ hy)
    have i2 := h x List.mem_cons_self
    rw [List.map_cons, List.sum_cons, List.length_cons, Nat.mul_add]
    omega
theorem joinL_len {s : List Nat} {b : Nat} : ∀ {l : List (List Nat)}, (∀ x ∈ l, x.length ≤ b) → (joinL s l).length ≤ (b + s.length) * l.length
  | [], _ => Nat.zero_le _
  | [p], h => by
    have := h p List.mem_cons_self
    show p.length ≤ (b + s.length) * 1
    omega
  | p :: q :: r, h => by
    have i1 := joinL_len (s := s) (l := q :: r) fun y hy => h y (List.mem_cons_of_mem _ hy)
    have i2 := h p List.mem_cons_self
    show (p ++ (s ++ joinL s (q :: r))).length ≤ (b + s.length) * ((q :: r).length + 1)
    rw [List.length_append, List.length_append, Nat.mul_add]
    omega
theorem join_len {s : Str} {ys : List Str} {b : Nat} (h : ∀ x ∈ ys, x.length ≤ b) : (Txt.join s ys).length ≤ (b + s.length) * ys.length := by
  rw [join_eq, len_tl, tl_join]
  have q := joinL_len (s := tl s) (b := b) (l := ys.map tl) fun x hx => by
    obtain ⟨y, hy, rfl⟩ := List.mem_map.mp hx
    rw [← len_tl]
    exact h y hy
  rw [List.length_map, ← len_tl] at q
  exact q
def ElOk (e : Elem) : Prop := e.2.1 < 10 ∧ e.2.2 < 10 ∧ e.2.1 ≤ e.2.2
def SpOk (s : Shape) : Prop := s.length ≤ 10 ∧ (∀ e ∈ s, ElOk e) ∧ ∃ e ∈ s, 1 ≤ e.2.1
theorem shape_len {s : Shape} (h : SpOk s) : (shapeS s).length ≤ 250 := by
  have q := join_len (s := ", ") (ys := s.map elemS) (b := 20) fun x hx => by
    obtain ⟨y, hy, rfl⟩ := List.mem_map.mp hx
    have := h.2.1 y hy
    exact elem_len this.1 this.2.1
  rw [List.length_map, ll3] at q
  unfold shapeS
  have := h.1
  omega
def wordC (l : List Nat) : Prop := l ≠ [] ∧ 32 ∉ l ∧ 10 ∉ l
/-- what the law draws -/
structure RV (R : Ru) : Prop where
  ch : R.changes.length ≤ 10 ∧ (∀ c ∈ R.changes, c.2.length ≤ 8 ∧ okC c.2) ∧ (R.changes.map fun x => x.1).Nodup
  ban : R.banned.length ≤ 10 ∧ ∀ w ∈ R.banned, w.length ≤ 8 ∧ wordC w
  lw : R.lineWords < 10
  ld : R.lineDocs < 10
  hid : R.hidden.length ≤ 10 ∧ ∀ s ∈ R.hidden, SpOk s
  mrk : R.mark.length ≤ 8 ∧ wordC R.mark ∧ okC R.mark
  nohid : hasAny R.mark R.hidden = false
  dw : R.docWords < 10 ∧ 1 ≤ R.docWords
  shr : R.shares.length ≤ 10 ∧ ∀ s ∈ R.shares, SpOk s.1 ∧ s.2.1 < 10 ∧ s.2.2 < 10 ∧ 1 ≤ s.2.2
def partsS (R : Ru) : List Str := (if 0 < R.lineWords then ["least " ++ numS R.lineWords] else []) ++ (if 0 < R.lineDocs then ["common " ++ numS R.lineDocs] else [])
def linesS (R : Ru) : Str := if partsS R = [] then "" else "lines " ++ Txt.join ", " (partsS R) ++ ";\n"
theorem parts_len {R : Ru} (h : RV R) : (partsS R).length ≤ 2 ∧ ∀ x ∈ partsS R, x.length ≤ 8 := by
  have h1 := num_len h.lw
  have h2 := num_len h.ld
  have a1 : ("least " ++ numS R.lineWords).length ≤ 8 := by rw [len_app, h1, ll4]; decide
  have a2 : ("common " ++ numS R.lineDocs).length ≤ 8 := by rw [len_app, h2, ll5]; decide
  unfold partsS
  constructor
  · rw [List.length_append]
    split <;> split <;> simp only [List.length_cons, List.length_nil] <;> omega
  · intro x hx
    rcases List.mem_append.mp hx with z | z
    · split at z
      · rw [List.mem_singleton.mp z]; exact a1
      · cases z
    · split at z
      · rw [List.mem_singleton.mp z]; exact a2
      · cases z
theorem lines_len {R : Ru} (h : RV R) : (linesS R).length ≤ 40 := by
  obtain ⟨h1, h2⟩ := parts_len h
  have q := join_len (s := ", ") h2
  rw [ll3] at q
  unfold linesS
  split
  · rw [ll25]; decide
  · simp only [len_app, ll6, ll7]
    omega
def srcS : Str := "sources " ++ Txt.join ", " ["s" ++ " " ++ numS 1] ++ ";\n"
def chgS (a : Str) (c : Chg) : Str := a ++ "change " ++ quoS (S [c.1]) ++ " to " ++ quoS (S c.2) ++ ";\n"
def banS (a : Str) (l : List (List Nat)) : Str := if l = [] then a else a ++ "ban " ++ Txt.join ", " (l.map fun w => quoS (S w)) ++ ";\n"
def hidS (a : Str) (s : Shape) : Str := a ++ "hide " ++ shapeS s ++ ";\n"
def mrkS (a : Str) (R : Ru) : Str := a ++ "mark " ++ quoS (S R.mark) ++ ";\ndocuments least " ++ numS R.docWords ++ ";\n"
def shrS (a : Str) (s : Shape × Nat × Nat) : Str := a ++ "share " ++ shapeS s.1 ++ ": " ++ numS s.2.1 ++ " of " ++ numS s.2.2 ++ ";\n"
def endS (a : Str) : Str := a ++ "alike " ++ numS 1 ++ " of " ++ numS 2 ++ ", runs of " ++ numS 3 ++ ";\n" ++ "phrases " ++ numS 4 ++ ";\npieces least " ++ numS 2 ++ ";\njoins " ++ numS 5 ++ ";\npages " ++ numS 8 ++ ";\nvolumes " ++ numS 2 ++ ";\n"
def normS (R : Ru) : Str := endS (R.shares.foldl shrS (mrkS (R.hidden.foldl hidS (banS (R.changes.foldl chgS srcS) R.banned ++ linesS R)) R))
theorem src_len : srcS.length ≤ 20 := by decide +kernel
theorem chg1_len {a : Str} {c : Chg} (h : c.2.length ≤ 8) : (chgS a c).length ≤ a.length + 40 := by
  have h1 := quo_len [c.1]
  have h2 := quo_len c.2
  unfold chgS
  simp only [len_app, ll10, ll2, ll7]
  simp only [List.length_singleton] at h1
  omega
theorem hid1_len {a : Str} {s : Shape} (h : SpOk s) : (hidS a s).length ≤ a.length + 260 := by
  have h1 := shape_len h
  unfold hidS
  simp only [len_app, ll12, ll7]
  omega
theorem shr1_len {a : Str} {s : Shape × Nat × Nat} (h : SpOk s.1) (h1 : s.2.1 < 10) (h2 : s.2.2 < 10) : (shrS a s).length ≤ a.length + 300 := by
  have h3 := shape_len h
  unfold shrS
  simp only [len_app, ll15, ll16, ll17, ll7, num_len h1, num_len h2]
  omega
theorem fold_len {α : Type} {f : Str → α → Str} {b : Nat} : ∀ {l : List α} {a : Str}, (∀ x ∈ l, ∀ a, (f a x).length ≤ a.length + b) → (l.foldl f a).length ≤ a.length + b * l.length
  | [], a, _ => Nat.le_refl _
  | x :: l, a, h => by
    have i1 := fold_len (l := l) (a := f a x) fun y hy => h y (List.mem_cons_of_mem _ hy)
    have i2 := h x List.mem_cons_self a
    rw [List.foldl_cons, List.length_cons, Nat.mul_add]
    omega
theorem ban_len {a : Str} {l : List (List Nat)} (h1 : l.length ≤ 10) (h2 : ∀ w ∈ l, w.length ≤ 8) : (Txt.join ", " (l.map fun w => quoS (S w))).length ≤ 200 ∧ (banS a l).length ≤ a.length + 210 := by
  have q := join_len (s := ", ") (ys := l.map fun w => quoS (S w)) (b := 18) fun x hx => by
    obtain ⟨y, hy, rfl⟩ := List.mem_map.mp hx
    have := quo_len y
    have := h2 y hy
    omega
  rw [List.length_map, ll3] at q
  refine ⟨by omega, ?_⟩
  unfold banS
  split
  · omega
  · simp only [len_app, ll11, ll7]
    omega

local macro_rules | `(tactic| walk_at "cat") => `(tactic| ((with_reducible refine' r_catS ?hh ?_); (case hh => (first | omega | (simp only [len_app, ll0, ll1, ll2, ll3, ll4, ll5, ll6, ll7, ll8, ll9, ll10, ll11, ll12, ll13, ll14, ll15, ll16, ll17, ll18, ll19, ll20, ll21, ll22, ll23, ll24, ll25, ll26, ll27, ll28]; omega)))))
local macro_rules | `(tactic| walk_at "cg") => `(tactic| repeat (first | walk_at "1" | walk_at "cat"))
section
variable {P : Program} {w : World} {K : PySem.W.Frag} {mg : Str → Option Value} {base : Heap}

theorem ne_t {p : Prop} [Decidable p] (h : (!decide p) = true) : ¬ p := fun z => by rw [decide_eq_true z] at h; cases h
theorem ne_f {p : Prop} [Decidable p] (h : (!decide p) = false) : p := by
  cases z : decide p with
  | true => exact of_decide_eq_true z
  | false => rw [z] at h; cases h
def sp_law_quoted : Sp := fun vs H Q _ => ∃ x : Str, vs = [.str x] ∧ x.length ≤ 1000000 ∧ Q (.str (quoS x)) H
abbrev N_law_quoted : List Str := ["_law_text_here"]
theorem sc_law_quoted : FnScope N_law_quoted ["_law_text_here"] (defScope s_law_quoted) := ⟨rfl, rfl, rfl, by decide +kernel, rfl, by decide +kernel, by decide +kernel⟩
theorem ok_law_quoted (T : Txt K mg) : OkG P w K mg base 1 "_law_quoted" ["_law_text_here"] sp_law_quoted := by
  obtain ⟨fd, F⟩ := T.fn_ 60 (d := d_law_quoted) rfl
  have F2 : FunD K d_law_quoted.name d_law_quoted.qual d_law_quoted.params d_law_quoted.body d_law_quoted.scope [] [] (He.ga K "_law_quoted") fd := F
  refine ⟨_, fd, ?_, T.glo 49 rfl, F2.kp, F2.bindsN (fun _ _ _ _ _ _ us hl => match us, hl with | [_], _ => rfl)⟩
  obtain ⟨oc, od, dV, kV, doc, pm, an, cdv, ct, osl, rfl, lk, hcd, _, _⟩ := F2.ex
  refine fn_ofT lk hcd sc_law_quoted (by decide +kernel) (by decide) (fun vs H Q E h => ?_) (fun A outer s H vs Q E hr h => ?_)
  · obtain ⟨_, rfl, _⟩ := h
    rfl
  · refine ⟨_, CwR.psst_one (CwR.pst_ret (CwR.pet_op op_catS (CwR.pet_op op_catS (CwR.PET.of pe_str) (CwR.pet_replC (y := "\"") (z := "\"\"") (pv 0) (by decide +kernel))) (CwR.PET.of pe_str))), ?_⟩
    obtain ⟨x, rfl, hx, k⟩ := h
    have h1 : (Txt.replace x "\"" "\"\"").length ≤ 2 * x.length := by
      rw [len_tl, tl_repl, len_tl x]
      exact dbl_len _
    have h2 : ("\"\"" : Str).length = 2 := by decide +kernel
    walk_at "go"
    refine ⟨by rw [h2]; omega, ?_⟩
    walk_at "cg"
    exact k
def sp_law_element_text : Sp := fun vs H Q _ => ∃ (F : Hp) (v : V) (e : Elem), vs = [v] ∧ Same F H ∧ Rp F v (encE e) ∧ ElOk e ∧ Q (.str (elemS e)) H
theorem Kind.one_len (k : Kind) : k.s.length ≤ 6 := by
  cases k with
  | letter => decide +kernel
  | digit => decide +kernel
  | any => decide +kernel
  | ch c => show 1 ≤ 6; decide
theorem Kind.not_one {k : Kind} (h : ¬ (k.s.length : Int) = 1) : kindS k = k.s := by
  cases k with
  | letter => rfl
  | digit => rfl
  | any => rfl
  | ch c => exact absurd rfl h
theorem Kind.is_one {k : Kind} (h : (k.s.length : Int) = 1) : kindS k = quoS k.s := by
  cases k with
  | letter => exact absurd h (by decide +kernel)
  | digit => exact absurd h (by decide +kernel)
  | any => exact absurd h (by decide +kernel)
  | ch c => rfl
abbrev N_law_element_text : List Str := ["_law_element", "_law_kind", "_law_least", "_law_most", "_law_text_here"]
theorem sc_law_element_text : FnScope N_law_element_text ["_law_element"] (defScope s_law_element_text) := ⟨rfl, rfl, rfl, by decide +kernel, rfl, by decide +kernel, by decide +kernel⟩
theorem ok_law_element_text (T : Txt K mg) : OkG P w K mg base 2 "_law_element_text" ["_law_element"] sp_law_element_text := by
  have m_len : mg "len" = none := T.free 68 rfl
  have m_str : mg "str" = none := T.free 76 rfl
  obtain ⟨f_law_quoted, fd_law_quoted, G_law_quoted, mg_law_quoted, kp_law_quoted, b_law_quoted⟩ := ok_law_quoted (P := P) (w := w) (base := base) T
  refine T.okG 63 52 rfl rfl (d := d_law_element_text) sc_law_element_text (fun _ _ _ _ _ _ us hl => match us, hl with | [_], _ => rfl) (fun vs H Q E h => ?_) (fun cdv A outer s H vs Q E hr h => ?_)
  · obtain ⟨_, _, _, rfl, _⟩ := h
    rfl
  · refine ⟨_, PSs.nox (pss_cons (ps_asg (pv 0) (pg_tup (by rfl) (pgs_cons (pg_name (i := 1) sc_law_element_text.nd rfl (Or.inl rfl)) (pgs_cons (pg_name (i := 2) sc_law_element_text.nd rfl (Or.inl rfl)) (pgs_cons (pg_name (i := 3) sc_law_element_text.nd rfl (Or.inl rfl)) pgs_nil)))))
      (pss_cons (ps_set (i := 4) sc_law_element_text.nd rfl (Or.inl rfl) (pv 1))
      (Evl.pss_cut (ps_if (pt_cmpR op_eq (pe_callB cr_lenS (by rfl) m_len PySem.boot_len (pa_cons (pv 1) pa_nil)) pe_int (nomark _))
        (pss_one (ps_set (i := 4) sc_law_element_text.nd rfl (Or.inl rfl) (pe_call G_law_quoted (hr.mono (by decide)) rfl mg_law_quoted kp_law_quoted b_law_quoted .nil pass0 (pa_cons (pv 1) pa_nil))))
        pss_nil)
      (pss_cons (ps_if (pt_cmpR op_ne (pv 2) (pv 3) (nomark _))
        (pss_one (ps_ret (pe_op op_catS (pe_op op_catS (pe_op op_catS (pe_op op_catS (pv 4) pe_str) (pe_callTy cr_strI (by rfl) m_str (by decide +kernel) (pa_cons (pv 2) pa_nil))) pe_str) (pe_callTy cr_strI (by rfl) m_str (by decide +kernel) (pa_cons (pv 3) pa_nil)))))
        pss_nil)
      (pss_cons (ps_if (pt_cmpR op_ne (pv 2) pe_int (nomark _))
        (pss_one (ps_ret (pe_op op_catS (pe_op op_catS (pv 4) pe_str) (pe_callTy cr_strI (by rfl) m_str (by decide +kernel) (pa_cons (pv 2) pa_nil)))))
        pss_nil)
      (pss_one (ps_ret (pv 4)))))))), ?_⟩
    obtain ⟨F, v, e, rfl, ok, hv, ⟨h1, h2, h3⟩, k⟩ := h
    obtain ⟨a, rfl, ha⟩ := encE_inv hv
    have hk := e.1.one_len
    walk_at "go"
    walk_at "ss"
    walk_at "go"
    refine r_cut (M := fun σ2 H2 => H2 = H ∧ σ2 = [some (.ref a), some (.str e.1.s), some (.int (e.2.1 : Int)), some (.int (e.2.2 : Int)), some (.str (kindS e.1))]) ?_ ?_
    · walk_at "go"
      refine r_lenS (by omega) ?_
      walk_at "go"
      refine r_ite (fun c => ?_) (fun c => ?_)
      · have c := of_decide_eq_true c
        walk_at "go"
        refine ⟨e.1.s, rfl, by omega, ?_⟩
        walk_at "go"
        exact ⟨rfl, by rw [Kind.is_one (V.int.inj c)]; rfl⟩
      · have c := of_decide_eq_false c
        walk_at "go"
        exact ⟨rfl, by rw [Kind.not_one fun z => c (by rw [z])]; rfl⟩
    · rintro σ2 H2 ⟨rfl, rfl⟩
      have q1 := kind_len e.1
      have q2 := num_len h1
      have q3 := num_len h2
      unfold elemS at k
      walk_at "go"
      refine r_ite (fun c => ?_) (fun c => ?_)
      · have c : e.2.1 ≠ e.2.2 := fun z => ne_t c (by rw [z])
        rw [if_pos c] at k
        walk_at "cg"
        refine r_strI h1 ?_
        walk_at "cg"
        refine r_strI h2 ?_
        walk_at "cg"
        exact k
      · have c : ¬ e.2.1 ≠ e.2.2 := fun z => z (Int.ofNat.inj (V.int.inj (ne_f c)))
        rw [if_neg c] at k
        walk_at "go"
        refine r_ite (fun c2 => ?_) (fun c2 => ?_)
        · have c2 : e.2.1 ≠ 1 := fun z => ne_t c2 (by rw [z]; rfl)
          rw [if_pos c2] at k
          walk_at "cg"
          refine r_strI h1 ?_
          walk_at "cg"
          exact k
        · have c2 : ¬ e.2.1 ≠ 1 := fun z => z (Int.ofNat.inj (V.int.inj (ne_f c2)))
          rw [if_neg c2] at k
          walk_at "go"
          exact k

def sp_law_shape_text : Sp := fun vs H Q _ => ∃ (F : Hp) (v : V) (s : Shape), vs = [v] ∧ Same F H ∧ Rp F v (encSh s) ∧ SpOk s ∧ ∀ F' H', Grow [] F H F' H' → Q (.str (shapeS s)) H'
theorem strs_at {F : Hp} {D : Addr} {ys : List Str} (h : Rp F (.ref D) (.list (ys.map PyData.str))) : F D = some (.lst (ys.map V.str)) := by
  obtain ⟨a, xs, e, ha, r⟩ := h.lst_inv
  cases e
  rw [r.strs_inv] at ha
  exact ha
abbrev N_law_shape_text : List Str := ["_law_shape_here", "_law_element"]
theorem sc_law_shape_text : FnScope N_law_shape_text ["_law_shape_here"] (defScope s_law_shape_text) := ⟨rfl, rfl, rfl, by decide +kernel, rfl, by decide +kernel, by decide +kernel⟩
theorem ok_law_shape_text (T : Txt K mg) : OkG P w K mg base 3 "_law_shape_text" ["_law_shape_here"] sp_law_shape_text := by
  obtain ⟨f_law_element_text, fd_law_element_text, G_law_element_text, mg_law_element_text, kp_law_element_text, b_law_element_text⟩ := ok_law_element_text (P := P) (w := w) (base := base) T
  refine T.okG 64 53 rfl rfl (d := d_law_shape_text) sc_law_shape_text (fun _ _ _ _ _ _ us hl => match us, hl with | [_], _ => rfl) (fun vs H Q E h => ?_) (fun cdv A outer s H vs Q E hr h => ?_)
  · obtain ⟨_, _, _, rfl, _⟩ := h
    rfl
  · refine ⟨_, PSs.nox (pss_one (ps_ret (pe_joinN pe_str (pe_lc (own := [("_law_element", 1)]) (g := gName 1) (tt := tYes) rfl sc_law_shape_text.nd (pi_list (pv 0)) (blkOk_by (own := [("_law_element", 1)]) (N := N_law_shape_text) (sc := defScope s_law_shape_text) (by decide +kernel)) (fun _ _ _ _ _ => (pg_name (i := 1) sc_law_shape_text.nd rfl (Or.inl rfl))) (fun _ _ _ _ _ => pts_nil) (fun _ _ _ _ _ => (pe_call G_law_element_text (hr.mono (by decide)) rfl mg_law_element_text kp_law_element_text b_law_element_text .nil pass0 (pa_cons (pv 1) pa_nil))))))), ?_⟩
    obtain ⟨F, v, s, rfl, ok, hv, hs, k⟩ := h
    obtain ⟨a, xs, rfl, ha, hrr⟩ := hv.lst_inv
    have hl := hs.1
    walk_at "go"
    refine r_itL (sql_fz ok ha) fun Dl hD => ?_
    refine lcL_map (ds := s.map encE) (es := (s.map elemS).map PyData.str) ok hD ha hrr (by simp) (by rw [List.length_map]; omega) ?_ ?_
    · intro j x d e F3 H3 Kc hd he rx g3 kc
      obtain ⟨el, hel, rfl⟩ := map_at hd
      obtain ⟨z, hz, rfl⟩ := map_at he
      obtain ⟨el2, hel2, rfl⟩ := map_at hz
      rw [hel] at hel2
      cases hel2
      walk_at "go"
      refine ⟨rfl, ?_⟩
      walk_at "go"
      refine ⟨F3, x, el, rfl, g3.fh, rx, hs.2.1 el (List.mem_of_getElem? hel), ?_⟩
      exact kc _ F3 H3 (Grow.refl g3.fh) (.str _)
    · intro F3 H3 g3 r3
      walk_at "go"
      refine r_join (K := K) (sql_fz g3.fh (strs_at r3)) ?_ ?_
      · have q := sum_le (f := fun z : Str => z.length) (b := 20) (l := s.map elemS) fun x hx => by
          obtain ⟨y, hy, rfl⟩ := List.mem_map.mp hx
          have := hs.2.1 y hy
          exact elem_len this.1 this.2.1
        rw [ll3, List.length_map]
        rw [List.length_map] at q
        omega
      · exact k F3 H3 g3

def sp_law_lines_text : Sp := fun vs H Q _ => ∃ (F : Hp) (v : V) (R : Ru), vs = [v] ∧ Same F H ∧ Rp F v (encRul R) ∧ RV R ∧ ∀ F' H', Grow [] F H F' H' → Q (.str (linesS R)) H'
abbrev N_law_lines_text : List Str := ["_law_rules", "_law_parts"]
theorem sc_law_lines_text : FnScope N_law_lines_text ["_law_rules"] (defScope s_law_lines_text) := ⟨rfl, rfl, rfl, by decide +kernel, rfl, by decide +kernel, by decide +kernel⟩
theorem ok_law_lines_text (T : Txt K mg) : OkG P w K mg base 1 "_law_lines_text" ["_law_rules"] sp_law_lines_text := by
  have m_len : mg "len" = none := T.free 68 rfl
  have m_str : mg "str" = none := T.free 76 rfl
  refine T.okG 65 54 rfl rfl (d := d_law_lines_text) sc_law_lines_text (fun _ _ _ _ _ _ us hl => match us, hl with | [_], _ => rfl) (fun vs H Q E h => ?_) (fun cdv A outer s H vs Q E hr h => ?_)
  · obtain ⟨_, _, _, rfl, _⟩ := h
    rfl
  · refine ⟨_, PSs.nox (pss_cons (ps_set (i := 1) sc_law_lines_text.nd rfl (Or.inl rfl) (pe_lst pa_nil))
      (Evl.pss_cut (ps_if (pt_cmpR op_gt (pe_ix ix_list (pv 0) pe_int (fun _ _ => rfl)) pe_int (nomark _))
        (pss_one (ps_expr (pe_bm PySem.F.plainAttrs_list PySem.F.slot_list_append PySem.F.type_list_append mt_append (pv 1) (pa_cons (pe_op op_catS pe_str (pe_callTy cr_strI (by rfl) m_str (by decide +kernel) (pa_cons (pe_ix ix_list (pv 0) pe_int (fun _ _ => rfl)) pa_nil))) pa_nil))))
        pss_nil)
      (Evl.pss_cut (ps_if (pt_cmpR op_gt (pe_ix ix_list (pv 0) pe_int (fun _ _ => rfl)) pe_int (nomark _))
        (pss_one (ps_expr (pe_bm PySem.F.plainAttrs_list PySem.F.slot_list_append PySem.F.type_list_append mt_append (pv 1) (pa_cons (pe_op op_catS pe_str (pe_callTy cr_strI (by rfl) m_str (by decide +kernel) (pa_cons (pe_ix ix_list (pv 0) pe_int (fun _ _ => rfl)) pa_nil))) pa_nil))))
        pss_nil)
      (pss_cons (ps_if (pt_cmpR op_eq (pe_callB cr_lenL (by rfl) m_len PySem.boot_len (pa_cons (pv 1) pa_nil)) pe_int (nomark _))
        (pss_one (ps_ret pe_str))
        pss_nil)
      (pss_one (ps_ret (pe_op op_catS (pe_op op_catS pe_str (pe_joinN pe_str (pv 1))) pe_str))))))), ?_⟩
    obtain ⟨F, v, R, rfl, ok, hv, hR, k⟩ := h
    obtain ⟨ar, xr, rfl, har, hrr, X⟩ := rul_inv hv
    have q1 := num_len hR.lw
    have q2 := num_len hR.ld
    obtain ⟨pl1, pl2⟩ := parts_len hR
    unfold linesS at k
    walk_at "go"
    refine k_mu ok fun p F1 H1 g1 hp1 np1 => ?_
    walk_at "go"
    walk_at "ss"
    refine r_cut (M := fun σ2 H2 => ∃ F2, Grow [] F H F2 H2 ∧ Mu F2 H2 p (.lst ((if 0 < R.lineWords then ["least " ++ numS R.lineWords] else []).map V.str)) ∧ σ2 = [some (.ref ar), some (.ref p)]) ?_ ?_
    · have ok1 := g1.fh
      walk_at "go"
      refine r_ixL (n := 3) (sql_fz ok1 (g1.at har)) rfl X.lineWords ?_
      walk_at "go"
      refine r_ite (fun c => ?_) (fun c => ?_)
      · have c := of_decide_eq_true c
        rw [if_pos (by omega)]
        walk_at "go"
        refine r_ixL (n := 3) (sql_fz ok1 (g1.at har)) rfl X.lineWords ?_
        walk_at "go"
        refine r_strI hR.lw ?_
        walk_at "cg"
        refine r_append hp1.1 (by decide) (k_wr g1.fh hp1 fun F2 H2 g2 m2 => ?_)
        exact ⟨F2, g1.comp g2 (side_one (.inr np1)), m2, rfl⟩
      · have c := of_decide_eq_false c
        rw [if_neg (by omega)]
        walk_at "go"
        exact ⟨F1, g1, hp1, rfl⟩
    · rintro σ2 H2 ⟨F2, G2, m2, rfl⟩
      refine r_cut (M := fun σ2 H2 => ∃ F2, Grow [] F H F2 H2 ∧ Mu F2 H2 p (.lst ((partsS R).map V.str)) ∧ σ2 = [some (.ref ar), some (.ref p)]) ?_ ?_
      · have ok2 := G2.fh
        unfold partsS
        walk_at "go"
        refine r_ixL (n := 4) (sql_fz ok2 (G2.at har)) rfl X.lineDocs ?_
        walk_at "go"
        refine r_ite (fun c => ?_) (fun c => ?_)
        · have c := of_decide_eq_true c
          rw [if_pos (show 0 < R.lineDocs by omega)]
          walk_at "go"
          refine r_ixL (n := 4) (sql_fz ok2 (G2.at har)) rfl X.lineDocs ?_
          walk_at "go"
          refine r_strI hR.ld ?_
          walk_at "cg"
          refine r_append m2.1 (by rw [List.length_map]; split <;> simp) (k_wr G2.fh m2 fun F3 H3 g3 m3 => ?_)
          refine ⟨F3, G2.comp g3 (side_one (.inr np1)), ?_, rfl⟩
          rw [List.map_append]
          exact m3
        · have c := of_decide_eq_false c
          rw [if_neg (show ¬ 0 < R.lineDocs by omega), List.append_nil]
          walk_at "go"
          exact ⟨F2, G2, m2, rfl⟩
      · rintro σ2 H3 ⟨F3, G3, m3, rfl⟩
        walk_at "go"
        refine k_fz G3.fh m3 fun F4 g4 hp4 => ?_
        have G4 := G3.comp g4 (side_one (.inr np1))
        have ok4 := G4.fh
        walk_at "go"
        rw [List.length_map]
        refine r_ite (fun c => ?_) (fun c => ?_)
        · have c := V.int.inj (of_decide_eq_true c)
          rw [if_pos (List.length_eq_zero_iff.mp (by omega))] at k
          walk_at "go"
          exact k F4 H3 G4
        · have c := of_decide_eq_false c
          rw [if_neg fun z => c (by rw [z]; rfl)] at k
          walk_at "go"
          have qs := sum_le (f := fun z : Str => z.length) pl2
          have qj := join_len (s := ", ") pl2
          rw [ll3] at qj
          refine r_join (K := K) (sql_fz ok4 hp4) (by rw [ll3]; omega) ?_
          walk_at "cg"
          exact k F4 H3 G4

end
section
variable {P : Program} {w : World} {K : PySem.W.Frag} {mg : Str → Option Value} {base : Heap}

theorem foldl_take_len {α : Type} {f : Str → α → Str} {b : Nat} {l : List α} {a : Str} (i : Nat) (h : ∀ x ∈ l, ∀ a, (f a x).length ≤ a.length + b) : ((l.take i).foldl f a).length ≤ a.length + b * l.length := by
  have q := fold_len (l := l.take i) (a := a) (f := f) (b := b) fun x hx => h x (List.mem_of_mem_take hx)
  have e : (l.take i).length ≤ l.length := by rw [List.length_take]; omega
  have := Nat.mul_le_mul_left b e
  omega
def sp_law_normal : Sp := fun vs H Q _ => ∃ (F : Hp) (v : V) (R : Ru), vs = [v] ∧ Same F H ∧ Rp F v (encRul R) ∧ RV R ∧ ∀ F' H', Grow [] F H F' H' → Q (.str (normS R)) H'
abbrev N_law_normal : List Str := ["_law_rules", "_law_text_here", "_law_char", "_law_other", "_law_shape_here", "_law_over", "_law_under", "_law_source", "_law_word_here"]
theorem sc_law_normal : FnScope N_law_normal ["_law_rules"] (defScope s_law_normal) := ⟨rfl, rfl, rfl, by decide +kernel, rfl, by decide +kernel, by decide +kernel⟩
theorem ok_law_normal (T : Txt K mg) : OkG P w K mg base 4 "_law_normal" ["_law_rules"] sp_law_normal := by
  have m_len : mg "len" = none := T.free 68 rfl
  have m_str : mg "str" = none := T.free 76 rfl
  obtain ⟨f_law_quoted, fd_law_quoted, G_law_quoted, mg_law_quoted, kp_law_quoted, b_law_quoted⟩ := ok_law_quoted (P := P) (w := w) (base := base) T
  obtain ⟨f_law_lines_text, fd_law_lines_text, G_law_lines_text, mg_law_lines_text, kp_law_lines_text, b_law_lines_text⟩ := ok_law_lines_text (P := P) (w := w) (base := base) T
  obtain ⟨f_law_shape_text, fd_law_shape_text, G_law_shape_text, mg_law_shape_text, kp_law_shape_text, b_law_shape_text⟩ := ok_law_shape_text (P := P) (w := w) (base := base) T
  refine T.okG 66 55 rfl rfl (d := d_law_normal) sc_law_normal (fun _ _ _ _ _ _ us hl => match us, hl with | [_], _ => rfl) (fun vs H Q E h => ?_) (fun cdv A outer s H vs Q E hr h => ?_)
  · obtain ⟨_, _, _, rfl, _⟩ := h
    rfl
  · refine ⟨_, PSs.nox (pss_cons (ps_set (i := 1) sc_law_normal.nd rfl (Or.inl rfl) (pe_op op_catS (pe_op op_catS pe_str (pe_joinN pe_str (pe_lc (own := [("_law_source", 7)]) (g := gName 7) (tt := tYes) rfl sc_law_normal.nd (pi_list (pe_ix ix_list (pv 0) pe_int (fun _ _ => rfl))) (blkOk_by (own := [("_law_source", 7)]) (N := N_law_normal) (sc := defScope s_law_normal) (by decide +kernel)) (fun _ _ _ _ _ => (pg_name (i := 7) sc_law_normal.nd rfl (Or.inl rfl))) (fun _ _ _ _ _ => pts_nil) (fun _ _ _ _ _ => (pe_op op_catS (pe_op op_catS (pe_ix (ixK_tup (K := K)) (pv 7) pe_int (fun _ _ => rfl)) pe_str) (pe_callTy cr_strI (by rfl) m_str (by decide +kernel) (pa_cons (pe_ix (ixK_tup (K := K)) (pv 7) pe_int (fun _ _ => rfl)) pa_nil))))))) pe_str))
      (pss_cons (ps_for PassesOwn.never rfl (pi_list (pe_ix ix_list (pv 0) pe_int (fun _ _ => rfl))) (pg_tup (by rfl) (pgs_cons (pg_name (i := 2) sc_law_normal.nd rfl (Or.inl rfl)) (pgs_cons (pg_name (i := 3) sc_law_normal.nd rfl (Or.inl rfl)) pgs_nil)))
        (pss_one (ps_set (i := 1) sc_law_normal.nd rfl (Or.inl rfl) (pe_op op_catS (pe_op op_catS (pe_op op_catS (pe_op op_catS (pe_op op_catS (pv 1) pe_str) (pe_call G_law_quoted (hr.mono (by decide)) rfl mg_law_quoted kp_law_quoted b_law_quoted .nil pass0 (pa_cons (pv 2) pa_nil))) pe_str) (pe_call G_law_quoted (hr.mono (by decide)) rfl mg_law_quoted kp_law_quoted b_law_quoted .nil pass0 (pa_cons (pv 3) pa_nil))) pe_str))))
      (Evl.pss_cut (ps_if (pt_cmpR op_gt (pe_callB cr_lenL (by rfl) m_len PySem.boot_len (pa_cons (pe_ix ix_list (pv 0) pe_int (fun _ _ => rfl)) pa_nil)) pe_int (nomark _))
        (pss_one (ps_set (i := 1) sc_law_normal.nd rfl (Or.inl rfl) (pe_op op_catS (pe_op op_catS (pe_op op_catS (pv 1) pe_str) (pe_joinN pe_str (pe_lc (own := [("_law_word_here", 8)]) (g := gName 8) (tt := tYes) rfl sc_law_normal.nd (pi_list (pe_ix ix_list (pv 0) pe_int (fun _ _ => rfl))) (blkOk_by (own := [("_law_word_here", 8)]) (N := N_law_normal) (sc := defScope s_law_normal) (by decide +kernel)) (fun _ _ _ _ _ => (pg_name (i := 8) sc_law_normal.nd rfl (Or.inl rfl))) (fun _ _ _ _ _ => pts_nil) (fun _ _ _ _ _ => (pe_call G_law_quoted (hr.mono (by decide)) rfl mg_law_quoted kp_law_quoted b_law_quoted .nil pass0 (pa_cons (pv 8) pa_nil)))))) pe_str)))
        pss_nil)
      (pss_cons (ps_set (i := 1) sc_law_normal.nd rfl (Or.inl rfl) (pe_op op_catS (pv 1) (pe_call G_law_lines_text (hr.mono (by decide)) rfl mg_law_lines_text kp_law_lines_text b_law_lines_text .nil pass0 (pa_cons (pv 0) pa_nil))))
      (pss_cons (ps_for PassesOwn.never rfl (pi_list (pe_ix ix_list (pv 0) pe_int (fun _ _ => rfl))) (pg_name (i := 4) sc_law_normal.nd rfl (Or.inl rfl))
        (pss_one (ps_set (i := 1) sc_law_normal.nd rfl (Or.inl rfl) (pe_op op_catS (pe_op op_catS (pe_op op_catS (pv 1) pe_str) (pe_call G_law_shape_text (hr.mono (by decide)) rfl mg_law_shape_text kp_law_shape_text b_law_shape_text .nil pass0 (pa_cons (pv 4) pa_nil))) pe_str))))
      (pss_cons (ps_set (i := 1) sc_law_normal.nd rfl (Or.inl rfl) (pe_op op_catS (pe_op op_catS (pe_op op_catS (pe_op op_catS (pe_op op_catS (pv 1) pe_str) (pe_call G_law_quoted (hr.mono (by decide)) rfl mg_law_quoted kp_law_quoted b_law_quoted .nil pass0 (pa_cons (pe_ix ix_list (pv 0) pe_int (fun _ _ => rfl)) pa_nil))) pe_str) (pe_callTy cr_strI (by rfl) m_str (by decide +kernel) (pa_cons (pe_ix ix_list (pv 0) pe_int (fun _ _ => rfl)) pa_nil))) pe_str))
      (pss_cons (ps_for PassesOwn.never rfl (pi_list (pe_ix ix_list (pv 0) pe_int (fun _ _ => rfl))) (pg_tup (by rfl) (pgs_cons (pg_name (i := 4) sc_law_normal.nd rfl (Or.inl rfl)) (pgs_cons (pg_name (i := 5) sc_law_normal.nd rfl (Or.inl rfl)) (pgs_cons (pg_name (i := 6) sc_law_normal.nd rfl (Or.inl rfl)) pgs_nil))))
        (pss_one (ps_set (i := 1) sc_law_normal.nd rfl (Or.inl rfl) (pe_op op_catS (pe_op op_catS (pe_op op_catS (pe_op op_catS (pe_op op_catS (pe_op op_catS (pe_op op_catS (pv 1) pe_str) (pe_call G_law_shape_text (hr.mono (by decide)) rfl mg_law_shape_text kp_law_shape_text b_law_shape_text .nil pass0 (pa_cons (pv 4) pa_nil))) pe_str) (pe_callTy cr_strI (by rfl) m_str (by decide +kernel) (pa_cons (pv 5) pa_nil))) pe_str) (pe_callTy cr_strI (by rfl) m_str (by decide +kernel) (pa_cons (pv 6) pa_nil))) pe_str))))
      (pss_cons (ps_set (i := 1) sc_law_normal.nd rfl (Or.inl rfl) (pe_op op_catS (pe_op op_catS (pe_op op_catS (pe_op op_catS (pe_op op_catS (pe_op op_catS (pe_op op_catS (pv 1) pe_str) (pe_callTy cr_strI (by rfl) m_str (by decide +kernel) (pa_cons (pe_ix ix_list (pv 0) pe_int (fun _ _ => rfl)) pa_nil))) pe_str) (pe_callTy cr_strI (by rfl) m_str (by decide +kernel) (pa_cons (pe_ix ix_list (pv 0) pe_int (fun _ _ => rfl)) pa_nil))) pe_str) (pe_callTy cr_strI (by rfl) m_str (by decide +kernel) (pa_cons (pe_ix ix_list (pv 0) pe_int (fun _ _ => rfl)) pa_nil))) pe_str))
      (pss_cons (ps_set (i := 1) sc_law_normal.nd rfl (Or.inl rfl) (pe_op op_catS (pe_op op_catS (pe_op op_catS (pe_op op_catS (pe_op op_catS (pe_op op_catS (pv 1) pe_str) (pe_callTy cr_strI (by rfl) m_str (by decide +kernel) (pa_cons (pe_ix ix_list (pv 0) pe_int (fun _ _ => rfl)) pa_nil))) pe_str) (pe_callTy cr_strI (by rfl) m_str (by decide +kernel) (pa_cons (pe_ix ix_list (pv 0) pe_int (fun _ _ => rfl)) pa_nil))) pe_str) (pe_callTy cr_strI (by rfl) m_str (by decide +kernel) (pa_cons (pe_ix ix_list (pv 0) pe_int (fun _ _ => rfl)) pa_nil))))
      (pss_one (ps_ret (pe_op op_catS (pe_op op_catS (pe_op op_catS (pe_op op_catS (pe_op op_catS (pv 1) pe_str) (pe_callTy cr_strI (by rfl) m_str (by decide +kernel) (pa_cons (pe_ix ix_list (pv 0) pe_int (fun _ _ => rfl)) pa_nil))) pe_str) (pe_callTy cr_strI (by rfl) m_str (by decide +kernel) (pa_cons (pe_ix ix_list (pv 0) pe_int (fun _ _ => rfl)) pa_nil))) pe_str)))))))))))), ?_⟩
    obtain ⟨F, v, R, rfl, ok, hv, hR, k⟩ := h
    obtain ⟨ar, xr, rfl, har, hrr, X⟩ := rul_inv hv
    have gi : ∀ (i : Nat) (z : Int), (encRulL R)[i]? = some (.int z) → xr[i]? = some (.int z) := fun i z e => by
      obtain ⟨x, hx, rx⟩ := hrr.at e
      rw [hx, rx.int_inv]
    obtain ⟨x0, e0, r0⟩ := hrr.at (i := 0) (d := encSources) rfl
    obtain ⟨a0, xs0, rfl, ha0, hr0⟩ := r0.lst_inv
    obtain ⟨x1, e1, r1⟩ := X.changes
    obtain ⟨a1, xs1, rfl, ha1, hr1⟩ := r1.lst_inv
    obtain ⟨x2, e2, r2⟩ := X.banned
    obtain ⟨a2, xs2, rfl, ha2, hr2⟩ := r2.lst_inv
    obtain ⟨x5, e5, r5⟩ := X.hidden
    obtain ⟨a5, xs5, rfl, ha5, hr5⟩ := r5.lst_inv
    obtain ⟨x8, e8, r8⟩ := X.shares
    obtain ⟨a8, xs8, rfl, ha8, hr8⟩ := r8.lst_inv
    have n1 := num_len (n := 1) (by decide)
    have n2 := num_len (n := 2) (by decide)
    have n3 := num_len (n := 3) (by decide)
    have n4 := num_len (n := 4) (by decide)
    have n5 := num_len (n := 5) (by decide)
    have n8 := num_len (n := 8) (by decide)
    have hd := num_len hR.dw.1
    have qm := quo_len R.mark
    have qm2 := hR.mrk.1
    have qs := src_len
    have qj : (Txt.join ", " ["s" ++ " " ++ numS 1]).length = 3 := by decide +kernel
    have ll := lines_len hR
    have lc := hR.ch.1
    have lb := hR.ban.1
    have lh := hR.hid.1
    have lsh := hR.shr.1
    have hchg : ∀ x ∈ R.changes, ∀ a, (chgS a x).length ≤ a.length + 40 := fun x hx a => chg1_len (hR.ch.2.1 x hx).1
    have hhid : ∀ x ∈ R.hidden, ∀ a, (hidS a x).length ≤ a.length + 260 := fun x hx a => hid1_len (hR.hid.2 x hx)
    have hshr : ∀ x ∈ R.shares, ∀ a, (shrS a x).length ≤ a.length + 300 := fun x hx a => shr1_len (hR.shr.2 x hx).1 (hR.shr.2 x hx).2.1 (hR.shr.2 x hx).2.2.1
    unfold normS at k
    walk_at "go"
    refine r_ixL (n := 0) (sql_fz ok har) rfl e0 ?_
    refine r_itL (sql_fz ok ha0) fun Dl hD => ?_
    refine lcL_map (ds := [.tuple [.str "s", .int 1]]) (es := (["s" ++ " " ++ numS 1] : List Str).map PyData.str) ok hD ha0 hr0 rfl (by decide) ?_ ?_
    · intro j x d e F3 H3 Kc hd he rx g3 kc
      have hj : j = 0 := by
        have := (List.getElem?_eq_some_iff.mp hd).1
        simp only [List.length_singleton] at this
        omega
      subst hj
      have hd := Option.some.inj (show some (PyData.tuple [.str "s", .int 1]) = some d from hd)
      have he := Option.some.inj (show some (PyData.str ("s" ++ " " ++ numS 1)) = some e from he)
      subst hd he
      obtain ⟨ax, vx, rfl, hax, rvx⟩ := rx.tup_inv
      obtain ⟨_, _, rfl, q1, rvx⟩ := rvx.cons_inv
      obtain ⟨_, _, rfl, q2, rvx⟩ := rvx.cons_inv
      cases rvx.nil_inv
      cases q1.str_inv
      cases q2.int_inv
      have ok3 := g3.fh
      walk_at "go"
      refine ⟨rfl, ?_⟩
      walk_at "cg"
      refine r_strI (n := 1) (by decide) ?_
      walk_at "cg"
      exact kc _ F3 H3 (Grow.refl g3.fh) (.str _)
    intro F1 H1 g1 r1s
    have ok1 := g1.fh
    walk_at "go"
    refine r_join (K := K) (sql_fz ok1 (strs_at r1s)) (by decide +kernel) ?_
    walk_at "cg"
    walk_at "ss"
    have es : "sources " ++ Txt.join ", " ["s" ++ " " ++ numS 1] ++ ";\n" = srcS := rfl
    rw [es]
    refine r_ixL (n := 1) (sql_fz ok1 (g1.at har)) rfl e1 ?_
    refine r_itL (sql_fz ok1 (g1.at ha1)) ?_
    refine loopL (xs := xs1) (fun i σ' H' => ∃ (y2 y3 y4 y5 y6 : Option V), H' = H1 ∧ σ' = [some (.ref ar), some (.str ((R.changes.take i).foldl chgS srcS)), y2, y3, y4, y5, y6, none, none])
      ⟨none, none, none, none, none, rfl, rfl⟩ (fun i σ' H' _ ⟨_, _, _, _, _, e, _⟩ => by rw [e]; exact sql_fz ok1 (g1.at ha1)) ?_ ?_
    · rintro i x σ' H2 hx ⟨y2, y3, y4, y5, y6, rfl, rfl⟩
      obtain ⟨c, hc, rx⟩ := (g1.rps hr1).get_map hx
      obtain ⟨ac, rfl, hac⟩ := encC_inv rx
      have l1 := foldl_take_len (a := srcS) i hchg
      have l2 := quo_len [c.1]
      have l3 := quo_len c.2
      have l4 := hR.ch.2.1 c (List.mem_of_getElem? hc)
      simp only [List.length_singleton] at l2
      walk_at "go"
      walk_at "ss"
      walk_at "cg"
      refine ⟨_, rfl, by rw [S_len]; show 1 ≤ 1000000; decide, ?_⟩
      walk_at "cg"
      refine ⟨_, rfl, by rw [S_len]; omega, ?_⟩
      walk_at "cg"
      exact ⟨_, _, _, _, _, rfl, by rw [foldl_more _ _ hc]; rfl⟩
    rintro σ' H2 ⟨y2, y3, y4, y5, y6, rfl, rfl⟩
    rw [hr1.len_map, List.take_length]
    have l1 := fold_len (a := srcS) hchg
    generalize R.changes.foldl chgS srcS = t1 at l1 k ⊢
    have hban := ban_len (a := t1) hR.ban.1 fun w hw => (hR.ban.2 w hw).1
    walk_at "go"
    refine r_cut (M := fun σ2 H3 => ∃ F3, Grow [] F H F3 H3 ∧ σ2 = [some (.ref ar), some (.str (banS t1 R.banned)), y2, y3, y4, y5, y6, none, none]) ?_ ?_
    · walk_at "go"
      refine r_ixL (n := 2) (sql_fz ok1 (g1.at har)) rfl e2 ?_
      walk_at "go"
      have lx2 : xs2.length = R.banned.length := hr2.len_map
      rw [lx2]
      refine r_ite (fun c => ?_) (fun c => ?_)
      · have c := of_decide_eq_true c
        have hne : ¬ R.banned = [] := fun z => by rw [z] at c; simp at c
        unfold banS
        rw [if_neg hne]
        walk_at "cg"
        refine r_ixL (n := 2) (sql_fz ok1 (g1.at har)) rfl e2 ?_
        refine r_itL (sql_fz ok1 (g1.at ha2)) fun D2 hD2 => ?_
        refine lcL_map (ds := R.banned.map fun x => .str (S x)) (es := (R.banned.map fun w => quoS (S w)).map PyData.str) ok1 hD2 (g1.at ha2) (g1.rps hr2) (by simp) (by rw [List.length_map]; omega) ?_ ?_
        · intro j x d e F3 H3 Kc hd he rx g3 kc
          obtain ⟨w, hw, rfl⟩ := map_at hd
          obtain ⟨z, hz, rfl⟩ := map_at he
          obtain ⟨w2, hw2, rfl⟩ := map_at hz
          rw [hw] at hw2
          cases hw2
          cases rx.str_inv
          walk_at "go"
          refine ⟨rfl, ?_⟩
          walk_at "go"
          refine ⟨_, rfl, by rw [S_len]; have := (hR.ban.2 w (List.mem_of_getElem? hw)).1; omega, ?_⟩
          exact kc _ F3 H3 (Grow.refl g3.fh) (.str _)
        · intro F3 H3 g3 r3
          walk_at "go"
          refine r_join (K := K) (sql_fz g3.fh (strs_at r3)) ?_ ?_
          · have q := sum_le (f := fun z : Str => z.length) (b := 18) (l := R.banned.map fun w => quoS (S w)) fun x hx => by
              obtain ⟨y, hy, rfl⟩ := List.mem_map.mp hx
              have := quo_len y
              have := (hR.ban.2 y hy).1
              show (quoS (S y)).length ≤ 18
              omega
            rw [ll3, List.length_map]
            rw [List.length_map] at q
            omega
          · have hb1 := hban.1
            walk_at "cg"
            exact ⟨F3, g1.comp g3 side_nil, rfl⟩
      · have c := of_decide_eq_false c
        have hne : R.banned = [] := List.length_eq_zero_iff.mp (by omega)
        unfold banS
        rw [if_pos hne]
        walk_at "go"
        exact ⟨F1, g1, rfl⟩
    rintro σ2 H3 ⟨F3, G3, rfl⟩
    have ok3 := G3.fh
    have hb2 := hban.2
    generalize banS t1 R.banned = t2 at hb2 k ⊢
    walk_at "go"
    refine ⟨F3, .ref ar, R, rfl, ok3, G3.rp hv, hR, fun F4 H4 g4 => ?_⟩
    have G4 := G3.comp g4 side_nil
    have ok4 := G4.fh
    walk_at "cg"
    walk_at "ss"
    have lt3 : (t2 ++ linesS R).length ≤ 700 := by rw [len_app]; omega
    generalize t2 ++ linesS R = t3 at lt3 k ⊢
    refine r_ixL (n := 5) (sql_fz ok4 (G4.at har)) rfl e5 ?_
    refine r_itL (sql_fz ok4 (G4.at ha5)) ?_
    refine loopL (xs := xs5) (fun i σ' H' => ∃ (F' : Hp) (z4 : Option V), Grow [] F H F' H' ∧ σ' = [some (.ref ar), some (.str ((R.hidden.take i).foldl hidS t3)), y2, y3, z4, y5, y6, none, none])
      ⟨F4, y4, G4, rfl⟩ (fun i σ' H' _ ⟨F', _, G, _⟩ => sql_fz G.fh (G.at ha5)) ?_ ?_
    · rintro i x σ' H5 hx ⟨F5, z4, G5, rfl⟩
      obtain ⟨c, hc, rx⟩ := (G5.rps hr5).get_map hx
      have l1 := foldl_take_len (a := t3) i hhid
      have hsp := hR.hid.2 c (List.mem_of_getElem? hc)
      have l2 := shape_len hsp
      walk_at "go"
      walk_at "ss"
      walk_at "cg"
      refine ⟨F5, x, c, rfl, G5.fh, rx, hsp, fun F6 H6 g6 => ?_⟩
      walk_at "cg"
      exact ⟨F6, _, G5.comp g6 side_nil, by rw [foldl_more _ _ hc]; rfl⟩
    rintro σ' H5 ⟨F5, z4, G5, rfl⟩
    rw [hr5.len_map, List.take_length]
    have l5 := fold_len (a := t3) hhid
    generalize R.hidden.foldl hidS t3 = t4 at l5 k ⊢
    have ok5 := G5.fh
    walk_at "cg"
    refine r_ixL (n := 6) (sql_fz ok5 (G5.at har)) rfl X.mark ?_
    walk_at "go"
    refine ⟨_, rfl, by rw [S_len]; omega, ?_⟩
    walk_at "cg"
    refine r_ixL (n := 7) (sql_fz ok5 (G5.at har)) rfl X.docWords ?_
    walk_at "go"
    refine r_strI hR.dw.1 ?_
    walk_at "cg"
    walk_at "ss"
    have l6 : (mrkS t4 R).length ≤ 4000 := by
      unfold mrkS
      simp only [len_app, ll13, ll14, ll7]
      omega
    have em : t4 ++ "mark " ++ quoS (S R.mark) ++ ";\ndocuments least " ++ numS R.docWords ++ ";\n" = mrkS t4 R := rfl
    rw [em]
    generalize mrkS t4 R = t5 at l6 k ⊢
    refine r_ixL (n := 8) (sql_fz ok5 (G5.at har)) rfl e8 ?_
    refine r_itL (sql_fz ok5 (G5.at ha8)) ?_
    refine loopL (xs := xs8) (fun i σ' H' => ∃ (F' : Hp) (u4 u5 u6 : Option V), Grow [] F H F' H' ∧ σ' = [some (.ref ar), some (.str ((R.shares.take i).foldl shrS t5)), y2, y3, u4, u5, u6, none, none])
      ⟨F5, z4, y5, y6, G5, rfl⟩ (fun i σ' H' _ ⟨F', _, _, _, G, _⟩ => sql_fz G.fh (G.at ha8)) ?_ ?_
    · rintro i x σ' H6 hx ⟨F6, u4, u5, u6, G6, rfl⟩
      obtain ⟨c, hc, rx⟩ := (G6.rps hr8).get_map hx
      obtain ⟨ax, vx, rfl, hax, rvx⟩ := rx.tup_inv
      obtain ⟨w1, _, rfl, q1, rvx⟩ := rvx.cons_inv
      obtain ⟨_, _, rfl, q2, rvx⟩ := rvx.cons_inv
      obtain ⟨_, _, rfl, q3, rvx⟩ := rvx.cons_inv
      cases rvx.nil_inv
      cases q2.int_inv
      cases q3.int_inv
      have l1 := foldl_take_len (a := t5) i hshr
      obtain ⟨hsp, p1, p2, p3⟩ := hR.shr.2 c (List.mem_of_getElem? hc)
      have l2 := shape_len hsp
      have m1 := num_len p1
      have m2 := num_len p2
      have ok6 := G6.fh
      walk_at "go"
      walk_at "ss"
      walk_at "cg"
      refine ⟨F6, w1, c.1, rfl, G6.fh, q1, hsp, fun F7 H7 g7 => ?_⟩
      walk_at "cg"
      refine r_strI p1 ?_
      walk_at "cg"
      refine r_strI p2 ?_
      walk_at "cg"
      exact ⟨F7, _, _, _, G6.comp g7 side_nil, by rw [foldl_more _ _ hc]; rfl⟩
    rintro σ' H6 ⟨F6, u4, u5, u6, G6, rfl⟩
    rw [hr8.len_map, List.take_length]
    have l7 := fold_len (a := t5) hshr
    generalize R.shares.foldl shrS t5 = t6 at l7 k ⊢
    have ok6 := G6.fh
    walk_at "cg"
    refine r_ixL (n := 9) (sql_fz ok6 (G6.at har)) rfl (gi 9 1 rfl) ?_
    walk_at "go"
    refine r_strI (n := 1) (by decide) ?_
    walk_at "cg"
    refine r_ixL (n := 10) (sql_fz ok6 (G6.at har)) rfl (gi 10 2 rfl) ?_
    walk_at "go"
    refine r_strI (n := 2) (by decide) ?_
    walk_at "cg"
    refine r_ixL (n := 11) (sql_fz ok6 (G6.at har)) rfl (gi 11 3 rfl) ?_
    walk_at "go"
    refine r_strI (n := 3) (by decide) ?_
    walk_at "cg"
    walk_at "ss"
    walk_at "cg"
    refine r_ixL (n := 12) (sql_fz ok6 (G6.at har)) rfl (gi 12 4 rfl) ?_
    walk_at "go"
    refine r_strI (n := 4) (by decide) ?_
    walk_at "cg"
    refine r_ixL (n := 13) (sql_fz ok6 (G6.at har)) rfl (gi 13 2 rfl) ?_
    walk_at "go"
    refine r_strI (n := 2) (by decide) ?_
    walk_at "cg"
    refine r_ixL (n := 14) (sql_fz ok6 (G6.at har)) rfl (gi 14 5 rfl) ?_
    walk_at "go"
    refine r_strI (n := 5) (by decide) ?_
    walk_at "cg"
    walk_at "ss"
    walk_at "cg"
    refine r_ixL (n := 15) (sql_fz ok6 (G6.at har)) rfl (gi 15 8 rfl) ?_
    walk_at "go"
    refine r_strI (n := 8) (by decide) ?_
    walk_at "cg"
    refine r_ixL (n := 16) (sql_fz ok6 (G6.at har)) rfl (gi 16 2 rfl) ?_
    walk_at "go"
    refine r_strI (n := 2) (by decide) ?_
    walk_at "cg"
    exact k F6 H6 G6

end
/-! ### signs -/
inductive Tok where
  | nm (l : List Nat) | num (n : Nat) | quo (l : List Nat) | sym (c : Nat) | fin
def Tok.kind : Tok → Str
  | .nm _ => "name"
  | .num _ => "number"
  | .quo _ => "quoted"
  | .sym _ => "symbol"
  | .fin => "end"
def Tok.val : Tok → V
  | .nm l => .str (S l)
  | .num n => .int (n : Int)
  | .quo l => .str (S l)
  | .sym c => .str ⟨#[c]⟩
  | .fin => .str ""
def isNameC (c : Nat) : Bool := isLetter c || isDigit c || decide (c = 95)
inductive Lex1 : List Nat → List Nat → Tok → Prop
  | nm {c : Nat} {w r : List Nat} : isLetter c = true → (∀ x ∈ w, isNameC x = true) → w.length < 20 → (∀ x r', r = x :: r' → isNameC x = false) → Lex1 (c :: w) r (.nm (c :: w))
  | num {n : Nat} {r : List Nat} : n < 10 → (∀ x r', r = x :: r' → isDigit x = false) → Lex1 [48 + n] r (.num n)
  | quo {l r : List Nat} : (∀ r', r ≠ 34 :: r') → Lex1 (34 :: (dbl l ++ [34])) r (.quo l)
  | sym {c : Nat} {r : List Nat} : (c = 44 ∨ c = 58 ∨ c = 59) → Lex1 [c] r (.sym c)
inductive Lex : List Nat → List Tok → Prop
  | nil : Lex [] []
  | blank {c : Nat} {r : List Nat} {ts : List Tok} : isBlank c = true → Lex r ts → Lex (c :: r) ts
  | tok {pre r : List Nat} {tk : Tok} {ts : List Tok} : Lex1 pre r tk → Lex r ts → Lex (pre ++ r) (tk :: ts)
theorem eq_one {c k : Nat} {z : Str} (e : z = S [k]) : decide (V.str ⟨#[c]⟩ = V.str z) = decide (c = k) := by
  subst e
  exact decide_eq_decide.mpr one_iff
theorem quot_str : ("\"" : Str) = S [34] := by decide +kernel
theorem under_str : ("_" : Str) = S [95] := by decide +kernel
theorem cutS_nat {t : List Nat} {i j : Nat} {x y : Int} (ex : x = (i : Int)) (ey : y = (j : Int)) (h : i ≤ t.length) : cutS (S t) (some x) (some y) = S ((t.drop i).take (j - i)) := by
  subst ex ey
  unfold cutS
  rw [HT.sIx_nat, HT.sIx_nat, S_len, Nat.min_eq_left h]
  show S ((t.drop i).take (min j t.length - i)) = _
  by_cases q : j ≤ t.length
  · rw [Nat.min_eq_left q]
  · rw [Nat.min_eq_right (by omega)]
    have e1 : (t.drop i).take (t.length - i) = t.drop i := List.take_of_length_le (by rw [List.length_drop]; omega)
    have e2 : (t.drop i).take (j - i) = t.drop i := List.take_of_length_le (by rw [List.length_drop]; omega)
    rw [e1, e2]
theorem digit_of : ∀ n : Nat, n < 10 → isDigit (48 + n) = true ∧ isLetter (48 + n) = false := by decide +kernel
theorem intText_small {n : Nat} (h : n < 10) : PySem.intText? (S [48 + n]) = some (n : Int) := by
  have e : S [48 + n] = Str.ofString (toString ((n : Nat) : Int)) := ext_tl (by rw [tl_S, tl_num, numL_small n h])
  rw [e]
  exact int_num (by rw [numL_small n h]; show 1 ≤ 4300; decide)
theorem Lex1.pos {pre r : List Nat} {tk : Tok} (h : Lex1 pre r tk) : ∃ c p, pre = c :: p ∧ isBlank c = false := by
  have lb : ∀ c, isLetter c = true → isBlank c = false := fun c hc => by
    cases q : isBlank c with
    | false => rfl
    | true =>
      rcases blank_iff.mp q with rfl | rfl
      · exact absurd hc (by decide +kernel)
      · exact absurd hc (by decide +kernel)
  cases h with
  | nm h1 _ _ _ => exact ⟨_, _, rfl, lb _ h1⟩
  | num h1 _ => exact ⟨_, _, rfl, by unfold isBlank; simp; omega⟩
  | quo _ => exact ⟨_, _, rfl, rfl⟩
  | sym h1 => exact ⟨_, _, rfl, by unfold isBlank; simp; omega⟩
theorem Lex1.nofault {pre r : List Nat} {tk : Tok} (h : Lex1 pre r tk) : decide (V.str tk.kind = V.str "fault") = false := by
  have h1 : decide (V.str "name" = V.str "fault") = false := by decide +kernel
  have h2 : decide (V.str "number" = V.str "fault") = false := by decide +kernel
  have h3 : decide (V.str "quoted" = V.str "fault") = false := by decide +kernel
  have h4 : decide (V.str "symbol" = V.str "fault") = false := by decide +kernel
  cases h
  · exact h1
  · exact h2
  · exact h3
  · exact h4
theorem drop_at {α : Type} {t a r : List α} {n : Nat} (h : t.drop n = a ++ r) (hn : n ≤ t.length) : t.drop (n + a.length) = r ∧ n + a.length ≤ t.length := by
  constructor
  · rw [← List.drop_drop, h, List.drop_left]
  · have e := congrArg List.length h
    rw [List.length_drop, List.length_append] at e
    omega
theorem drop_get {α : Type} {t r : List α} {c : α} {n : Nat} (h : t.drop n = c :: r) : t[n]? = some c ∧ n < t.length ∧ t.drop (n + 1) = r := by
  have hn : n < t.length := by
    refine Nat.lt_of_not_le fun q => ?_
    rw [List.drop_eq_nil_of_le q] at h
    cases h
  have e := List.drop_eq_getElem_cons hn
  rw [h] at e
  injection e with e1 e2
  exact ⟨by rw [List.getElem?_eq_getElem hn, e1], hn, e2.symm⟩
theorem drop_end {α : Type} {t : List α} {n : Nat} (h : t.drop n = []) (hn : n ≤ t.length) : n = t.length := by
  have e := congrArg List.length h
  rw [List.length_drop, List.length_nil] at e
  omega
theorem Lex.cases {t : List Nat} {ts : List Tok} (h : Lex t ts) : (t = [] ∧ ts = []) ∨ (∃ c r, t = c :: r ∧ isBlank c = true ∧ Lex r ts) ∨ ∃ pre r tk us, t = pre ++ r ∧ ts = tk :: us ∧ Lex1 pre r tk ∧ Lex r us := by
  cases h with
  | nil => exact .inl ⟨rfl, rfl⟩
  | blank a b => exact .inr (.inl ⟨_, _, rfl, a, b⟩)
  | tok a b => exact .inr (.inr ⟨_, _, _, _, rfl, rfl, a, b⟩)
/-- entries of the list of signs -/
def EntAt (F : Hp) (v : V) (t : Tok) : Prop := ∃ a i j, v = .ref a ∧ F a = some (.tup [.str t.kind, t.val, .int i, .int j])
inductive Ents (F : Hp) : List V → List Tok → Prop
  | nil : Ents F [] []
  | cons {v : V} {vs : List V} {t : Tok} {ts : List Tok} : EntAt F v t → Ents F vs ts → Ents F (v :: vs) (t :: ts)
theorem EntAt.up {F F' : Hp} {v : V} {t : Tok} (h : EntAt F v t) (s : Same F F') : EntAt F' v t :=
  let ⟨a, i, j, e, q⟩ := h
  ⟨a, i, j, e, s _ _ q⟩
theorem Ents.up {F F' : Hp} (s : Same F F') : ∀ {vs : List V} {ts : List Tok}, Ents F vs ts → Ents F' vs ts
  | _, _, .nil => .nil
  | _, _, .cons a b => .cons (a.up s) (b.up s)
theorem Ents.snoc {F : Hp} {v : V} {t : Tok} : ∀ {vs : List V} {ts : List Tok}, Ents F vs ts → EntAt F v t → Ents F (vs ++ [v]) (ts ++ [t])
  | _, _, .nil, h => .cons h .nil
  | _, _, .cons a b, h => .cons a (b.snoc h)
theorem Ents.len {F : Hp} : ∀ {vs : List V} {ts : List Tok}, Ents F vs ts → vs.length = ts.length
  | _, _, .nil => rfl
  | _, _, .cons _ b => congrArg Nat.succ b.len
theorem Ents.at {F : Hp} : ∀ {vs : List V} {ts us : List Tok} {n : Nat} {t : Tok}, Ents F vs ts → ts.drop n = t :: us → ∃ v, vs[n]? = some v ∧ EntAt F v t
  | _, _, _, 0, _, .nil, e => by cases e
  | _, _, _, n + 1, _, .nil, e => by cases e
  | _, _, _, 0, _, .cons a _, e => by
    have e : _ :: _ = _ :: _ := e
    injection e with e1 e2
    subst e1
    exact ⟨_, rfl, a⟩
  | _, _, _, n + 1, _, .cons _ b, e => by
    obtain ⟨v, h1, h2⟩ := Ents.at (n := n) b e
    exact ⟨v, h1, h2⟩
section
variable {P : Program} {w : World} {K : PySem.W.Frag} {mg : Str → Option Value} {base : Heap}

theorem loopWG {σ : L2.St} {H : Hp} {c : TT} {tb : TS} {nx bk ct : L2.St → Hp → Prop} {rt : VK} (M : L2.St → Hp → Prop) (W : Nat → L2.St → Hp → Prop) (m : Nat) (h0 : W m σ H)
    (hs : ∀ nx' : L2.St → Hp → Prop, (∀ σ H, M σ H → nx' σ H) → ∀ m σ H, W m σ H → c σ H fun b H1 => if b = true then WhN W m tb nx' rt σ H1 else nx' σ H1) (hM : ∀ σ H, M σ H → nx σ H) : tWhile c tb ⟨nx, rt, bk, ct⟩ σ H :=
  loopW W m h0 (hs nx hM)
theorem cond_f {A B : Prop} {b : Bool} (h : b = false) (q : B) : if b = true then A else B := by
  rw [if_neg (by rw [h]; decide)]
  exact q
def sp_is_word : Sp := fun vs H Q _ => ∃ l : List Nat, vs = [.str (S l)] ∧ l.length ≤ 1000000 ∧ wordC l ∧ Q (.bl true) H
abbrev N_is_word : List Str := ["text"]
theorem sc_is_word : FnScope N_is_word ["text"] (defScope s_is_word) := ⟨rfl, rfl, rfl, by decide +kernel, rfl, by decide +kernel, by decide +kernel⟩
theorem ok_is_word (T : Txt K mg) : OkG P w K mg base 1 "is_word" ["text"] sp_is_word := by
  have m_len : mg "len" = none := T.free 68 rfl
  refine T.okG 3 3 rfl rfl (d := d_is_word) sc_is_word (fun _ _ _ _ _ _ us hl => match us, hl with | [_], _ => rfl) (fun vs H Q E h => ?_) (fun cdv A outer s H vs Q E hr h => ?_)
  · obtain ⟨_, rfl, _⟩ := h
    rfl
  · refine ⟨_, PSs.nox (pss_one (ps_ret (pe_and (pe_cmpR op_gt (pe_callB cr_lenS (by rfl) m_len PySem.boot_len (pa_cons (pv 0) pa_nil)) pe_int (nomark _)) (pe_and (pe_cmpR op_notInS pe_str (pv 0) (by rfl)) (pe_one (pe_cmpR op_notInS pe_str (pv 0) (by rfl))))))), ?_⟩
    obtain ⟨l, rfl, hl, ⟨h1, h2, h3⟩, k⟩ := h
    have h0 : 0 < l.length := List.length_pos_iff.mpr h1
    walk_at "go"
    refine r_iteT (decide_eq_true (by omega)) ?_
    walk_at "go"
    refine ⟨32, S l, by rw [sp_str], rfl, ?_⟩
    have e2 : (!decide (32 ∈ (S l).cps.toList)) = true := by
      have q : ¬ 32 ∈ (S l).cps.toList := h2
      rw [decide_eq_false q]
      rfl
    rw [e2]
    walk_at "go"
    refine ⟨10, S l, by rw [nl_str], rfl, ?_⟩
    have e3 : (!decide (10 ∈ (S l).cps.toList)) = true := by
      have q : ¬ 10 ∈ (S l).cps.toList := h3
      rw [decide_eq_false q]
      rfl
    rw [e3]
    exact k

def sp_place_of : Sp := fun vs H Q _ => ∃ (F : Hp) (t : List Nat) (n : Int), vs = [.str (S t), .int n] ∧ Same F H ∧ t.length ≤ 1000000 ∧
  ∀ (v : V) (F' H' : Hp), Grow [] F H F' H' → (∃ a i j, v = .ref a ∧ F' a = some (.tup [.int i, .int j])) → Q v H'
abbrev N_place_of : List Str := ["text", "index", "before"]
theorem sc_place_of : FnScope N_place_of ["text", "index"] (defScope s_place_of) := ⟨rfl, rfl, rfl, by decide +kernel, rfl, by decide +kernel, by decide +kernel⟩
theorem ok_place_of (T : Txt K mg) : OkG P w K mg base 1 "place_of" ["text", "index"] sp_place_of := by
  refine T.okG 4 4 rfl rfl (d := d_place_of) sc_place_of (fun _ _ _ _ _ _ us hl => match us, hl with | [_, _], _ => rfl) (fun vs H Q E h => ?_) (fun cdv A outer s H vs Q E hr h => ?_)
  · obtain ⟨_, _, _, rfl, _⟩ := h
    rfl
  · refine ⟨_, PSs.nox (pss_cons (ps_set (i := 2) sc_place_of.nd rfl (Or.inl rfl) (pe_slice sl_str (pv 0) po_none (po_some (pv 1))))
      (pss_one (ps_ret (pe_tup (pa_cons (pe_op op_add pe_int (pe_m1 PySem.F.slot_str_count PySem.F.type_str_count mt_count (pv 2) pe_str)) (pa_cons (pe_op op_sub (pv 1) (pe_m1 PySem.F.slot_str_rfind PySem.F.type_str_rfind mt_rfind (pv 2) pe_str)) pa_nil)))))), ?_⟩
    obtain ⟨F, t, n, rfl, ok, ht, k⟩ := h
    walk_at "go"
    refine r_slS (by rw [S_len]; omega) ?_
    walk_at "go"
    walk_at "ss"
    walk_at "go"
    refine ⟨_, _, rfl, rfl, ?_⟩
    walk_at "go"
    refine ⟨_, _, rfl, rfl, ?_⟩
    walk_at "go"
    refine k_new ok fun p F1 H1 g1 hp1 np1 => ?_
    exact k _ F1 H1 g1 ⟨p, _, _, rfl, hp1⟩

/-- the promise of the four readers of one sign -/
def SgnR (P : List Nat → List Nat → Tok → Prop) : Sp := fun vs H Q _ => ∃ (F : Hp) (t : List Nat) (n : Nat) (pre r : List Nat) (tk : Tok), vs = [.str (S t), .int (n : Int)] ∧ Same F H ∧ t.length ≤ 100000 ∧ t.drop n = pre ++ r ∧ n ≤ t.length ∧ P pre r tk ∧
  ∀ (v : V) (F' H' : Hp), Grow [] F H F' H' → (∃ a, v = .ref a ∧ F' a = some (.tup [.str tk.kind, tk.val, .int ((n + pre.length : Nat) : Int)])) → Q v H'
def PNm (pre r : List Nat) (tk : Tok) : Prop := ∃ c w, pre = c :: w ∧ tk = .nm (c :: w) ∧ (∀ x ∈ w, isNameC x = true) ∧ w.length < 20 ∧ ∀ x r', r = x :: r' → isNameC x = false
def sp_name_at : Sp := SgnR PNm
abbrev N_name_at : List Str := ["text", "at", "end"]
theorem sc_name_at : FnScope N_name_at ["text", "at"] (defScope s_name_at) := ⟨rfl, rfl, rfl, by decide +kernel, rfl, by decide +kernel, by decide +kernel⟩
theorem ok_name_at (T : Txt K mg) : OkG P w K mg base 2 "_name_at" ["text", "at"] sp_name_at := by
  have m_len : mg "len" = none := T.free 68 rfl
  obtain ⟨_, m_NAME_MOST⟩ := T.int 81 (x := "NAME_MOST") (i := 20) rfl
  obtain ⟨f_is_digit, fd_is_digit, G_is_digit, mg_is_digit, kp_is_digit, b_is_digit⟩ := ok_is_digit (P := P) (w := w) (base := base) T
  obtain ⟨f_is_letter, fd_is_letter, G_is_letter, mg_is_letter, kp_is_letter, b_is_letter⟩ := ok_is_letter (P := P) (w := w) (base := base) T
  refine T.okG 5 5 rfl rfl (d := d_name_at) sc_name_at (fun _ _ _ _ _ _ us hl => match us, hl with | [_, _], _ => rfl) (fun vs H Q E h => ?_) (fun cdv A outer s H vs Q E hr h => ?_)
  · obtain ⟨_, _, _, _, _, _, rfl, _⟩ := h
    rfl
  · refine ⟨_, PSs.nox (pss_cons (ps_set (i := 2) sc_name_at.nd rfl (Or.inl rfl) (pe_op op_add (pv 1) pe_int))
      (pss_cons (ps_while PassesOwn.never (PW.pt (pw_and (pt_cmpR op_lt (pv 2) (pe_callB cr_lenS (by rfl) m_len PySem.boot_len (pa_cons (pv 0) pa_nil)) (nomark _)) (pw_and1 (PW.pt (pw_or (pt_val (pe_call G_is_letter (hr.mono (by decide)) rfl mg_is_letter kp_is_letter b_is_letter .nil pass0 (pa_cons (pe_ix ix_str (pv 0) (pv 2) (fun _ _ => rfl)) pa_nil))) (pw_or (pt_val (pe_call G_is_digit (hr.mono (by decide)) rfl mg_is_digit kp_is_digit b_is_digit .nil pass0 (pa_cons (pe_ix ix_str (pv 0) (pv 2) (fun _ _ => rfl)) pa_nil))) (pw_or1 (pt_cmpR op_eq (pe_ix ix_str (pv 0) (pv 2) (fun _ _ => rfl)) pe_str (nomark _)))))))))
        (pss_one (ps_aug (i := 2) sc_name_at.nd rfl (Or.inl rfl) pe_int ip_add)))
      (pss_cons (ps_if (pt_cmpR op_gt (pe_op op_sub (pv 2) (pv 1)) (pe_gI (by rfl) m_NAME_MOST) (nomark _))
        (pss_one (ps_ret (pe_tup (pa_cons pe_str (pa_cons pe_str (pa_cons (pe_op op_add (pv 1) (pe_gI (by rfl) m_NAME_MOST)) pa_nil))))))
        pss_nil)
      (pss_one (ps_ret (pe_tup (pa_cons pe_str (pa_cons (pe_slice sl_str (pv 0) (po_some (pv 1)) (po_some (pv 2))) (pa_cons (pv 2) pa_nil))))))))), ?_⟩
    obtain ⟨F, t, n, pre, r, tk, rfl, ok, ht, hd, hn, ⟨c, w, rfl, rfl, hw, hwl, hr2⟩, k⟩ := h
    obtain ⟨d1, d2⟩ := drop_at (a := [c]) (r := w ++ r) hd hn
    have dall := drop_at hd hn
    have lw : (c :: w).length = w.length + 1 := rfl
    rw [lw] at dall k
    simp only [List.length_singleton] at d1 d2
    walk_at "go"
    walk_at "ss"
    refine loopWG (fun σ H' => H' = H ∧ σ = [some (.str (S t)), some (.int (n : Int)), some (.int ((n + 1 + w.length : Nat) : Int))]) (fun m σ H' => ∃ i, i ≤ w.length ∧ m = w.length - i ∧ H' = H ∧ σ = [some (.str (S t)), some (.int (n : Int)), some (.int ((n + 1 + i : Nat) : Int))]) w.length ⟨0, Nat.zero_le _, rfl, rfl, rfl⟩ ?_ ?_
    · rintro nx hnx m σ H' ⟨i, hi, rfl, rfl, rfl⟩
      have hdi : t.drop (n + 1 + i) = w.drop i ++ r := by
        rw [← List.drop_drop, d1, List.drop_append_of_le_length hi]
      walk_at "go"
      cases hq : w.drop i ++ r with
      | nil =>
        rw [hq] at hdi
        have he := drop_end hdi (by omega)
        have hiw : i = w.length := by
          have e := congrArg List.length hq
          rw [List.length_append, List.length_drop, List.length_nil] at e
          omega
        refine r_iteF (decide_eq_false (by omega)) ?_
        walk_at "go"
        exact hnx _ _ ⟨rfl, by rw [hiw]⟩
      | cons x r' =>
        rw [hq] at hdi
        obtain ⟨hx, hlt, hnx2⟩ := drop_get hdi
        have hxi : (i < w.length ∧ isNameC x = true) ∨ (i = w.length ∧ isNameC x = false) := by
          rcases Nat.lt_or_ge i w.length with q | q
          · have e := List.drop_eq_getElem_cons q
            rw [e, List.cons_append] at hq
            injection hq with e1 e2
            exact .inl ⟨q, by rw [← e1]; exact hw _ (List.getElem_mem q)⟩
          · have e : i = w.length := by omega
            rw [e, List.drop_length, List.nil_append] at hq
            exact .inr ⟨e, hr2 x r' hq⟩
        have goon : i < w.length → ∃ i2, i2 ≤ w.length ∧ w.length - (i + 1) = w.length - i2 ∧ H' = H' ∧ [some (V.str (S t)), some (.int (n : Int)), some (.int ((n + 1 + i : Nat) + 1 : Int))] = [some (V.str (S t)), some (.int (n : Int)), some (.int ((n + 1 + i2 : Nat) : Int))] := fun q => ⟨i + 1, by omega, rfl, rfl, rfl⟩
        refine r_iteT (decide_eq_true (by omega)) ?_
        walk_at "go"
        refine r_ixSS (n := n + 1 + i) (by omega) rfl hx ?_
        walk_at "go"
        refine ⟨x, rfl, ?_⟩
        walk_at "go"
        refine r_ite (fun c1 => ?_) (fun c1 => ?_)
        · walk_at "go"
          have q : i < w.length := by
            rcases hxi with q | q
            · exact q.1
            · have := q.2
              unfold isNameC at this
              rw [c1] at this
              cases this
          refine r_whN ?_
          walk_at "go"
          exact ⟨w.length - (i + 1), by omega, goon q⟩
        · walk_at "go"
          refine r_ixSS (n := n + 1 + i) (by omega) rfl hx ?_
          walk_at "go"
          refine ⟨x, rfl, ?_⟩
          walk_at "go"
          refine r_ite (fun c2 => ?_) (fun c2 => ?_)
          · walk_at "go"
            have q : i < w.length := by
              rcases hxi with q | q
              · exact q.1
              · have := q.2
                unfold isNameC at this
                rw [c1, c2] at this
                cases this
            refine r_whN ?_
            walk_at "go"
            exact ⟨w.length - (i + 1), by omega, goon q⟩
          · walk_at "go"
            refine r_ixSS (n := n + 1 + i) (by omega) rfl hx ?_
            walk_at "go"
            rw [eq_one under_str]
            have e3 : isNameC x = decide (x = 95) := by
              unfold isNameC
              rw [c1, c2]
              rfl
            rw [e3] at hxi
            refine r_ite (fun c3 => ?_) (fun c3 => ?_)
            · have q : i < w.length := by
                rcases hxi with q | q
                · exact q.1
                · rw [c3] at q
                  cases q.2
              refine r_whN ?_
              walk_at "go"
              exact ⟨w.length - (i + 1), by omega, goon q⟩
            · have q : i = w.length := by
                rcases hxi with q | q
                · rw [c3] at q
                  cases q.2
                · exact q.1
              exact hnx _ _ ⟨rfl, by rw [q]⟩
    · rintro σ H' ⟨rfl, rfl⟩
      walk_at "go"
      refine r_iteF (decide_eq_false (by omega)) ?_
      walk_at "go"
      refine r_slS (by rw [S_len]; omega) ?_
      rw [cutS_nat rfl rfl hn, hd, show n + 1 + w.length - n = (c :: w).length by rw [lw]; omega, List.take_left]
      walk_at "go"
      refine k_new ok fun p F1 H1 g1 hp1 np1 => ?_
      refine k _ F1 H1 g1 ⟨p, rfl, ?_⟩
      rw [show n + (w.length + 1) = n + 1 + w.length by omega]
      exact hp1

def PNum (pre r : List Nat) (tk : Tok) : Prop := ∃ d, d < 10 ∧ pre = [48 + d] ∧ tk = .num d ∧ ∀ x r', r = x :: r' → isDigit x = false
def sp_number_at : Sp := SgnR PNum
abbrev N_number_at : List Str := ["text", "at", "end"]
theorem sc_number_at : FnScope N_number_at ["text", "at"] (defScope s_number_at) := ⟨rfl, rfl, rfl, by decide +kernel, rfl, by decide +kernel, by decide +kernel⟩
theorem ok_number_at (T : Txt K mg) : OkG P w K mg base 2 "_number_at" ["text", "at"] sp_number_at := by
  have m_int : mg "int" = none := T.free 69 rfl
  have m_len : mg "len" = none := T.free 68 rfl
  obtain ⟨f_is_digit, fd_is_digit, G_is_digit, mg_is_digit, kp_is_digit, b_is_digit⟩ := ok_is_digit (P := P) (w := w) (base := base) T
  refine T.okG 6 6 rfl rfl (d := d_number_at) sc_number_at (fun _ _ _ _ _ _ us hl => match us, hl with | [_, _], _ => rfl) (fun vs H Q E h => ?_) (fun cdv A outer s H vs Q E hr h => ?_)
  · obtain ⟨_, _, _, _, _, _, rfl, _⟩ := h
    rfl
  · refine ⟨_, PSs.nox (pss_cons (ps_set (i := 2) sc_number_at.nd rfl (Or.inl rfl) (pe_op op_add (pv 1) pe_int))
      (pss_cons (ps_while PassesOwn.never (PW.pt (pw_and (pt_cmpR op_lt (pv 2) (pe_callB cr_lenS (by rfl) m_len PySem.boot_len (pa_cons (pv 0) pa_nil)) (nomark _)) (pw_and1 (pt_val (pe_call G_is_digit (hr.mono (by decide)) rfl mg_is_digit kp_is_digit b_is_digit .nil pass0 (pa_cons (pe_ix ix_str (pv 0) (pv 2) (fun _ _ => rfl)) pa_nil))))))
        (pss_one (ps_aug (i := 2) sc_number_at.nd rfl (Or.inl rfl) pe_int ip_add)))
      (pss_one (ps_ret (pe_tup (pa_cons pe_str (pa_cons (pe_callTy cr_intS (by rfl) m_int (by decide +kernel) (pa_cons (pe_slice sl_str (pv 0) (po_some (pv 1)) (po_some (pv 2))) pa_nil)) (pa_cons (pv 2) pa_nil)))))))), ?_⟩
    obtain ⟨F, t, n, pre, r, tk, rfl, ok, ht, hd, hn, ⟨d, hd10, rfl, rfl, hr2⟩, k⟩ := h
    obtain ⟨d1, d2⟩ := drop_at hd hn
    simp only [List.length_singleton] at d1 d2 k
    walk_at "go"
    walk_at "ss"
    refine loopWG (fun σ H' => H' = H ∧ σ = [some (.str (S t)), some (.int (n : Int)), some (.int ((n + 1 : Nat) : Int))]) (fun m σ H' => H' = H ∧ σ = [some (.str (S t)), some (.int (n : Int)), some (.int ((n + 1 : Nat) : Int))]) 0 ⟨rfl, rfl⟩ ?_ ?_
    · rintro nx hnx m σ H' ⟨rfl, rfl⟩
      walk_at "go"
      cases hq : r with
      | nil =>
        rw [hq] at d1
        have he := drop_end d1 (by omega)
        refine r_iteF (decide_eq_false (by omega)) ?_
        walk_at "go"
        exact hnx _ _ ⟨rfl, rfl⟩
      | cons x r' =>
        rw [hq] at d1
        obtain ⟨hx, hlt, hnx2⟩ := drop_get d1
        refine r_iteT (decide_eq_true (by omega)) ?_
        walk_at "go"
        refine r_ixSS (n := n + 1) (by omega) rfl hx ?_
        walk_at "go"
        refine ⟨x, rfl, ?_⟩
        walk_at "go"
        refine r_iteF (hr2 x r' hq) ?_
        exact hnx _ _ ⟨rfl, rfl⟩
    · rintro σ H' ⟨rfl, rfl⟩
      walk_at "go"
      refine r_slS (by rw [S_len]; omega) ?_
      rw [cutS_nat rfl rfl hn, hd, show n + 1 - n = [48 + d].length by simp, List.take_left]
      walk_at "go"
      refine r_intS (intText_small hd10) (by rw [S_len]; show 1 ≤ 640; decide) ?_
      walk_at "go"
      refine k_new ok fun p F1 H1 g1 hp1 np1 => ?_
      exact k _ F1 H1 g1 ⟨p, rfl, hp1⟩

theorem dbl_app (a b : List Nat) : dbl (a ++ b) = dbl a ++ dbl b := by
  unfold dbl
  rw [List.flatMap_append]
def PQuo (pre r : List Nat) (tk : Tok) : Prop := ∃ l, pre = 34 :: (dbl l ++ [34]) ∧ tk = .quo l ∧ ∀ r', r ≠ 34 :: r'
def sp_quoted_at : Sp := SgnR PQuo
abbrev N_quoted_at : List Str := ["text", "at", "chars", "index"]
theorem sc_quoted_at : FnScope N_quoted_at ["text", "at"] (defScope s_quoted_at) := ⟨rfl, rfl, rfl, by decide +kernel, rfl, by decide +kernel, by decide +kernel⟩
theorem ok_quoted_at (T : Txt K mg) : OkG P w K mg base 1 "_quoted_at" ["text", "at"] sp_quoted_at := by
  have m_len : mg "len" = none := T.free 68 rfl
  refine T.okG 7 7 rfl rfl (d := d_quoted_at) sc_quoted_at (fun _ _ _ _ _ _ us hl => match us, hl with | [_, _], _ => rfl) (fun vs H Q E h => ?_) (fun cdv A outer s H vs Q E hr h => ?_)
  · obtain ⟨_, _, _, _, _, _, rfl, _⟩ := h
    rfl
  · refine ⟨_, PSs.nox (pss_cons (ps_set (i := 2) sc_quoted_at.nd rfl (Or.inl rfl) (pe_lst pa_nil))
      (pss_cons (ps_set (i := 3) sc_quoted_at.nd rfl (Or.inl rfl) (pe_op op_add (pv 1) pe_int))
      (pss_cons (ps_while PassesOwn.never (pt_cmpR op_lt (pv 3) (pe_callB cr_lenS (by rfl) m_len PySem.boot_len (pa_cons (pv 0) pa_nil)) (nomark _))
        (pss_one (ps_if (pt_cmpR op_ne (pe_ix ix_str (pv 0) (pv 3) (fun _ _ => rfl)) pe_str (nomark _))
          (pss_cons (ps_expr (pe_bm PySem.F.plainAttrs_list PySem.F.slot_list_append PySem.F.type_list_append mt_append (pv 2) (pa_cons (pe_ix ix_str (pv 0) (pv 3) (fun _ _ => rfl)) pa_nil)))
          (pss_one (ps_aug (i := 3) sc_quoted_at.nd rfl (Or.inl rfl) pe_int ip_add)))
          (pss_one (ps_if (pt_cmpR op_eq (pe_slice sl_str (pv 0) (po_some (pe_op op_add (pv 3) pe_int)) (po_some (pe_op op_add (pv 3) pe_int))) pe_str (nomark _))
            (pss_cons (ps_expr (pe_bm PySem.F.plainAttrs_list PySem.F.slot_list_append PySem.F.type_list_append mt_append (pv 2) (pa_cons pe_str pa_nil)))
            (pss_one (ps_aug (i := 3) sc_quoted_at.nd rfl (Or.inl rfl) pe_int ip_add)))
            (pss_one (ps_ret (pe_tup (pa_cons pe_str (pa_cons (pe_joinN pe_str (pv 2)) (pa_cons (pe_op op_add (pv 3) pe_int) pa_nil)))))))))))
      (pss_one (ps_ret (pe_tup (pa_cons pe_str (pa_cons pe_str (pa_cons (pe_callB cr_lenS (by rfl) m_len PySem.boot_len (pa_cons (pv 0) pa_nil)) pa_nil))))))))), ?_⟩
    obtain ⟨F, t, n, pre, r, tk, rfl, ok, ht, hd, hn, ⟨l, rfl, rfl, hr2⟩, k⟩ := h
    have hd0 : t.drop n = [34] ++ (dbl l ++ 34 :: r) := by rw [hd]; simp
    obtain ⟨d1, d2⟩ := drop_at hd0 hn
    simp only [List.length_singleton] at d1 d2
    have dl := dbl_len l
    have lp : (34 :: (dbl l ++ [34])).length = (dbl l).length + 2 := by simp
    rw [lp] at k
    have dall := drop_at d1 d2
    have lle : l.length ≤ (dbl l).length := by
      clear dl k lp dall d1 hd0 hd
      induction l with
      | nil => exact Nat.le_refl _
      | cons a l ih =>
        rw [dbl_cons, List.length_append, List.length_cons]
        split <;> simp only [List.length_cons, List.length_nil] <;> omega
    walk_at "go"
    refine k_mu ok fun p F1 H1 g1 hp1 np1 => ?_
    walk_at "go"
    walk_at "ss"
    walk_at "go"
    walk_at "ss"
    refine loopWG (fun σ H' => False) (fun m σ H' => ∃ (F' : Hp) (i : Nat), i ≤ l.length ∧ m = l.length - i ∧ Grow [] F H F' H' ∧ Mu F' H' p (.lst ((l.take i).map fun c => V.str (S [c]))) ∧
      σ = [some (.str (S t)), some (.int (n : Int)), some (.ref p), some (.int ((n + 1 + (dbl (l.take i)).length : Nat) : Int))]) l.length ⟨F1, 0, Nat.zero_le _, rfl, g1, hp1, rfl⟩ ?_ (fun _ _ z => z.elim)
    rintro nx hnx m σ H' ⟨F2, i, hi, rfl, G, mp, rfl⟩
    have hdi : t.drop (n + 1 + (dbl (l.take i)).length) = dbl (l.drop i) ++ 34 :: r := by
      have e : dbl l = dbl (l.take i) ++ dbl (l.drop i) := by rw [← dbl_app, List.take_append_drop]
      rw [e, List.append_assoc] at d1
      exact (drop_at d1 d2).1
    have ok2 := G.fh
    walk_at "go"
    cases hq : l.drop i with
    | nil =>
      rw [hq] at hdi
      have hil : i = l.length := by
        have e := congrArg List.length hq
        rw [List.length_drop, List.length_nil] at e
        omega
      subst hil
      rw [List.take_length] at hdi mp ⊢
      obtain ⟨hx, hlt, hnx2⟩ := drop_get hdi
      refine r_iteT (decide_eq_true (by omega)) ?_
      refine r_whN ?_
      walk_at "go"
      refine r_ixSS (by omega) rfl hx ?_
      walk_at "go"
      rw [eq_one quot_str]
      refine r_iteF (by decide) ?_
      walk_at "go"
      refine r_slS (by rw [S_len]; omega) ?_
      have ec : cutS (S t) (some (((n + 1 + (dbl l).length : Nat) : Int) + 1)) (some (((n + 1 + (dbl l).length : Nat) : Int) + 2)) = _ := cutS_nat (t := t) (i := n + 1 + (dbl l).length + 1) (j := n + 1 + (dbl l).length + 2) rfl rfl (by omega)
      rw [ec, hnx2]
      walk_at "go"
      have e1 : ¬ V.str (S (r.take (n + 1 + (dbl l).length + 2 - (n + 1 + (dbl l).length + 1)))) = V.str "\"" := fun z => by
        rw [quot_str, S_iff, show n + 1 + (dbl l).length + 2 - (n + 1 + (dbl l).length + 1) = 1 by omega] at z
        cases r with
        | nil => cases z
        | cons y r => exact hr2 r (by rw [(List.cons.inj z).1])
      refine r_iteF (decide_eq_false e1) ?_
      walk_at "go"
      have ej : (l.map fun c => V.str (S [c])) = (l.map fun c => S [c]).map V.str := by rw [List.map_map]; rfl
      rw [ej] at mp
      refine r_join (K := K) (sql_mu mp) ?_ ?_
      · rw [chars_sum, ll25]
        omega
      rw [join_ones]
      walk_at "go"
      refine k_fz G.fh mp fun F3 g3 hp3 => ?_
      have G3 := G.comp g3 (side_one (.inr np1))
      refine k_new G3.fh fun q F4 H4 g4 hq4 nq4 => ?_
      refine k _ F4 H4 (G3.comp g4 side_nil) ⟨q, rfl, ?_⟩
      rw [show n + ((dbl l).length + 2) = n + 1 + (dbl l).length + 1 by omega]
      exact hq4
    | cons c l' =>
      have hil : i < l.length := by
        refine Nat.lt_of_not_le fun q => ?_
        rw [List.drop_eq_nil_of_le q] at hq
        cases hq
      have hci : l[i]? = some c := (drop_get hq).1
      have etk : l.take (i + 1) = l.take i ++ [c] := take_more hci
      rw [hq, dbl_cons] at hdi
      by_cases h34 : c = 34
      · subst h34
        rw [if_pos rfl] at hdi
        have hdi : t.drop (n + 1 + (dbl (l.take i)).length) = 34 :: (34 :: (dbl l' ++ 34 :: r)) := hdi
        obtain ⟨hx, hlt, hnx2⟩ := drop_get hdi
        obtain ⟨hx2, hlt2, hnx3⟩ := drop_get hnx2
        refine r_iteT (decide_eq_true (by omega)) ?_
        refine r_whN ?_
        walk_at "go"
        refine r_ixSS (by omega) rfl hx ?_
        walk_at "go"
        rw [eq_one quot_str]
        refine r_iteF (by decide) ?_
        walk_at "go"
        refine r_slS (by rw [S_len]; omega) ?_
        have ec : cutS (S t) (some (((n + 1 + (dbl (l.take i)).length : Nat) : Int) + 1)) (some (((n + 1 + (dbl (l.take i)).length : Nat) : Int) + 2)) = _ := cutS_nat (t := t) (i := n + 1 + (dbl (l.take i)).length + 1) (j := n + 1 + (dbl (l.take i)).length + 2) rfl rfl (by omega)
        rw [ec, hnx2]
        walk_at "go"
        rw [show n + 1 + (dbl (l.take i)).length + 2 - (n + 1 + (dbl (l.take i)).length + 1) = 1 by omega]
        refine r_iteT (decide_eq_true (by rw [quot_str]; rfl)) ?_
        walk_at "go"
        refine r_append mp.1 (by rw [List.length_map, List.length_take]; omega) (k_wr G.fh mp fun F3 H3 g3 m3 => ?_)
        walk_at "go"
        refine ⟨l.length - (i + 1), by omega, F3, i + 1, by omega, rfl, G.comp g3 (side_one (.inr np1)), ?_, ?_⟩
        · rw [etk, List.map_append, List.map_singleton, ← quot_str]
          exact m3
        · rw [etk, dbl_app, List.length_append]
          rfl
      · rw [if_neg h34] at hdi
        have hdi : t.drop (n + 1 + (dbl (l.take i)).length) = c :: (dbl l' ++ 34 :: r) := hdi
        obtain ⟨hx, hlt, hnx2⟩ := drop_get hdi
        refine r_iteT (decide_eq_true (by omega)) ?_
        refine r_whN ?_
        walk_at "go"
        refine r_ixSS (by omega) rfl hx ?_
        walk_at "go"
        rw [eq_one quot_str]
        refine r_iteT (by rw [decide_eq_false h34]; rfl) ?_
        walk_at "go"
        refine r_ixSS (by omega) rfl hx ?_
        walk_at "go"
        refine r_append mp.1 (by rw [List.length_map, List.length_take]; omega) (k_wr G.fh mp fun F3 H3 g3 m3 => ?_)
        walk_at "go"
        refine ⟨l.length - (i + 1), by omega, F3, i + 1, by omega, rfl, G.comp g3 (side_one (.inr np1)), ?_, ?_⟩
        · rw [etk, List.map_append, List.map_singleton]
          exact m3
        · rw [etk, dbl_app, List.length_append, show dbl [c] = [c] by rw [dbl_cons, if_neg h34]; rfl]
          rfl

end
section
variable {P : Program} {w : World} {K : PySem.W.Frag} {mg : Str → Option Value} {base : Heap}

theorem quo_nl : isLetter 34 = false ∧ isDigit 34 = false := by decide +kernel
theorem sym_nl : ∀ c, (c = 44 ∨ c = 58 ∨ c = 59) → isLetter c = false ∧ isDigit c = false ∧ c ≠ 34 ∧ decide (c ∈ (",;:" : Str).cps.toList) = true := by
  rintro c (rfl | rfl | rfl) <;> decide +kernel
def sp_sign_at : Sp := SgnR Lex1
abbrev N_sign_at : List Str := ["text", "at", "char"]
theorem sc_sign_at : FnScope N_sign_at ["text", "at"] (defScope s_sign_at) := ⟨rfl, rfl, rfl, by decide +kernel, rfl, by decide +kernel, by decide +kernel⟩
theorem ok_sign_at (T : Txt K mg) : OkG P w K mg base 3 "_sign_at" ["text", "at"] sp_sign_at := by
  obtain ⟨_, m_SYMBOLS⟩ := T.str 84 (x := "SYMBOLS") rfl
  obtain ⟨f_is_letter, fd_is_letter, G_is_letter, mg_is_letter, kp_is_letter, b_is_letter⟩ := ok_is_letter (P := P) (w := w) (base := base) T
  obtain ⟨f_name_at, fd_name_at, G_name_at, mg_name_at, kp_name_at, b_name_at⟩ := ok_name_at (P := P) (w := w) (base := base) T
  obtain ⟨f_is_digit, fd_is_digit, G_is_digit, mg_is_digit, kp_is_digit, b_is_digit⟩ := ok_is_digit (P := P) (w := w) (base := base) T
  obtain ⟨f_number_at, fd_number_at, G_number_at, mg_number_at, kp_number_at, b_number_at⟩ := ok_number_at (P := P) (w := w) (base := base) T
  obtain ⟨f_quoted_at, fd_quoted_at, G_quoted_at, mg_quoted_at, kp_quoted_at, b_quoted_at⟩ := ok_quoted_at (P := P) (w := w) (base := base) T
  refine T.okG 8 8 rfl rfl (d := d_sign_at) sc_sign_at (fun _ _ _ _ _ _ us hl => match us, hl with | [_, _], _ => rfl) (fun vs H Q E h => ?_) (fun cdv A outer s H vs Q E hr h => ?_)
  · obtain ⟨_, _, _, _, _, _, rfl, _⟩ := h
    rfl
  · refine ⟨_, PSs.nox (pss_cons (ps_set (i := 2) sc_sign_at.nd rfl (Or.inl rfl) (pe_ix ix_str (pv 0) (pv 1) (fun _ _ => rfl)))
      (pss_cons (ps_if (pt_val (pe_call G_is_letter (hr.mono (by decide)) rfl mg_is_letter kp_is_letter b_is_letter .nil pass0 (pa_cons (pv 2) pa_nil)))
        (pss_one (ps_ret (pe_call G_name_at (hr.mono (by decide)) rfl mg_name_at kp_name_at b_name_at .nil pass0 (pa_cons (pv 0) (pa_cons (pv 1) pa_nil)))))
        pss_nil)
      (pss_cons (ps_if (pt_val (pe_call G_is_digit (hr.mono (by decide)) rfl mg_is_digit kp_is_digit b_is_digit .nil pass0 (pa_cons (pv 2) pa_nil)))
        (pss_one (ps_ret (pe_call G_number_at (hr.mono (by decide)) rfl mg_number_at kp_number_at b_number_at .nil pass0 (pa_cons (pv 0) (pa_cons (pv 1) pa_nil)))))
        pss_nil)
      (pss_cons (ps_if (pt_cmpR op_eq (pv 2) pe_str (nomark _))
        (pss_one (ps_ret (pe_call G_quoted_at (hr.mono (by decide)) rfl mg_quoted_at kp_quoted_at b_quoted_at .nil pass0 (pa_cons (pv 0) (pa_cons (pv 1) pa_nil)))))
        pss_nil)
      (pss_cons (ps_if (pt_cmpR op_inS (pv 2) (pe_gS (by rfl) m_SYMBOLS) (by rfl))
        (pss_one (ps_ret (pe_tup (pa_cons pe_str (pa_cons (pv 2) (pa_cons (pe_op op_add (pv 1) pe_int) pa_nil))))))
        pss_nil)
      (pss_one (ps_ret (pe_tup (pa_cons pe_str (pa_cons pe_str (pa_cons (pv 1) pa_nil))))))))))), ?_⟩
    obtain ⟨F, t, n, pre, r, tk, rfl, ok, ht, hd, hn, hl, k⟩ := h
    obtain ⟨c, p, epre, _⟩ := hl.pos
    have hx := (drop_get (show t.drop n = c :: (p ++ r) by rw [hd, epre]; rfl)).1
    walk_at "go"
    refine r_ixSS (n := n) (by omega) rfl hx ?_
    walk_at "go"
    walk_at "ss"
    walk_at "go"
    refine ⟨c, rfl, ?_⟩
    walk_at "go"
    cases hl with
    | @nm c2 w _ h1 h2 h3 h4 =>
      injection epre with e1 e2
      subst e1 e2
      refine r_iteT h1 ?_
      walk_at "go"
      exact ⟨F, t, n, c2 :: w, r, _, rfl, ok, ht, hd, hn, ⟨c2, w, rfl, rfl, h2, h3, h4⟩, k⟩
    | @num d _ h1 h2 =>
      injection epre with e1 e2
      subst e1 e2
      obtain ⟨q1, q2⟩ := digit_of d h1
      refine r_iteF q2 ?_
      walk_at "go"
      refine ⟨48 + d, rfl, ?_⟩
      walk_at "go"
      refine r_iteT q1 ?_
      walk_at "go"
      exact ⟨F, t, n, [48 + d], r, _, rfl, ok, ht, hd, hn, ⟨d, h1, rfl, rfl, h2⟩, k⟩
    | @quo l _ h1 =>
      injection epre with e1 e2
      subst e1 e2
      refine r_iteF quo_nl.1 ?_
      walk_at "go"
      refine ⟨34, rfl, ?_⟩
      walk_at "go"
      refine r_iteF quo_nl.2 ?_
      walk_at "go"
      rw [eq_one quot_str]
      refine r_iteT (by decide) ?_
      walk_at "go"
      exact ⟨F, t, n, _, r, _, rfl, ok, ht, hd, hn, ⟨l, rfl, rfl, h1⟩, k⟩
    | @sym c2 _ h1 =>
      injection epre with e1 e2
      subst e1 e2
      obtain ⟨q1, q2, q3, q4⟩ := sym_nl c2 h1
      refine r_iteF q1 ?_
      walk_at "go"
      refine ⟨c2, rfl, ?_⟩
      walk_at "go"
      refine r_iteF q2 ?_
      walk_at "go"
      rw [eq_one quot_str]
      refine r_iteF (decide_eq_false q3) ?_
      walk_at "go"
      refine r_iteT q4 ?_
      walk_at "go"
      refine k_new ok fun p F1 H1 g1 hp1 np1 => ?_
      exact k _ F1 H1 g1 ⟨p, rfl, hp1⟩

def sp_read_signs : Sp := fun vs H Q _ => ∃ (F : Hp) (t : List Nat) (ts : List Tok), vs = [.str (S t)] ∧ Same F H ∧ t.length ≤ 100000 ∧ Lex t ts ∧
  ∀ (v : V) (F' H' : Hp), Grow [] F H F' H' → (∃ a xs, v = .ref a ∧ F' a = some (.lst xs) ∧ Ents F' xs (ts ++ [.fin])) → Q v H'
abbrev N_read_signs : List Str := ["text", "signs", "at", "kind", "value", "end", "line", "column"]
theorem sc_read_signs : FnScope N_read_signs ["text"] (defScope s_read_signs) := ⟨rfl, rfl, rfl, by decide +kernel, rfl, by decide +kernel, by decide +kernel⟩
theorem ok_read_signs (T : Txt K mg) : OkG P w K mg base 4 "read_signs" ["text"] sp_read_signs := by
  have m_len : mg "len" = none := T.free 68 rfl
  obtain ⟨f_is_blank, fd_is_blank, G_is_blank, mg_is_blank, kp_is_blank, b_is_blank⟩ := ok_is_blank (P := P) (w := w) (base := base) T
  obtain ⟨f_sign_at, fd_sign_at, G_sign_at, mg_sign_at, kp_sign_at, b_sign_at⟩ := ok_sign_at (P := P) (w := w) (base := base) T
  obtain ⟨f_place_of, fd_place_of, G_place_of, mg_place_of, kp_place_of, b_place_of⟩ := ok_place_of (P := P) (w := w) (base := base) T
  refine T.okG 9 9 rfl rfl (d := d_read_signs) sc_read_signs (fun _ _ _ _ _ _ us hl => match us, hl with | [_], _ => rfl) (fun vs H Q E h => ?_) (fun cdv A outer s H vs Q E hr h => ?_)
  · obtain ⟨_, _, _, rfl, _⟩ := h
    rfl
  · refine ⟨_, PSs.nox (pss_cons (ps_set (i := 1) sc_read_signs.nd rfl (Or.inl rfl) (pe_lst pa_nil))
      (pss_cons (ps_set (i := 2) sc_read_signs.nd rfl (Or.inl rfl) pe_int)
      (pss_cons (ps_while PassesOwn.never (pt_cmpR op_lt (pv 2) (pe_callB cr_lenS (by rfl) m_len PySem.boot_len (pa_cons (pv 0) pa_nil)) (nomark _))
        (pss_one (ps_if (pt_val (pe_call G_is_blank (hr.mono (by decide)) rfl mg_is_blank kp_is_blank b_is_blank .nil pass0 (pa_cons (pe_ix ix_str (pv 0) (pv 2) (fun _ _ => rfl)) pa_nil)))
          (pss_one (ps_aug (i := 2) sc_read_signs.nd rfl (Or.inl rfl) pe_int ip_add))
          (pss_cons (ps_asg (pe_call G_sign_at (hr.mono (by decide)) rfl mg_sign_at kp_sign_at b_sign_at .nil pass0 (pa_cons (pv 0) (pa_cons (pv 2) pa_nil))) (pg_tup (by rfl) (pgs_cons (pg_name (i := 3) sc_read_signs.nd rfl (Or.inl rfl)) (pgs_cons (pg_name (i := 4) sc_read_signs.nd rfl (Or.inl rfl)) (pgs_cons (pg_name (i := 5) sc_read_signs.nd rfl (Or.inl rfl)) pgs_nil)))))
          (pss_cons (ps_if (pt_cmpR op_eq (pv 3) pe_str (nomark _))
            (pss_cons (ps_asg (pe_call G_place_of (hr.mono (by decide)) rfl mg_place_of kp_place_of b_place_of .nil pass0 (pa_cons (pv 0) (pa_cons (pv 5) pa_nil))) (pg_tup (by rfl) (pgs_cons (pg_name (i := 6) sc_read_signs.nd rfl (Or.inl rfl)) (pgs_cons (pg_name (i := 7) sc_read_signs.nd rfl (Or.inl rfl)) pgs_nil))))
            (pss_cons (ps_expr (pe_bm PySem.F.plainAttrs_list PySem.F.slot_list_append PySem.F.type_list_append mt_append (pv 1) (pa_cons (pe_tup (pa_cons (pv 3) (pa_cons (pv 4) (pa_cons (pv 6) (pa_cons (pv 7) pa_nil))))) pa_nil)))
            (pss_one (ps_ret (pv 1)))))
            pss_nil)
          (pss_cons (ps_asg (pe_call G_place_of (hr.mono (by decide)) rfl mg_place_of kp_place_of b_place_of .nil pass0 (pa_cons (pv 0) (pa_cons (pv 2) pa_nil))) (pg_tup (by rfl) (pgs_cons (pg_name (i := 6) sc_read_signs.nd rfl (Or.inl rfl)) (pgs_cons (pg_name (i := 7) sc_read_signs.nd rfl (Or.inl rfl)) pgs_nil))))
          (pss_cons (ps_expr (pe_bm PySem.F.plainAttrs_list PySem.F.slot_list_append PySem.F.type_list_append mt_append (pv 1) (pa_cons (pe_tup (pa_cons (pv 3) (pa_cons (pv 4) (pa_cons (pv 6) (pa_cons (pv 7) pa_nil))))) pa_nil)))
          (pss_one (ps_set (i := 2) sc_read_signs.nd rfl (Or.inl rfl) (pv 5))))))))))
      (pss_cons (ps_asg (pe_call G_place_of (hr.mono (by decide)) rfl mg_place_of kp_place_of b_place_of .nil pass0 (pa_cons (pv 0) (pa_cons (pe_callB cr_lenS (by rfl) m_len PySem.boot_len (pa_cons (pv 0) pa_nil)) pa_nil))) (pg_tup (by rfl) (pgs_cons (pg_name (i := 6) sc_read_signs.nd rfl (Or.inl rfl)) (pgs_cons (pg_name (i := 7) sc_read_signs.nd rfl (Or.inl rfl)) pgs_nil))))
      (pss_cons (ps_expr (pe_bm PySem.F.plainAttrs_list PySem.F.slot_list_append PySem.F.type_list_append mt_append (pv 1) (pa_cons (pe_tup (pa_cons pe_str (pa_cons pe_str (pa_cons (pv 6) (pa_cons (pv 7) pa_nil))))) pa_nil)))
      (pss_one (ps_ret (pv 1)))))))), ?_⟩
    obtain ⟨F, t, ts, rfl, ok, ht, hl, k⟩ := h
    walk_at "go"
    refine k_mu ok fun p F1 H1 g1 hp1 np1 => ?_
    walk_at "go"
    walk_at "ss"
    walk_at "go"
    walk_at "ss"
    refine loopWG (fun σ H' => ∃ (F' : Hp) (us : List V) (y1 y2 y3 y4 y5 : Option V), Grow [] F H F' H' ∧ Mu F' H' p (.lst us) ∧ us.length ≤ t.length ∧ Ents F' us ts ∧
        σ = [some (.str (S t)), some (.ref p), some (.int (t.length : Int)), y1, y2, y3, y4, y5])
      (fun m σ H' => ∃ (F' : Hp) (us : List V) (i : Nat) (ts1 ts2 : List Tok) (y1 y2 y3 y4 y5 : Option V), i ≤ t.length ∧ m = t.length - i ∧ Grow [] F H F' H' ∧ Mu F' H' p (.lst us) ∧ us.length ≤ i ∧ Ents F' us ts1 ∧ ts = ts1 ++ ts2 ∧ Lex (t.drop i) ts2 ∧
        σ = [some (.str (S t)), some (.ref p), some (.int (i : Int)), y1, y2, y3, y4, y5]) t.length
      ⟨F1, [], 0, [], ts, none, none, none, none, none, Nat.zero_le _, rfl, g1, hp1, Nat.zero_le _, .nil, rfl, hl, rfl⟩ ?_ ?_
    · rintro nx hnx m σ H' ⟨F2, us, i, ts1, ts2, y1, y2, y3, y4, y5, hi, rfl, G, mp, hul, en, ets, lx, rfl⟩
      have ok2 := G.fh
      walk_at "go"
      rcases lx.cases with ⟨e1, e2⟩ | ⟨c, r, e1, hb, lr⟩ | ⟨pre, r, tk, us2, e1, e2, l1, lr⟩
      · have he := drop_end e1 hi
        subst e2
        rw [List.append_nil] at ets
        refine r_iteF (decide_eq_false (by omega)) ?_
        walk_at "go"
        exact hnx _ _ ⟨F2, us, _, _, _, _, _, G, mp, by omega, by rw [ets]; exact en, by rw [he]⟩
      · obtain ⟨hx, hlt, hdr⟩ := drop_get e1
        refine r_iteT (decide_eq_true (by omega)) ?_
        refine r_whN ?_
        walk_at "go"
        refine r_ixSS (n := i) (by omega) rfl hx ?_
        walk_at "go"
        refine ⟨c, rfl, ?_⟩
        walk_at "go"
        refine r_iteT hb ?_
        walk_at "go"
        exact ⟨t.length - (i + 1), by omega, F2, us, i + 1, ts1, ts2, _, _, _, _, _, by omega, rfl, G, mp, by omega, en, ets, by rw [hdr]; exact lr, rfl⟩
      · obtain ⟨c, q, epre, hnb⟩ := l1.pos
        obtain ⟨hx, hlt, _⟩ := drop_get (show t.drop i = c :: (q ++ r) by rw [e1, epre]; rfl)
        obtain ⟨d1, d2⟩ := drop_at e1 hi
        have hpos : 0 < pre.length := by rw [epre]; exact Nat.succ_pos _
        subst e2
        refine r_iteT (decide_eq_true (by omega)) ?_
        refine r_whN ?_
        walk_at "go"
        refine r_ixSS (n := i) (by omega) rfl hx ?_
        walk_at "go"
        refine ⟨c, rfl, ?_⟩
        walk_at "go"
        refine r_iteF hnb ?_
        walk_at "go"
        refine ⟨F2, t, i, pre, r, tk, rfl, G.fh, ht, e1, hi, l1, fun v F3 H3 g3 ⟨a, ev, ha⟩ => ?_⟩
        subst ev
        have G3 := G.comp g3 side_nil
        have ok3 := G3.fh
        have m3 := g3.mu nil_not mp
        walk_at "go"
        walk_at "ss"
        walk_at "go"
        refine r_iteF l1.nofault ?_
        walk_at "go"
        refine ⟨F3, t, _, rfl, G3.fh, by omega, fun v F4 H4 g4 ⟨a4, x4, z4, ev4, ha4⟩ => ?_⟩
        subst ev4
        have G4 := G3.comp g4 side_nil
        have ok4 := G4.fh
        have m4 := g4.mu nil_not m3
        walk_at "go"
        walk_at "ss"
        walk_at "go"
        refine k_new G4.fh fun pe F5 H5 g5 hp5 np5 => ?_
        have m5 := g5.mu nil_not m4
        walk_at "go"
        refine r_append m5.1 (by omega) (k_wr g5.fh m5 fun F6 H6 g6 m6 => ?_)
        walk_at "go"
        walk_at "ss"
        have en6 : Ents F6 us ts1 := ((((en.up g3.ff).up g4.ff).up g5.ff).up g6.ff)
        refine ⟨t.length - (i + pre.length), by omega, F6, us ++ [.ref pe], i + pre.length, ts1 ++ [tk], us2, _, _, _, _, _, d2, rfl, (G4.comp g5 side_nil).comp g6 (side_one (.inr np1)), m6, ?_, ?_, ?_, ?_, rfl⟩
        · rw [List.length_append, List.length_singleton]; omega
        · exact en6.snoc ⟨pe, x4, z4, rfl, g6.at hp5⟩
        · rw [ets, List.append_assoc]; rfl
        · rw [d1]; exact lr
    · rintro σ H2 ⟨F2, us, y1, y2, y3, y4, y5, G, mp, hul, en, rfl⟩
      have ok2 := G.fh
      walk_at "go"
      refine ⟨F2, t, _, rfl, G.fh, by omega, fun v F4 H4 g4 ⟨a4, x4, z4, ev4, ha4⟩ => ?_⟩
      subst ev4
      have G4 := G.comp g4 side_nil
      have ok4 := G4.fh
      have m4 := g4.mu nil_not mp
      walk_at "go"
      walk_at "ss"
      walk_at "go"
      refine k_new G4.fh fun pe F5 H5 g5 hp5 np5 => ?_
      have m5 := g5.mu nil_not m4
      walk_at "go"
      refine r_append m5.1 (by omega) (k_wr g5.fh m5 fun F6 H6 g6 m6 => ?_)
      walk_at "go"
      refine k_fz g6.fh m6 fun F7 g7 hp7 => ?_
      have G7 := ((G4.comp g5 side_nil).comp g6 (side_one (.inr np1))).comp g7 (side_one (.inr np1))
      refine k _ F7 _ G7 ⟨p, _, rfl, hp7, ?_⟩
      exact (((en.up g4.ff).up g5.ff).up g6.ff |>.up g7.ff).snoc ⟨pe, x4, z4, rfl, g7.at (g6.at hp5)⟩

end
section
variable {P : Program} {w : World} {K : PySem.W.Frag} {mg : Str → Option Value} {base : Heap}

def gFld (K : PySem.W.Frag) (to : TE) (f : Str) : TG := fun v σ H Q => to σ H fun x H2 => ∃ a C dx fs, x = V.ref a ∧ H2 a = some (.ins C dx fs) ∧ Cls K C ∧ NoAttr K C f ∧ fs.length < 1000 ∧ Q σ (upd H2 a (.ins C dx (putF f v fs)))
theorem pg_fld {X : Cx} {o : Expr} {to : TE} {f : Str} {pos : Pos} (ho : PE X o to) : PG X (.Attribute o f pos) (gFld X.K to f) := by
  refine ⟨fun pins s σ H v u Q I r h => ?_⟩
  rw [PySem.assign_Attribute]
  refine wpAny_bind (wpAny_holding (thn (ho.run pins s σ H _ I h) fun ov s1 ⟨x, H1, I1, rx, a, C, dx, fs, ex, ea, c, n, l, q⟩ => ?_))
  subst ex
  obtain rfl : ov = Value.ref a := rx
  refine wpAny_bind (wpAny_standAt (wpAny_bind (wpAny_holding (setattr_ok I1 ea c n l r fun s3 I3 => ?_))))
  exact wpAny_release ⟨σ, _, I3, q⟩
theorem r_gFld {σ : L2.St} {H : Hp} {to : TE} {f : Str} {v : V} {Q : L2.St → Hp → Prop} (q : to σ H fun x H2 => ∃ a C dx fs, x = V.ref a ∧ H2 a = some (.ins C dx fs) ∧ Cls K C ∧ NoAttr K C f ∧ fs.length < 1000 ∧ Q σ (upd H2 a (.ins C dx (putF f v fs)))) : gFld K to f v σ H Q := q
theorem r_make {σ : L2.St} {H : Hp} {Q : VK} {C : Addr} {sp : Sp} {dvs : List V} {E : XK} {t : TA} (q : t σ H fun vs H1 => ∀ x dx, H1 x = none → H1 dx = none → dx ≠ x →
  sp (.ref x :: (vs ++ dvs)) (upd (upd H1 dx (.own x)) x (.ins C dx [])) (fun v H2 => v = .non ∧ Q (.ref x) H2) E) : tMake C sp dvs E t σ H Q := q
theorem k_make {F H : Hp} {C : Addr} {A : Addr → Hp → Prop} (ok : Same F H) (k : ∀ x dx F' H', Grow [] F H F' H' → Mu F' H' x (.ins C dx []) → H x = none → A x H') : ∀ x dx, H x = none → H dx = none → dx ≠ x → A x (upd (upd H dx (.own x)) x (.ins C dx [])) := by
  intro x dx hx hd ne
  have g1 := mu_new (o := .own x) ok hd
  have hx1 : upd H dx (.own x) x = none := by rw [upd_ne (Ne.symm ne)]; exact hx
  have g2 := mu_new (o := .ins C dx []) g1.fh hx1
  exact k x dx _ _ (g1.comp g2 side_nil) ⟨upd_same, free_in g1.fh hx1⟩ hx
/-- the reader's object -/
def RdF (sg : Addr) (n : Nat) : List (Str × V) := [("signs", .ref sg), ("at", .int (n : Int))]
theorem rdf_none {sg : Addr} {n : Nat} {m : Str} (h : (m == ("signs" : Str)) = false ∧ (m == ("at" : Str)) = false) : (RdF sg n).lookup m = none := by
  unfold RdF
  simp only [List.lookup, h.1, h.2]
theorem rdf_signs {sg : Addr} {n : Nat} : (RdF sg n).lookup ("signs" : Str) = some (.ref sg) := by
  unfold RdF
  have e : (("signs" : Str) == ("signs" : Str)) = true := by decide +kernel
  simp only [List.lookup, e]
theorem rdf_at {sg : Addr} {n : Nat} : (RdF sg n).lookup ("at" : Str) = some (.int (n : Int)) := by
  unfold RdF
  have e : (("at" : Str) == ("signs" : Str)) = false := by decide +kernel
  have e2 : (("at" : Str) == ("at" : Str)) = true := by decide +kernel
  simp only [List.lookup, e, e2]
theorem rdf_put {sg : Addr} {n : Nat} {m : Int} (h : m = ((n + 1 : Nat) : Int)) : putF ("at" : Str) (.int m) (RdF sg n) = RdF sg (n + 1) := by
  subst h
  unfold RdF
  have e : (("signs" : Str) == ("at" : Str)) = false := by decide +kernel
  have e2 : (("at" : Str) == ("at" : Str)) = true := by decide +kernel
  have e3 : ¬ ("signs" : Str) = ("at" : Str) := by decide +kernel
  simp [putF, e, e2, e3]
theorem rdf_put2 {sg : Addr} : putF ("at" : Str) (.int 0) (putF ("signs" : Str) (.ref sg) []) = RdF sg 0 := by
  unfold RdF
  have e3 : ¬ ("signs" : Str) = ("at" : Str) := by decide +kernel
  have e : (("signs" : Str) == ("at" : Str)) = false := by decide +kernel
  simp [putF, e3, e]
abbrev RdC (K : PySem.W.Frag) : Addr := He.ga K "SignReader"
def Rd (K : PySem.W.Frag) (F H : Hp) (r : Addr) (ts : List Tok) : Prop := ∃ dx sg xs all n, Mu F H r (.ins (RdC K) dx (RdF sg n)) ∧ F sg = some (.lst xs) ∧ Ents F xs all ∧ all.drop n = ts
theorem Rd.grow {M : List Addr} {F H F' H' : Hp} {r : Addr} {ts : List Tok} (g : Grow M F H F' H') (n : r ∉ M) (h : Rd K F H r ts) : Rd K F' H' r ts :=
  let ⟨dx, sg, xs, all, k, m, a, e, d⟩ := h
  ⟨dx, sg, xs, all, k, g.mu n m, g.at a, e.up g.ff, d⟩
theorem Rd.ne {F H : Hp} {r p : Addr} {ts : List Tok} (h : Rd K F H r ts) (n : H p = none) : r ≠ p :=
  let ⟨_, _, _, _, _, m, _⟩ := h
  m.ne n
theorem Rd.neF {F H : Hp} {r p : Addr} {o : HO} {ts : List Tok} (h : Rd K F H r ts) (n : F p = some o) : r ≠ p := fun z => by
  obtain ⟨_, _, _, _, _, m, _⟩ := h
  rw [← z, m.2] at n
  cases n
theorem r_rdM {F H : Hp} {r : Addr} {ts : List Tok} {m : Str} {A : Prop} (h : Rd K F H r ts) (hm : (m == ("signs" : Str)) = false ∧ (m == ("at" : Str)) = false) (q : A) : ∃ a dx fs, V.ref r = V.ref a ∧ H a = some (.ins (RdC K) dx fs) ∧ fs.lookup m = none ∧ A :=
  let ⟨dx, _, _, _, _, mu, _⟩ := h
  ⟨r, dx, _, rfl, mu.1, rdf_none hm, q⟩
theorem Tok.nofault (t : Tok) : decide (V.str t.kind = V.str "fault") = false := by
  have h1 : decide (V.str "name" = V.str "fault") = false := by decide +kernel
  have h2 : decide (V.str "number" = V.str "fault") = false := by decide +kernel
  have h3 : decide (V.str "quoted" = V.str "fault") = false := by decide +kernel
  have h4 : decide (V.str "symbol" = V.str "fault") = false := by decide +kernel
  have h5 : decide (V.str "end" = V.str "fault") = false := by decide +kernel
  cases t
  · exact h1
  · exact h2
  · exact h3
  · exact h4
  · exact h5
def tokIs (t : Tok) (k z : Str) : Bool := decide (V.str t.kind = V.str k) && decide (t.val = V.str z)
theorem Txt.rC (T : Txt K mg) : Cls K (RdC K) := T.cls 87 rfl
theorem Txt.rS (T : Txt K mg) : NoAttr K (RdC K) "signs" := T.noat 106 rfl
theorem Txt.rA (T : Txt K mg) : NoAttr K (RdC K) "at" := T.noat 107 rfl
theorem scal_val (t : Tok) (z : Str) : scal t.val (.str z) = true := by cases t <;> rfl
def sp_SignReader_init (K : PySem.W.Frag) : Sp := fun vs H Q _ => ∃ (F : Hp) (r dx sg : Addr), vs = [.ref r, .ref sg] ∧ Same F H ∧ Mu F H r (.ins (RdC K) dx []) ∧ ∀ (F' H' : Hp), Grow [r] F H F' H' → Mu F' H' r (.ins (RdC K) dx (RdF sg 0)) → Q .non H'
abbrev N_SignReader_init : List Str := ["self", "signs"]
theorem sc_SignReader_init : FnScope N_SignReader_init ["self", "signs"] (defScope s_SignReader_init) := ⟨rfl, rfl, rfl, by decide +kernel, rfl, by decide +kernel, by decide +kernel⟩
theorem ok_SignReader_init (T : Txt K mg) : OkI P w K mg base 1 "SignReader" ["self", "signs"] (sp_SignReader_init K) := by
  refine T.okI 29 88 78 rfl rfl rfl (d := d_SignReader_init) sc_SignReader_init (fun _ _ _ _ _ _ us hl => match us, hl with | [_, _], _ => rfl) (fun vs H Q E h => ?_) (fun cdv A outer s H vs Q E hr h => ?_)
  · obtain ⟨_, _, _, _, rfl, _⟩ := h
    rfl
  · refine ⟨_, PSs.nox (pss_cons (ps_fld (pv 0) (pv 1) rfl)
      (pss_one (ps_fld (pv 0) pe_int rfl))), ?_⟩
    obtain ⟨F, r, dx, sg, rfl, ok, m, k⟩ := h
    walk_at "go"
    refine ⟨r, _, dx, _, rfl, m.1, T.rC, T.rS, by decide, ?_⟩
    have g1 := mu_wr (u := .ins (RdC K) dx (putF "signs" (.ref sg) [])) ok m
    have m1 : Mu F (upd H r (.ins (RdC K) dx (putF "signs" (.ref sg) []))) r (.ins (RdC K) dx (putF "signs" (.ref sg) [])) := ⟨upd_same, m.2⟩
    walk_at "go"
    refine ⟨r, _, dx, _, rfl, m1.1, T.rC, T.rA, (by show 1 < 1000; decide), ?_⟩
    walk_at "go"
    have g2 := mu_wr (u := .ins (RdC K) dx (putF "at" (.int 0) (putF "signs" (.ref sg) []))) g1.fh m1
    refine k F _ (g1.comp g2 (side_one (.inl (List.mem_singleton.mpr rfl)))) ?_
    rw [rdf_put2]
    exact ⟨upd_same, m.2⟩

def sp_SignReader_sign (K : PySem.W.Frag) : Sp := fun vs H Q _ => ∃ (F : Hp) (r : Addr) (t : Tok) (ts : List Tok), vs = [.ref r] ∧ Same F H ∧ Rd K F H r (t :: ts) ∧ ∀ v, EntAt F v t → Q v H
abbrev N_SignReader_sign : List Str := ["self", "entry"]
theorem sc_SignReader_sign : FnScope N_SignReader_sign ["self"] (defScope s_SignReader_sign) := ⟨rfl, rfl, rfl, by decide +kernel, rfl, by decide +kernel, by decide +kernel⟩
theorem ok_SignReader_sign (T : Txt K mg) : OkM P w K mg base 1 "SignReader" "sign" ["self"] (sp_SignReader_sign K) := by
  refine T.okM 30 108 rfl rfl (d := d_SignReader_sign) sc_SignReader_sign (fun _ _ _ _ _ _ us hl => match us, hl with | [_], _ => rfl) (fun vs H Q E h => ?_) (fun cdv A outer s H vs Q E hr h => ?_)
  · obtain ⟨_, _, _, _, rfl, _⟩ := h
    rfl
  · refine ⟨_, PSs.nox (pss_cons (ps_set (i := 1) sc_SignReader_sign.nd rfl (Or.inl rfl) (pe_ix ix_list (pe_fld (pv 0) rfl) (pe_fld (pv 0) rfl) (fun _ _ => rfl)))
      (pss_cons (ps_if (pt_cmpR op_eq (pe_ix ix_tup (pv 1) pe_int (fun _ _ => rfl)) pe_str (nomark _))
        pss_never
        pss_nil)
      (pss_one (ps_ret (pv 1))))), ?_⟩
    obtain ⟨F, r, t, ts, rfl, ok, ⟨dx, sg, xs, all, n, m, hsg, en, dr⟩, k⟩ := h
    obtain ⟨v, hv, ea⟩ := en.at dr
    obtain ⟨a, i, j, rfl, ha⟩ := id ea
    walk_at "go"
    refine r_fldV m.1 T.rC T.rS rdf_signs ?_
    walk_at "go"
    refine r_fldV m.1 T.rC T.rA rdf_at ?_
    refine r_ixL (n := n) (sql_fz ok hsg) rfl hv ?_
    walk_at "go"
    walk_at "ss"
    walk_at "go"
    refine r_iteF t.nofault ?_
    walk_at "go"
    exact k _ ea

def sp_SignReader_skip (K : PySem.W.Frag) : Sp := fun vs H Q _ => ∃ (F : Hp) (r : Addr) (t : Tok) (ts : List Tok), vs = [.ref r] ∧ Same F H ∧ Rd K F H r (t :: ts) ∧ ∀ (F' H' : Hp), Grow [r] F H F' H' → Rd K F' H' r ts → Q .non H'
abbrev N_SignReader_skip : List Str := ["self"]
theorem sc_SignReader_skip : FnScope N_SignReader_skip ["self"] (defScope s_SignReader_skip) := ⟨rfl, rfl, rfl, by decide +kernel, rfl, by decide +kernel, by decide +kernel⟩
theorem ok_SignReader_skip (T : Txt K mg) : OkM P w K mg base 1 "SignReader" "skip" ["self"] (sp_SignReader_skip K) := by
  refine T.okM 31 109 rfl rfl (d := d_SignReader_skip) sc_SignReader_skip (fun _ _ _ _ _ _ us hl => match us, hl with | [_], _ => rfl) (fun vs H Q E h => ?_) (fun cdv A outer s H vs Q E hr h => ?_)
  · obtain ⟨_, _, _, _, rfl, _⟩ := h
    rfl
  · refine ⟨_, PSs.nox (pss_one (ps_fldaug (pv 0) pe_int in_add)), ?_⟩
    obtain ⟨F, r, t, ts, rfl, ok, ⟨dx, sg, xs, all, n, m, hsg, en, dr⟩, k⟩ := h
    walk_at "go"
    refine ⟨r, _, dx, _, _, rfl, m.1, T.rC, T.rA, rdf_at, ?_⟩
    walk_at "go"
    refine ⟨_, _, rfl, rfl, ?_⟩
    refine ⟨dx, _, m.1, (by show 2 < 1000; decide), ?_⟩
    walk_at "go"
    rw [rdf_put (n := n) (by omega)]
    exact k F _ (mu_wr ok m) ⟨dx, sg, xs, all, n + 1, ⟨upd_same, m.2⟩, hsg, en, (drop_get dr).2.2⟩

section
variable {F H : Hp} {r : Addr} {t : Tok} {ts : List Tok} {σ : L2.St} {Q : VK} {E : XK}
theorem x_sign (rd : Rd K F H r (t :: ts)) (ok : Same F H) (q : ∀ v, EntAt F v t → Q v H) : ∃ a dx fs, V.ref r = V.ref a ∧ H a = some (.ins (RdC K) dx fs) ∧ fs.lookup ("sign" : Str) = none ∧ tNil σ H fun vs H2 => sp_SignReader_sign K (.ref r :: (vs ++ [])) H2 Q E :=
  r_rdM rd (by decide +kernel) ⟨F, r, t, ts, rfl, ok, rd, q⟩
theorem x_skip (rd : Rd K F H r (t :: ts)) (ok : Same F H) (q : ∀ F' H', Grow [r] F H F' H' → Rd K F' H' r ts → Q .non H') : ∃ a dx fs, V.ref r = V.ref a ∧ H a = some (.ins (RdC K) dx fs) ∧ fs.lookup ("skip" : Str) = none ∧ tNil σ H fun vs H2 => sp_SignReader_skip K (.ref r :: (vs ++ [])) H2 Q E :=
  r_rdM rd (by decide +kernel) ⟨F, r, t, ts, rfl, ok, rd, q⟩
end
def sp_SignReader_sees (K : PySem.W.Frag) : Sp := fun vs H Q _ => ∃ (F : Hp) (r : Addr) (t : Tok) (ts : List Tok) (k z : Str), vs = [.ref r, .str k, .str z] ∧ Same F H ∧ Rd K F H r (t :: ts) ∧ Q (.bl (tokIs t k z)) H
abbrev N_SignReader_sees : List Str := ["self", "kind", "value", "entry"]
theorem sc_SignReader_sees : FnScope N_SignReader_sees ["self", "kind", "value"] (defScope s_SignReader_sees) := ⟨rfl, rfl, rfl, by decide +kernel, rfl, by decide +kernel, by decide +kernel⟩
theorem ok_SignReader_sees (T : Txt K mg) : OkM P w K mg base 2 "SignReader" "sees" ["self", "kind", "value"] (sp_SignReader_sees K) := by
  obtain ⟨f_SignReader_sign, fd_SignReader_sign, G_SignReader_sign, m_SignReader_sign, b_SignReader_sign⟩ := ok_SignReader_sign (P := P) (w := w) (base := base) T
  have cl_SignReader : Cls K (He.ga K "SignReader") := T.cls 87 rfl
  refine T.okM 32 110 rfl rfl (d := d_SignReader_sees) sc_SignReader_sees (fun _ _ _ _ _ _ us hl => match us, hl with | [_, _, _], _ => rfl) (fun vs H Q E h => ?_) (fun cdv A outer s H vs Q E hr h => ?_)
  · obtain ⟨_, _, _, _, _, _, rfl, _⟩ := h
    rfl
  · refine ⟨_, PSs.nox (pss_cons (ps_set (i := 3) sc_SignReader_sees.nd rfl (Or.inl rfl) (pe_meth0 (pv 0) cl_SignReader m_SignReader_sign G_SignReader_sign (hr.mono (by decide)) b_SignReader_sign .nil pass0))
      (pss_one (ps_ret (pe_and (pe_cmpR op_eq (pe_ix ix_tup (pv 3) pe_int (fun _ _ => rfl)) (pv 1) (nomark _)) (pe_one (pe_cmpR op_eq (pe_ix ix_tup (pv 3) pe_int (fun _ _ => rfl)) (pv 2) (nomark _))))))), ?_⟩
    obtain ⟨F, r, t, ts, kd, z, rfl, ok, rd, k⟩ := h
    walk_at "go"
    refine x_sign rd ok fun v ⟨a, i, j, ev, ha⟩ => ?_
    subst ev
    walk_at "go"
    walk_at "ss"
    walk_at "go"
    unfold tokIs at k
    refine r_ite (fun c => ?_) (fun c => ?_)
    · rw [c, Bool.true_and] at k
      walk_at "go"
      refine r_eq (scal_val t z) ?_
      exact k
    · rw [c, Bool.false_and] at k
      exact k

def sp_SignReader_demand (K : PySem.W.Frag) : Sp := fun vs H Q _ => ∃ (F : Hp) (r : Addr) (t : Tok) (ts : List Tok), vs = [.ref r, .str t.kind] ∧ Same F H ∧ Rd K F H r (t :: ts) ∧ Q t.val H
abbrev N_SignReader_demand : List Str := ["self", "kind", "entry"]
theorem sc_SignReader_demand : FnScope N_SignReader_demand ["self", "kind"] (defScope s_SignReader_demand) := ⟨rfl, rfl, rfl, by decide +kernel, rfl, by decide +kernel, by decide +kernel⟩
theorem ok_SignReader_demand (T : Txt K mg) : OkM P w K mg base 2 "SignReader" "demand" ["self", "kind"] (sp_SignReader_demand K) := by
  obtain ⟨f_SignReader_sign, fd_SignReader_sign, G_SignReader_sign, m_SignReader_sign, b_SignReader_sign⟩ := ok_SignReader_sign (P := P) (w := w) (base := base) T
  have cl_SignReader : Cls K (He.ga K "SignReader") := T.cls 87 rfl
  refine T.okM 33 111 rfl rfl (d := d_SignReader_demand) sc_SignReader_demand (fun _ _ _ _ _ _ us hl => match us, hl with | [_, _], _ => rfl) (fun vs H Q E h => ?_) (fun cdv A outer s H vs Q E hr h => ?_)
  · obtain ⟨_, _, _, _, rfl, _⟩ := h
    rfl
  · refine ⟨_, PSs.nox (pss_cons (ps_set (i := 2) sc_SignReader_demand.nd rfl (Or.inl rfl) (pe_meth0 (pv 0) cl_SignReader m_SignReader_sign G_SignReader_sign (hr.mono (by decide)) b_SignReader_sign .nil pass0))
      (pss_cons (ps_if (pt_cmpR op_ne (pe_ix ix_tup (pv 2) pe_int (fun _ _ => rfl)) (pv 1) (nomark _))
        pss_never
        pss_nil)
      (pss_one (ps_ret (pe_ix ix_tup (pv 2) pe_int (fun _ _ => rfl)))))), ?_⟩
    obtain ⟨F, r, t, ts, rfl, ok, rd, k⟩ := h
    walk_at "go"
    refine x_sign rd ok fun v ⟨a, i, j, ev, ha⟩ => ?_
    subst ev
    walk_at "go"
    walk_at "ss"
    walk_at "go"
    refine r_iteF (by rw [decide_eq_true rfl]; rfl) ?_
    walk_at "go"
    exact k

section
variable {F H : Hp} {r : Addr} {t : Tok} {ts : List Tok} {σ : L2.St} {Q : VK} {E : XK} {k z : Str} {i j : Nat}
theorem x_sees (rd : Rd K F H r (t :: ts)) (ok : Same F H) (q : Q (.bl (tokIs t k z)) H) : ∃ a dx fs, V.ref r = V.ref a ∧ H a = some (.ins (RdC K) dx fs) ∧ fs.lookup ("sees" : Str) = none ∧ tCons (tC (.str k)) (tCons (tC (.str z)) tNil) σ H fun vs H2 => sp_SignReader_sees K (.ref r :: (vs ++ [])) H2 Q E :=
  r_rdM rd (by decide +kernel) ⟨F, r, t, ts, k, z, rfl, ok, rd, q⟩
theorem x_demand (rd : Rd K F H r (t :: ts)) (ok : Same F H) (ek : t.kind = k) (q : Q t.val H) : ∃ a dx fs, V.ref r = V.ref a ∧ H a = some (.ins (RdC K) dx fs) ∧ fs.lookup ("demand" : Str) = none ∧ tCons (tC (.str k)) tNil σ H fun vs H2 => sp_SignReader_demand K (.ref r :: (vs ++ [])) H2 Q E :=
  r_rdM rd (by decide +kernel) (by subst ek; exact ⟨F, r, t, ts, rfl, ok, rd, q⟩)
end
def sp_SignReader_take (K : PySem.W.Frag) : Sp := fun vs H Q _ => ∃ (F : Hp) (r : Addr) (t : Tok) (ts : List Tok) (k z : Str), vs = [.ref r, .str k, .str z] ∧ Same F H ∧ Rd K F H r (t :: ts) ∧ tokIs t k z = true ∧ ∀ (F' H' : Hp), Grow [r] F H F' H' → Rd K F' H' r ts → Q .non H'
abbrev N_SignReader_take : List Str := ["self", "kind", "value"]
theorem sc_SignReader_take : FnScope N_SignReader_take ["self", "kind", "value"] (defScope s_SignReader_take) := ⟨rfl, rfl, rfl, by decide +kernel, rfl, by decide +kernel, by decide +kernel⟩
theorem ok_SignReader_take (T : Txt K mg) : OkM P w K mg base 3 "SignReader" "take" ["self", "kind", "value"] (sp_SignReader_take K) := by
  obtain ⟨f_SignReader_sees, fd_SignReader_sees, G_SignReader_sees, m_SignReader_sees, b_SignReader_sees⟩ := ok_SignReader_sees (P := P) (w := w) (base := base) T
  obtain ⟨f_SignReader_skip, fd_SignReader_skip, G_SignReader_skip, m_SignReader_skip, b_SignReader_skip⟩ := ok_SignReader_skip (P := P) (w := w) (base := base) T
  have cl_SignReader : Cls K (He.ga K "SignReader") := T.cls 87 rfl
  refine T.okM 34 112 rfl rfl (d := d_SignReader_take) sc_SignReader_take (fun _ _ _ _ _ _ us hl => match us, hl with | [_, _, _], _ => rfl) (fun vs H Q E h => ?_) (fun cdv A outer s H vs Q E hr h => ?_)
  · obtain ⟨_, _, _, _, _, _, rfl, _⟩ := h
    rfl
  · refine ⟨_, PSs.nox (pss_cons (ps_if (pt_not (pt_val (pe_meth (pv 0) cl_SignReader m_SignReader_sees G_SignReader_sees (hr.mono (by decide)) b_SignReader_sees .nil pass0 (pa_cons (pv 1) (pa_cons (pv 2) pa_nil)))))
        pss_never
        pss_nil)
      (pss_one (ps_expr (pe_meth0 (pv 0) cl_SignReader m_SignReader_skip G_SignReader_skip (hr.mono (by decide)) b_SignReader_skip .nil pass0)))), ?_⟩
    obtain ⟨F, r, t, ts, kd, z, rfl, ok, rd, hk, k⟩ := h
    walk_at "go"
    refine r_rdM rd (by decide +kernel) ?_
    walk_at "go"
    refine ⟨F, r, t, ts, kd, z, rfl, ok, rd, ?_⟩
    rw [hk]
    walk_at "go"
    refine r_iteF rfl ?_
    walk_at "go"
    refine x_skip rd ok fun F1 H1 g1 rd1 => ?_
    walk_at "go"
    exact k F1 H1 g1 rd1

def sp_SignReader_take_number (K : PySem.W.Frag) : Sp := fun vs H Q _ => ∃ (F : Hp) (r : Addr) (n l : Nat) (ts : List Tok), vs = [.ref r, .int (l : Int)] ∧ Same F H ∧ Rd K F H r (.num n :: ts) ∧ l ≤ n ∧ ∀ (F' H' : Hp), Grow [r] F H F' H' → Rd K F' H' r ts → Q (.int (n : Int)) H'
abbrev N_SignReader_take_number : List Str := ["self", "least", "number"]
theorem sc_SignReader_take_number : FnScope N_SignReader_take_number ["self", "least"] (defScope s_SignReader_take_number) := ⟨rfl, rfl, rfl, by decide +kernel, rfl, by decide +kernel, by decide +kernel⟩
theorem ok_SignReader_take_number (T : Txt K mg) : OkM P w K mg base 3 "SignReader" "take_number" ["self", "least"] (sp_SignReader_take_number K) := by
  obtain ⟨f_SignReader_demand, fd_SignReader_demand, G_SignReader_demand, m_SignReader_demand, b_SignReader_demand⟩ := ok_SignReader_demand (P := P) (w := w) (base := base) T
  obtain ⟨f_SignReader_skip, fd_SignReader_skip, G_SignReader_skip, m_SignReader_skip, b_SignReader_skip⟩ := ok_SignReader_skip (P := P) (w := w) (base := base) T
  have cl_SignReader : Cls K (He.ga K "SignReader") := T.cls 87 rfl
  refine T.okM 35 113 rfl rfl (d := d_SignReader_take_number) sc_SignReader_take_number (fun _ _ _ _ _ _ us hl => match us, hl with | [_, _], _ => rfl) (fun vs H Q E h => ?_) (fun cdv A outer s H vs Q E hr h => ?_)
  · obtain ⟨_, _, _, _, _, rfl, _⟩ := h
    rfl
  · refine ⟨_, PSs.nox (pss_cons (ps_set (i := 2) sc_SignReader_take_number.nd rfl (Or.inl rfl) (pe_meth (pv 0) cl_SignReader m_SignReader_demand G_SignReader_demand (hr.mono (by decide)) b_SignReader_demand .nil pass0 (pa_cons pe_str pa_nil)))
      (pss_cons (ps_if (pt_cmpR op_lt (pv 2) (pv 1) (nomark _))
        pss_never
        pss_nil)
      (pss_cons (ps_expr (pe_meth0 (pv 0) cl_SignReader m_SignReader_skip G_SignReader_skip (hr.mono (by decide)) b_SignReader_skip .nil pass0))
      (pss_one (ps_ret (pv 2)))))), ?_⟩
    obtain ⟨F, r, n, l, ts, rfl, ok, rd, hk, k⟩ := h
    walk_at "go"
    refine x_demand rd ok rfl ?_
    walk_at "go"
    walk_at "ss"
    have en : (Tok.num n).val = .int (n : Int) := rfl
    rw [en]
    walk_at "go"
    refine r_iteF (decide_eq_false (by omega)) ?_
    walk_at "go"
    refine x_skip rd ok fun F1 H1 g1 rd1 => ?_
    walk_at "go"
    exact k F1 H1 g1 rd1

def sp_SignReader_take_second (K : PySem.W.Frag) : Sp := fun vs H Q _ => ∃ (F : Hp) (r : Addr) (n l : Nat) (ts : List Tok), vs = [.ref r, .int (l : Int)] ∧ Same F H ∧ Rd K F H r (.num n :: ts) ∧ l ≤ n ∧ ∀ (F' H' : Hp), Grow [r] F H F' H' → Rd K F' H' r ts → Q (.int (n : Int)) H'
abbrev N_SignReader_take_second : List Str := ["self", "first", "number"]
theorem sc_SignReader_take_second : FnScope N_SignReader_take_second ["self", "first"] (defScope s_SignReader_take_second) := ⟨rfl, rfl, rfl, by decide +kernel, rfl, by decide +kernel, by decide +kernel⟩
theorem ok_SignReader_take_second (T : Txt K mg) : OkM P w K mg base 3 "SignReader" "take_second" ["self", "first"] (sp_SignReader_take_second K) := by
  obtain ⟨f_SignReader_demand, fd_SignReader_demand, G_SignReader_demand, m_SignReader_demand, b_SignReader_demand⟩ := ok_SignReader_demand (P := P) (w := w) (base := base) T
  obtain ⟨f_SignReader_skip, fd_SignReader_skip, G_SignReader_skip, m_SignReader_skip, b_SignReader_skip⟩ := ok_SignReader_skip (P := P) (w := w) (base := base) T
  have cl_SignReader : Cls K (He.ga K "SignReader") := T.cls 87 rfl
  refine T.okM 36 114 rfl rfl (d := d_SignReader_take_second) sc_SignReader_take_second (fun _ _ _ _ _ _ us hl => match us, hl with | [_, _], _ => rfl) (fun vs H Q E h => ?_) (fun cdv A outer s H vs Q E hr h => ?_)
  · obtain ⟨_, _, _, _, _, rfl, _⟩ := h
    rfl
  · refine ⟨_, PSs.nox (pss_cons (ps_set (i := 2) sc_SignReader_take_second.nd rfl (Or.inl rfl) (pe_meth (pv 0) cl_SignReader m_SignReader_demand G_SignReader_demand (hr.mono (by decide)) b_SignReader_demand .nil pass0 (pa_cons pe_str pa_nil)))
      (pss_cons (ps_if (pt_cmpR op_lt (pv 2) (pv 1) (nomark _))
        pss_never
        pss_nil)
      (pss_cons (ps_expr (pe_meth0 (pv 0) cl_SignReader m_SignReader_skip G_SignReader_skip (hr.mono (by decide)) b_SignReader_skip .nil pass0))
      (pss_one (ps_ret (pv 2)))))), ?_⟩
    obtain ⟨F, r, n, l, ts, rfl, ok, rd, hk, k⟩ := h
    walk_at "go"
    refine x_demand rd ok rfl ?_
    walk_at "go"
    walk_at "ss"
    have en : (Tok.num n).val = .int (n : Int) := rfl
    rw [en]
    walk_at "go"
    refine r_iteF (decide_eq_false (by omega)) ?_
    walk_at "go"
    refine x_skip rd ok fun F1 H1 g1 rd1 => ?_
    walk_at "go"
    exact k F1 H1 g1 rd1

def sp_SignReader_look_character (K : PySem.W.Frag) : Sp := fun vs H Q _ => ∃ (F : Hp) (r : Addr) (c : Nat) (ts : List Tok), vs = [.ref r] ∧ Same F H ∧ Rd K F H r (.quo [c] :: ts) ∧ Q (.str (S [c])) H
abbrev N_SignReader_look_character : List Str := ["self", "text"]
theorem sc_SignReader_look_character : FnScope N_SignReader_look_character ["self"] (defScope s_SignReader_look_character) := ⟨rfl, rfl, rfl, by decide +kernel, rfl, by decide +kernel, by decide +kernel⟩
theorem ok_SignReader_look_character (T : Txt K mg) : OkM P w K mg base 3 "SignReader" "look_character" ["self"] (sp_SignReader_look_character K) := by
  have m_len : mg "len" = none := T.free 68 rfl
  obtain ⟨f_SignReader_demand, fd_SignReader_demand, G_SignReader_demand, m_SignReader_demand, b_SignReader_demand⟩ := ok_SignReader_demand (P := P) (w := w) (base := base) T
  have cl_SignReader : Cls K (He.ga K "SignReader") := T.cls 87 rfl
  refine T.okM 37 115 rfl rfl (d := d_SignReader_look_character) sc_SignReader_look_character (fun _ _ _ _ _ _ us hl => match us, hl with | [_], _ => rfl) (fun vs H Q E h => ?_) (fun cdv A outer s H vs Q E hr h => ?_)
  · obtain ⟨_, _, _, _, rfl, _⟩ := h
    rfl
  · refine ⟨_, PSs.nox (pss_cons (ps_set (i := 1) sc_SignReader_look_character.nd rfl (Or.inl rfl) (pe_meth (pv 0) cl_SignReader m_SignReader_demand G_SignReader_demand (hr.mono (by decide)) b_SignReader_demand .nil pass0 (pa_cons pe_str pa_nil)))
      (pss_cons (ps_if (pt_cmpR op_ne (pe_callB cr_lenS (by rfl) m_len PySem.boot_len (pa_cons (pv 1) pa_nil)) pe_int (nomark _))
        pss_never
        pss_nil)
      (pss_one (ps_ret (pv 1))))), ?_⟩
    obtain ⟨F, r, c, ts, rfl, ok, rd, k⟩ := h
    walk_at "go"
    refine x_demand rd ok rfl ?_
    walk_at "go"
    walk_at "ss"
    have en : (Tok.quo [c]).val = .str (S [c]) := rfl
    rw [en]
    walk_at "go"
    refine r_lenSS (w := [c]) (by show 1 ≤ 16777216; decide) ?_
    walk_at "go"
    refine r_iteF (by rw [decide_eq_true (show V.int (([c] : List Nat).length : Int) = V.int 1 from rfl)]; rfl) ?_
    walk_at "go"
    exact k

def sp_SignReader_look_word (K : PySem.W.Frag) : Sp := fun vs H Q _ => ∃ (F : Hp) (r : Addr) (l : List Nat) (ts : List Tok), vs = [.ref r] ∧ Same F H ∧ Rd K F H r (.quo l :: ts) ∧ wordC l ∧ l.length ≤ 1000000 ∧ Q (.str (S l)) H
abbrev N_SignReader_look_word : List Str := ["self", "text"]
theorem sc_SignReader_look_word : FnScope N_SignReader_look_word ["self"] (defScope s_SignReader_look_word) := ⟨rfl, rfl, rfl, by decide +kernel, rfl, by decide +kernel, by decide +kernel⟩
theorem ok_SignReader_look_word (T : Txt K mg) : OkM P w K mg base 3 "SignReader" "look_word" ["self"] (sp_SignReader_look_word K) := by
  obtain ⟨f_SignReader_demand, fd_SignReader_demand, G_SignReader_demand, m_SignReader_demand, b_SignReader_demand⟩ := ok_SignReader_demand (P := P) (w := w) (base := base) T
  obtain ⟨f_is_word, fd_is_word, G_is_word, mg_is_word, kp_is_word, b_is_word⟩ := ok_is_word (P := P) (w := w) (base := base) T
  have cl_SignReader : Cls K (He.ga K "SignReader") := T.cls 87 rfl
  refine T.okM 38 116 rfl rfl (d := d_SignReader_look_word) sc_SignReader_look_word (fun _ _ _ _ _ _ us hl => match us, hl with | [_], _ => rfl) (fun vs H Q E h => ?_) (fun cdv A outer s H vs Q E hr h => ?_)
  · obtain ⟨_, _, _, _, rfl, _⟩ := h
    rfl
  · refine ⟨_, PSs.nox (pss_cons (ps_set (i := 1) sc_SignReader_look_word.nd rfl (Or.inl rfl) (pe_meth (pv 0) cl_SignReader m_SignReader_demand G_SignReader_demand (hr.mono (by decide)) b_SignReader_demand .nil pass0 (pa_cons pe_str pa_nil)))
      (pss_cons (ps_if (pt_not (pt_val (pe_call G_is_word (hr.mono (by decide)) rfl mg_is_word kp_is_word b_is_word .nil pass0 (pa_cons (pv 1) pa_nil))))
        pss_never
        pss_nil)
      (pss_one (ps_ret (pv 1))))), ?_⟩
    obtain ⟨F, r, l, ts, rfl, ok, rd, hw, hl, k⟩ := h
    walk_at "go"
    refine x_demand rd ok rfl ?_
    walk_at "go"
    walk_at "ss"
    have en : (Tok.quo l).val = .str (S l) := rfl
    rw [en]
    walk_at "go"
    refine ⟨l, rfl, hl, hw, ?_⟩
    walk_at "go"
    refine r_iteF rfl ?_
    walk_at "go"
    exact k

section
variable {F H : Hp} {r : Addr} {t : Tok} {ts : List Tok} {σ : L2.St} {Q : VK} {E : XK} {k z : Str}
theorem x_take (rd : Rd K F H r (t :: ts)) (ok : Same F H) (hk : tokIs t k z = true) (q : ∀ F' H', Grow [r] F H F' H' → Rd K F' H' r ts → Q .non H') : ∃ a dx fs, V.ref r = V.ref a ∧ H a = some (.ins (RdC K) dx fs) ∧ fs.lookup ("take" : Str) = none ∧ tCons (tC (.str k)) (tCons (tC (.str z)) tNil) σ H fun vs H2 => sp_SignReader_take K (.ref r :: (vs ++ [])) H2 Q E :=
  r_rdM rd (by decide +kernel) ⟨F, r, t, ts, k, z, rfl, ok, rd, hk, q⟩
theorem x_num {n l : Nat} {i : Int} (rd : Rd K F H r (.num n :: ts)) (ok : Same F H) (ei : i = (l : Int)) (hl : l ≤ n) (q : ∀ F' H', Grow [r] F H F' H' → Rd K F' H' r ts → Q (.int (n : Int)) H') : ∃ a dx fs, V.ref r = V.ref a ∧ H a = some (.ins (RdC K) dx fs) ∧ fs.lookup ("take_number" : Str) = none ∧ tCons (tC (.int i)) tNil σ H fun vs H2 => sp_SignReader_take_number K (.ref r :: (vs ++ [])) H2 Q E :=
  r_rdM rd (by decide +kernel) (by subst ei; exact ⟨F, r, n, l, ts, rfl, ok, rd, hl, q⟩)
theorem x_lookc {c : Nat} (rd : Rd K F H r (.quo [c] :: ts)) (ok : Same F H) (q : Q (.str (S [c])) H) : ∃ a dx fs, V.ref r = V.ref a ∧ H a = some (.ins (RdC K) dx fs) ∧ fs.lookup ("look_character" : Str) = none ∧ tNil σ H fun vs H2 => sp_SignReader_look_character K (.ref r :: (vs ++ [])) H2 Q E :=
  r_rdM rd (by decide +kernel) ⟨F, r, c, ts, rfl, ok, rd, q⟩
theorem x_lookw {l : List Nat} (rd : Rd K F H r (.quo l :: ts)) (ok : Same F H) (hw : wordC l) (hl : l.length ≤ 1000000) (q : Q (.str (S l)) H) : ∃ a dx fs, V.ref r = V.ref a ∧ H a = some (.ins (RdC K) dx fs) ∧ fs.lookup ("look_word" : Str) = none ∧ tNil σ H fun vs H2 => sp_SignReader_look_word K (.ref r :: (vs ++ [])) H2 Q E :=
  r_rdM rd (by decide +kernel) ⟨F, r, l, ts, rfl, ok, rd, hw, hl, q⟩
end
end
/-! ### the signs of the rules' text -/
def kw (z : Str) : Tok := .nm (tl z)
def kindT : Kind → Tok
  | .letter => kw "letter"
  | .digit => kw "digit"
  | .any => kw "any"
  | .ch c => .quo [c]
def elemT (e : Elem) : List Tok := kindT e.1 :: (if e.2.1 ≠ e.2.2 then [.num e.2.1, kw "to", .num e.2.2] else if e.2.1 ≠ 1 then [.num e.2.1] else [])
def sepT : List (List Tok) → List Tok
  | [] => []
  | x :: r => x ++ r.flatMap fun y => .sym 44 :: y
def shapeT (s : Shape) : List Tok := sepT (s.map elemT)
def srcT : List Tok := [kw "sources", kw "s", .num 1, .sym 59]
def chgT (c : Chg) : List Tok := [kw "change", .quo [c.1], kw "to", .quo c.2, .sym 59]
def banT : List (List Nat) → List Tok
  | [] => []
  | w :: l => kw "ban" :: .quo w :: (l.flatMap (fun w => [.sym 44, .quo w]) ++ [.sym 59])
def linesT (R : Ru) : List Tok :=
  if 0 < R.lineWords then
    if 0 < R.lineDocs then [kw "lines", kw "least", .num R.lineWords, .sym 44, kw "common", .num R.lineDocs, .sym 59]
    else [kw "lines", kw "least", .num R.lineWords, .sym 59]
  else if 0 < R.lineDocs then [kw "lines", kw "common", .num R.lineDocs, .sym 59] else []
def hidT (s : Shape) : List Tok := kw "hide" :: (shapeT s ++ [.sym 59])
def mrkT (R : Ru) : List Tok := [kw "mark", .quo R.mark, .sym 59, kw "documents", kw "least", .num R.docWords, .sym 59]
def shrT (s : Shape × Nat × Nat) : List Tok := kw "share" :: (shapeT s.1 ++ [.sym 58, .num s.2.1, kw "of", .num s.2.2, .sym 59])
def alkT : List Tok := [kw "alike", .num 1, kw "of", .num 2, .sym 44, kw "runs", kw "of", .num 3, .sym 59]
def endT : List Tok := [kw "phrases", .num 4, .sym 59, kw "pieces", kw "least", .num 2, .sym 59, kw "joins", .num 5, .sym 59, kw "pages", .num 8, .sym 59, kw "volumes", .num 2, .sym 59]
def toks (R : Ru) : List Tok := srcT ++ (R.changes.flatMap chgT ++ (banT R.banned ++ (linesT R ++ (R.hidden.flatMap hidT ++ (mrkT R ++ (R.shares.flatMap shrT ++ (alkT ++ endT)))))))
/-- the next sign is not that word -/
def NotKw (z : Str) (ts : List Tok) : Prop := ∃ t us, ts = t :: us ∧ tokIs t "name" z = false
theorem ti_num_name {n : Nat} {z : Str} : tokIs (.num n) "name" z = false := by
  have h : decide (V.str "number" = V.str "name") = false := by decide +kernel
  show (decide (V.str "number" = V.str "name") && _) = false
  rw [h]
  rfl
theorem tk_num_name {n : Nat} : decide (V.str (Tok.kind (.num n)) = V.str "name") = false := by
  have h : decide (V.str "number" = V.str "name") = false := by decide +kernel
  exact h
theorem ti_num_symbol {n : Nat} {z : Str} : tokIs (.num n) "symbol" z = false := by
  have h : decide (V.str "number" = V.str "symbol") = false := by decide +kernel
  show (decide (V.str "number" = V.str "symbol") && _) = false
  rw [h]
  rfl
theorem tk_num_symbol {n : Nat} : decide (V.str (Tok.kind (.num n)) = V.str "symbol") = false := by
  have h : decide (V.str "number" = V.str "symbol") = false := by decide +kernel
  exact h
theorem ti_num_quoted {n : Nat} {z : Str} : tokIs (.num n) "quoted" z = false := by
  have h : decide (V.str "number" = V.str "quoted") = false := by decide +kernel
  show (decide (V.str "number" = V.str "quoted") && _) = false
  rw [h]
  rfl
theorem tk_num_quoted {n : Nat} : decide (V.str (Tok.kind (.num n)) = V.str "quoted") = false := by
  have h : decide (V.str "number" = V.str "quoted") = false := by decide +kernel
  exact h
theorem ti_quo_name {l : List Nat} {z : Str} : tokIs (.quo l) "name" z = false := by
  have h : decide (V.str "quoted" = V.str "name") = false := by decide +kernel
  show (decide (V.str "quoted" = V.str "name") && _) = false
  rw [h]
  rfl
theorem tk_quo_name {l : List Nat} : decide (V.str (Tok.kind (.quo l)) = V.str "name") = false := by
  have h : decide (V.str "quoted" = V.str "name") = false := by decide +kernel
  exact h
theorem ti_quo_symbol {l : List Nat} {z : Str} : tokIs (.quo l) "symbol" z = false := by
  have h : decide (V.str "quoted" = V.str "symbol") = false := by decide +kernel
  show (decide (V.str "quoted" = V.str "symbol") && _) = false
  rw [h]
  rfl
theorem tk_quo_symbol {l : List Nat} : decide (V.str (Tok.kind (.quo l)) = V.str "symbol") = false := by
  have h : decide (V.str "quoted" = V.str "symbol") = false := by decide +kernel
  exact h
theorem ti_quo_number {l : List Nat} {z : Str} : tokIs (.quo l) "number" z = false := by
  have h : decide (V.str "quoted" = V.str "number") = false := by decide +kernel
  show (decide (V.str "quoted" = V.str "number") && _) = false
  rw [h]
  rfl
theorem tk_quo_number {l : List Nat} : decide (V.str (Tok.kind (.quo l)) = V.str "number") = false := by
  have h : decide (V.str "quoted" = V.str "number") = false := by decide +kernel
  exact h
theorem ti_sym_name {c : Nat} {z : Str} : tokIs (.sym c) "name" z = false := by
  have h : decide (V.str "symbol" = V.str "name") = false := by decide +kernel
  show (decide (V.str "symbol" = V.str "name") && _) = false
  rw [h]
  rfl
theorem tk_sym_name {c : Nat} : decide (V.str (Tok.kind (.sym c)) = V.str "name") = false := by
  have h : decide (V.str "symbol" = V.str "name") = false := by decide +kernel
  exact h
theorem ti_sym_number {c : Nat} {z : Str} : tokIs (.sym c) "number" z = false := by
  have h : decide (V.str "symbol" = V.str "number") = false := by decide +kernel
  show (decide (V.str "symbol" = V.str "number") && _) = false
  rw [h]
  rfl
theorem tk_sym_number {c : Nat} : decide (V.str (Tok.kind (.sym c)) = V.str "number") = false := by
  have h : decide (V.str "symbol" = V.str "number") = false := by decide +kernel
  exact h
theorem ti_sym_quoted {c : Nat} {z : Str} : tokIs (.sym c) "quoted" z = false := by
  have h : decide (V.str "symbol" = V.str "quoted") = false := by decide +kernel
  show (decide (V.str "symbol" = V.str "quoted") && _) = false
  rw [h]
  rfl
theorem tk_sym_quoted {c : Nat} : decide (V.str (Tok.kind (.sym c)) = V.str "quoted") = false := by
  have h : decide (V.str "symbol" = V.str "quoted") = false := by decide +kernel
  exact h
theorem ti_nm_symbol {l : List Nat} {z : Str} : tokIs (.nm l) "symbol" z = false := by
  have h : decide (V.str "name" = V.str "symbol") = false := by decide +kernel
  show (decide (V.str "name" = V.str "symbol") && _) = false
  rw [h]
  rfl
theorem tk_nm_symbol {l : List Nat} : decide (V.str (Tok.kind (.nm l)) = V.str "symbol") = false := by
  have h : decide (V.str "name" = V.str "symbol") = false := by decide +kernel
  exact h
theorem ti_nm_number {l : List Nat} {z : Str} : tokIs (.nm l) "number" z = false := by
  have h : decide (V.str "name" = V.str "number") = false := by decide +kernel
  show (decide (V.str "name" = V.str "number") && _) = false
  rw [h]
  rfl
theorem tk_nm_number {l : List Nat} : decide (V.str (Tok.kind (.nm l)) = V.str "number") = false := by
  have h : decide (V.str "name" = V.str "number") = false := by decide +kernel
  exact h
theorem ti_nm_quoted {l : List Nat} {z : Str} : tokIs (.nm l) "quoted" z = false := by
  have h : decide (V.str "name" = V.str "quoted") = false := by decide +kernel
  show (decide (V.str "name" = V.str "quoted") && _) = false
  rw [h]
  rfl
theorem tk_nm_quoted {l : List Nat} : decide (V.str (Tok.kind (.nm l)) = V.str "quoted") = false := by
  have h : decide (V.str "name" = V.str "quoted") = false := by decide +kernel
  exact h
theorem ti_sym {c d : Nat} {z : Str} (e : z = S [d]) : tokIs (.sym c) "symbol" z = decide (c = d) := by
  show (decide (V.str "symbol" = V.str "symbol") && decide (V.str ⟨#[c]⟩ = V.str z)) = _
  rw [decide_eq_true rfl, Bool.true_and, eq_one e]
theorem comma_str : ("," : Str) = S [44] := by decide +kernel
theorem semi_str : (";" : Str) = S [59] := by decide +kernel
theorem colon_str : (":" : Str) = S [58] := by decide +kernel
theorem notKw_kw {z y : Str} {us : List Tok} (h : tokIs (kw y) "name" z = false) : NotKw z (kw y :: us) := ⟨_, _, rfl, h⟩
theorem notKw_ban {z : Str} {l : List (List Nat)} {us : List Tok} (h : tokIs (kw "ban") "name" z = false) (q : NotKw z us) : NotKw z (banT l ++ us) := by
  cases l with
  | nil => exact q
  | cons w l => exact ⟨_, _, rfl, h⟩
theorem notKw_lines {z : Str} {R : Ru} {us : List Tok} (h : tokIs (kw "lines") "name" z = false) (q : NotKw z us) : NotKw z (linesT R ++ us) := by
  unfold linesT
  split
  · split
    · exact ⟨_, _, rfl, h⟩
    · exact ⟨_, _, rfl, h⟩
  · split
    · exact ⟨_, _, rfl, h⟩
    · exact q
theorem notKw_flat {α : Type} {f : α → List Tok} {z y : Str} {l : List α} {us : List Tok} (hf : ∀ x, ∃ u, f x = kw y :: u) (h : tokIs (kw y) "name" z = false) (q : NotKw z us) : NotKw z (l.flatMap f ++ us) := by
  cases l with
  | nil => exact q
  | cons x l =>
    obtain ⟨u, e⟩ := hf x
    rw [List.flatMap_cons, e]
    exact ⟨_, _, rfl, h⟩

section
variable {P : Program} {w : World} {K : PySem.W.Frag} {mg : Str → Option Value} {base : Heap}

/-- the promise of a reader of a part: the signs of the part are taken, the value is what they say -/
def RdR (K : PySem.W.Frag) (P : List Tok → List Tok → Prop) (d : PyData) : Sp := fun vs H Q _ => ∃ (F : Hp) (r : Addr) (ts us : List Tok), vs = [.ref r] ∧ Same F H ∧ Rd K F H r ts ∧ P ts us ∧
  ∀ (v : V) (F' H' : Hp), Grow [r] F H F' H' → Rd K F' H' r us → Rp F' v d → Q v H'
theorem rr {r : Addr} {P : Addr → Prop} : ∀ a ∈ [r], a ∈ [r] ∨ P a := fun a z => .inl z
def sp_read_sources (K : PySem.W.Frag) : Sp := fun vs H Q _ => ∃ (F : Hp) (r : Addr) (us : List Tok), vs = [.ref r] ∧ Same F H ∧ Rd K F H r (srcT ++ us) ∧
  ∀ (v : V) (F' H' : Hp), Grow [r] F H F' H' → Rd K F' H' r us → Rp F' v encSources → Q v H'
abbrev N_read_sources : List Str := ["reader", "names", "sources", "more", "name"]
theorem sc_read_sources : FnScope N_read_sources ["reader"] (defScope s_read_sources) := ⟨rfl, rfl, rfl, by decide +kernel, rfl, by decide +kernel, by decide +kernel⟩
theorem ok_read_sources (T : Txt K mg) : OkG P w K mg base 4 "_read_sources" ["reader"] (sp_read_sources K) := by
  have m_RESERVED : mg "RESERVED" = some (.ref (He.ga K "RESERVED")) := T.glo 79 rfl
  obtain ⟨f_SignReader_take, fd_SignReader_take, G_SignReader_take, m_SignReader_take, b_SignReader_take⟩ := ok_SignReader_take (P := P) (w := w) (base := base) T
  obtain ⟨f_SignReader_demand, fd_SignReader_demand, G_SignReader_demand, m_SignReader_demand, b_SignReader_demand⟩ := ok_SignReader_demand (P := P) (w := w) (base := base) T
  obtain ⟨f_SignReader_skip, fd_SignReader_skip, G_SignReader_skip, m_SignReader_skip, b_SignReader_skip⟩ := ok_SignReader_skip (P := P) (w := w) (base := base) T
  obtain ⟨f_SignReader_take_number, fd_SignReader_take_number, G_SignReader_take_number, m_SignReader_take_number, b_SignReader_take_number⟩ := ok_SignReader_take_number (P := P) (w := w) (base := base) T
  obtain ⟨f_SignReader_sees, fd_SignReader_sees, G_SignReader_sees, m_SignReader_sees, b_SignReader_sees⟩ := ok_SignReader_sees (P := P) (w := w) (base := base) T
  have cl_SignReader : Cls K (He.ga K "SignReader") := T.cls 87 rfl
  refine T.okG 39 28 rfl rfl (d := d_read_sources) sc_read_sources (fun _ _ _ _ _ _ us hl => match us, hl with | [_], _ => rfl) (fun vs H Q E h => ?_) (fun cdv A outer s H vs Q E hr h => ?_)
  · obtain ⟨_, _, _, rfl, _⟩ := h
    rfl
  · refine ⟨_, PSs.nox (pss_cons (ps_expr (pe_meth (pv 0) cl_SignReader m_SignReader_take G_SignReader_take (hr.mono (by decide)) b_SignReader_take .nil pass0 (pa_cons pe_str (pa_cons pe_str pa_nil))))
      (pss_cons (ps_set (i := 1) sc_read_sources.nd rfl (Or.inl rfl) (pe_lst pa_nil))
      (pss_cons (ps_set (i := 2) sc_read_sources.nd rfl (Or.inl rfl) (pe_lst pa_nil))
      (pss_cons (ps_set (i := 3) sc_read_sources.nd rfl (Or.inl rfl) pe_bl)
      (pss_cons (ps_while PassesOwn.never (pt_val (pv 3))
        (pss_cons (ps_set (i := 4) sc_read_sources.nd rfl (Or.inl rfl) (pe_meth (pv 0) cl_SignReader m_SignReader_demand G_SignReader_demand (hr.mono (by decide)) b_SignReader_demand .nil pass0 (pa_cons pe_str pa_nil)))
        (pss_cons (ps_if (pt_cmpR op_in_seq (pv 4) (pe_gR (by rfl) m_RESERVED) (by rfl))
          pss_never
          pss_nil)
        (pss_cons (ps_if (pt_cmpR op_in_seq (pv 4) (pv 1) (by rfl))
          pss_never
          pss_nil)
        (pss_cons (ps_expr (pe_meth0 (pv 0) cl_SignReader m_SignReader_skip G_SignReader_skip (hr.mono (by decide)) b_SignReader_skip .nil pass0))
        (pss_cons (ps_expr (pe_bm PySem.F.plainAttrs_list PySem.F.slot_list_append PySem.F.type_list_append mt_append (pv 1) (pa_cons (pv 4) pa_nil)))
        (pss_cons (ps_expr (pe_bm PySem.F.plainAttrs_list PySem.F.slot_list_append PySem.F.type_list_append mt_append (pv 2) (pa_cons (pe_tup (pa_cons (pv 4) (pa_cons (pe_meth (pv 0) cl_SignReader m_SignReader_take_number G_SignReader_take_number (hr.mono (by decide)) b_SignReader_take_number .nil pass0 (pa_cons pe_int pa_nil)) pa_nil))) pa_nil)))
        (pss_cons (ps_set (i := 3) sc_read_sources.nd rfl (Or.inl rfl) (pe_meth (pv 0) cl_SignReader m_SignReader_sees G_SignReader_sees (hr.mono (by decide)) b_SignReader_sees .nil pass0 (pa_cons pe_str (pa_cons pe_str pa_nil))))
        (pss_one (ps_if (pt_val (pv 3))
          (pss_one (ps_expr (pe_meth0 (pv 0) cl_SignReader m_SignReader_skip G_SignReader_skip (hr.mono (by decide)) b_SignReader_skip .nil pass0)))
          pss_nil))))))))))
      (pss_cons (ps_expr (pe_meth (pv 0) cl_SignReader m_SignReader_take G_SignReader_take (hr.mono (by decide)) b_SignReader_take .nil pass0 (pa_cons pe_str (pa_cons pe_str pa_nil))))
      (pss_one (ps_ret (pv 2))))))))), ?_⟩
    obtain ⟨F, r, us, rfl, ok, rd, k⟩ := h
    have rd : Rd K F H r (kw "sources" :: kw "s" :: .num 1 :: .sym 59 :: us) := rd
    walk_at "go"
    refine x_take rd ok (by decide +kernel) fun F1 H1 g1 rd1 => ?_
    walk_at "go"
    refine k_mu g1.fh fun p F2 H2 g2 mp2 np2 => ?_
    have G2 := g1.comp g2 side_nil
    have rd2 := rd1.grow g2 nil_not
    walk_at "go"
    walk_at "ss"
    walk_at "go"
    refine k_mu g2.fh fun q F3 H3 g3 mq3 nq3 => ?_
    have G3 := G2.comp g3 side_nil
    have rd3 := rd2.grow g3 nil_not
    have mp3 := g3.mu nil_not mp2
    have nep := rd1.ne np2
    have neq := rd2.ne nq3
    have pq : p ≠ q := mp2.ne nq3
    have np0 := g1.back np2
    have np0 : H p = none := np0.resolve_left fun z => nep (List.mem_singleton.mp z).symm
    have nq0 : H q = none := (G2.back nq3).resolve_left fun z => neq (List.mem_singleton.mp z).symm
    walk_at "go"
    walk_at "ss"
    walk_at "go"
    walk_at "ss"
    let Fin : L2.St → Hp → Prop := fun σ H' => ∃ (F' : Hp) (z : V) (y : Option V), Grow [r] F H F' H' ∧ Rd K F' H' r (.sym 59 :: us) ∧ Mu F' H' q (.lst [z]) ∧ Rp F' z (.tuple [.str "s", .int 1]) ∧ σ = [some (.ref r), some (.ref p), some (.ref q), some (.bl false), y]
    refine loopWG Fin (fun m σ H' => (m = 1 ∧ H' = H3 ∧ σ = [some (.ref r), some (.ref p), some (.ref q), some (.bl true), none]) ∨ (m = 0 ∧ Fin σ H')) 1 (.inl ⟨rfl, rfl, rfl⟩) ?_ ?_
    · rintro nx hnx m σ H' (⟨rfl, rfl, rfl⟩ | ⟨rfl, F4, z, y, G4, rd4, m4, rz, rfl⟩)
      · walk_at "go"
        refine r_whN ?_
        walk_at "go"
        refine x_demand rd3 g3.fh rfl ?_
        walk_at "go"
        walk_at "ss"
        have ev : (kw "s").val = V.str "s" := by decide +kernel
        rw [ev]
        walk_at "go"
        refine r_inT (T.res _) rfl rfl ?_
        have e1 : inV (.str "s") (resV.map (He.Dv.v K)) = false := by kernel_rfl
        rw [e1]
        walk_at "go"
        refine r_inL (sql_mu mp3) rfl rfl ?_
        have e2 : inV (.str "s") [] = false := rfl
        rw [e2]
        walk_at "go"
        refine x_skip rd3 g3.fh fun F4 H4 g4 rd4 => ?_
        have G4 := G3.comp g4 rr
        have mp4 := g4.mu (one_not nep.symm) mp3
        have mq4 := g4.mu (one_not neq.symm) mq3
        walk_at "go"
        refine r_append mp4.1 (by decide) (k_wr g4.fh mp4 fun F5 H5 g5 mp5 => ?_)
        have G5 := G4.comp g5 (side_one (.inr np0))
        have rd5 := rd4.grow g5 (one_not nep)
        have mq5 := g5.mu (one_not pq.symm) mq4
        walk_at "go"
        refine x_num rd5 g5.fh (l := 1) rfl (Nat.le_refl _) fun F6 H6 g6 rd6 => ?_
        have G6 := G5.comp g6 rr
        have mq6 := g6.mu (one_not neq.symm) mq5
        walk_at "go"
        refine k_new g6.fh fun pt F7 H7 g7 hp7 np7 => ?_
        have G7 := G6.comp g7 side_nil
        have rd7 := rd6.grow g7 nil_not
        have mq7 := g7.mu nil_not mq6
        walk_at "go"
        refine r_append mq7.1 (by decide) (k_wr g7.fh mq7 fun F8 H8 g8 mq8 => ?_)
        have G8 := G7.comp g8 (side_one (.inr nq0))
        have rd8 := rd7.grow g8 (one_not neq)
        walk_at "go"
        refine x_sees rd8 g8.fh ?_
        walk_at "go"
        walk_at "ss"
        rw [ti_sym comma_str]
        walk_at "go"
        refine r_iteF (by decide) ?_
        walk_at "go"
        exact ⟨0, by decide, .inr ⟨rfl, F8, .ref pt, _, G8, rd8, mq8, .tup (g8.at hp7) (.cons (.str _) (.cons (.int _) .nil)), rfl⟩⟩
      · walk_at "go"
        exact hnx _ _ ⟨F4, z, y, G4, rd4, m4, rz, rfl⟩
    · rintro σ H' ⟨F4, z, y, G4, rd4, m4, rz, rfl⟩
      walk_at "go"
      refine x_take rd4 G4.fh (by decide +kernel) fun F5 H5 g5 rd5 => ?_
      have m5 := g5.mu (one_not neq.symm) m4
      walk_at "go"
      refine k_fz g5.fh m5 fun F6 g6 hq6 => ?_
      exact k _ F6 H5 ((G4.comp g5 rr).comp g6 (side_one (.inr nq0))) (rd5.grow g6 (one_not neq)) (.lst hq6 (.one (g6.rp (g5.rp rz))))

def sp_read_changes (K : PySem.W.Frag) : Sp := fun vs H Q _ => ∃ (F : Hp) (r : Addr) (cs : List Chg) (us : List Tok), vs = [.ref r] ∧ Same F H ∧ Rd K F H r (cs.flatMap chgT ++ us) ∧ NotKw "change" us ∧ cs.length ≤ 1000 ∧ (cs.map fun x => x.1).Nodup ∧
  ∀ (v : V) (F' H' : Hp), Grow [r] F H F' H' → Rd K F' H' r us → Rp F' v (encCs cs) → Q v H'
abbrev N_read_changes : List Str := ["reader", "chars", "changes", "char", "text"]
theorem sc_read_changes : FnScope N_read_changes ["reader"] (defScope s_read_changes) := ⟨rfl, rfl, rfl, by decide +kernel, rfl, by decide +kernel, by decide +kernel⟩
theorem ok_read_changes (T : Txt K mg) : OkG P w K mg base 4 "_read_changes" ["reader"] (sp_read_changes K) := by
  obtain ⟨f_SignReader_sees, fd_SignReader_sees, G_SignReader_sees, m_SignReader_sees, b_SignReader_sees⟩ := ok_SignReader_sees (P := P) (w := w) (base := base) T
  obtain ⟨f_SignReader_skip, fd_SignReader_skip, G_SignReader_skip, m_SignReader_skip, b_SignReader_skip⟩ := ok_SignReader_skip (P := P) (w := w) (base := base) T
  obtain ⟨f_SignReader_look_character, fd_SignReader_look_character, G_SignReader_look_character, m_SignReader_look_character, b_SignReader_look_character⟩ := ok_SignReader_look_character (P := P) (w := w) (base := base) T
  obtain ⟨f_SignReader_take, fd_SignReader_take, G_SignReader_take, m_SignReader_take, b_SignReader_take⟩ := ok_SignReader_take (P := P) (w := w) (base := base) T
  obtain ⟨f_SignReader_demand, fd_SignReader_demand, G_SignReader_demand, m_SignReader_demand, b_SignReader_demand⟩ := ok_SignReader_demand (P := P) (w := w) (base := base) T
  have cl_SignReader : Cls K (He.ga K "SignReader") := T.cls 87 rfl
  refine T.okG 40 29 rfl rfl (d := d_read_changes) sc_read_changes (fun _ _ _ _ _ _ us hl => match us, hl with | [_], _ => rfl) (fun vs H Q E h => ?_) (fun cdv A outer s H vs Q E hr h => ?_)
  · obtain ⟨_, _, _, _, rfl, _⟩ := h
    rfl
  · refine ⟨_, PSs.nox (pss_cons (ps_set (i := 1) sc_read_changes.nd rfl (Or.inl rfl) (pe_lst pa_nil))
      (pss_cons (ps_set (i := 2) sc_read_changes.nd rfl (Or.inl rfl) (pe_lst pa_nil))
      (pss_cons (ps_while PassesOwn.never (pt_val (pe_meth (pv 0) cl_SignReader m_SignReader_sees G_SignReader_sees (hr.mono (by decide)) b_SignReader_sees .nil pass0 (pa_cons pe_str (pa_cons pe_str pa_nil))))
        (pss_cons (ps_expr (pe_meth0 (pv 0) cl_SignReader m_SignReader_skip G_SignReader_skip (hr.mono (by decide)) b_SignReader_skip .nil pass0))
        (pss_cons (ps_set (i := 3) sc_read_changes.nd rfl (Or.inl rfl) (pe_meth0 (pv 0) cl_SignReader m_SignReader_look_character G_SignReader_look_character (hr.mono (by decide)) b_SignReader_look_character .nil pass0))
        (pss_cons (ps_if (pt_cmpR op_in_seq (pv 3) (pv 1) (by rfl))
          pss_never
          pss_nil)
        (pss_cons (ps_expr (pe_meth0 (pv 0) cl_SignReader m_SignReader_skip G_SignReader_skip (hr.mono (by decide)) b_SignReader_skip .nil pass0))
        (pss_cons (ps_expr (pe_meth (pv 0) cl_SignReader m_SignReader_take G_SignReader_take (hr.mono (by decide)) b_SignReader_take .nil pass0 (pa_cons pe_str (pa_cons pe_str pa_nil))))
        (pss_cons (ps_set (i := 4) sc_read_changes.nd rfl (Or.inl rfl) (pe_meth (pv 0) cl_SignReader m_SignReader_demand G_SignReader_demand (hr.mono (by decide)) b_SignReader_demand .nil pass0 (pa_cons pe_str pa_nil)))
        (pss_cons (ps_expr (pe_meth0 (pv 0) cl_SignReader m_SignReader_skip G_SignReader_skip (hr.mono (by decide)) b_SignReader_skip .nil pass0))
        (pss_cons (ps_expr (pe_meth (pv 0) cl_SignReader m_SignReader_take G_SignReader_take (hr.mono (by decide)) b_SignReader_take .nil pass0 (pa_cons pe_str (pa_cons pe_str pa_nil))))
        (pss_cons (ps_expr (pe_bm PySem.F.plainAttrs_list PySem.F.slot_list_append PySem.F.type_list_append mt_append (pv 1) (pa_cons (pv 3) pa_nil)))
        (pss_one (ps_expr (pe_bm PySem.F.plainAttrs_list PySem.F.slot_list_append PySem.F.type_list_append mt_append (pv 2) (pa_cons (pe_tup (pa_cons (pv 3) (pa_cons (pv 4) pa_nil))) pa_nil))))))))))))))
      (pss_one (ps_ret (pv 2)))))), ?_⟩
    obtain ⟨F, r, cs, us, rfl, ok, rd, ⟨t0, us0, eu, nk⟩, hl, hnd, k⟩ := h
    walk_at "go"
    refine k_mu ok fun p F2 H2 g2 mp2 np2 => ?_
    have rd2 := rd.grow g2 nil_not
    walk_at "go"
    walk_at "ss"
    walk_at "go"
    refine k_mu g2.fh fun q F3 H3 g3 mq3 nq3 => ?_
    have G3 := g2.comp g3 side_nil
    have rd3 := rd2.grow g3 nil_not
    have mp3 := g3.mu nil_not mp2
    have nep := rd.ne np2
    have neq := rd2.ne nq3
    have pq : p ≠ q := mp2.ne nq3
    have nq0 : H q = none := g2.back0 nq3
    walk_at "go"
    walk_at "ss"
    refine loopWG (fun σ H' => ∃ (F' : Hp) (zs : List V) (y1 y2 : Option V), Grow [r] F H F' H' ∧ Rd K F' H' r us ∧ Mu F' H' q (.lst zs) ∧ Rps F' zs (cs.map encC) ∧ σ = [some (.ref r), some (.ref p), some (.ref q), y1, y2])
      (fun m σ H' => ∃ (F' : Hp) (zs : List V) (i : Nat) (y1 y2 : Option V), i ≤ cs.length ∧ m = cs.length - i ∧ Grow [r] F H F' H' ∧ Rd K F' H' r ((cs.drop i).flatMap chgT ++ us) ∧ Mu F' H' p (.lst (((cs.take i).map fun c => [c.1]).map fun x => V.str (S x))) ∧ Mu F' H' q (.lst zs) ∧ Rps F' zs ((cs.take i).map encC) ∧
        σ = [some (.ref r), some (.ref p), some (.ref q), y1, y2]) cs.length ⟨F3, [], 0, none, none, Nat.zero_le _, rfl, G3.mono (by simp), rd3, mp3, mq3, .nil, rfl⟩ ?_ ?_
    · rintro nx hnx m σ H' ⟨F4, zs, i, y1, y2, hi, rfl, G4, rd4, mp4, mq4, rz, rfl⟩
      walk_at "go"
      cases hq : cs.drop i with
      | nil =>
        rw [hq] at rd4
        have hil := drop_end hq hi
        subst hil
        rw [List.take_length] at rz
        have rd4 : Rd K F4 H' r us := rd4
        refine x_sees (t := t0) (ts := us0) (eu ▸ rd4) G4.fh ?_
        rw [nk]
        walk_at "go"
        exact hnx _ _ ⟨F4, zs, _, _, G4, rd4, mq4, rz, rfl⟩
      | cons c l =>
        obtain ⟨hci, hlt, hdr⟩ := drop_get hq
        rw [hq] at rd4
        have rd4 : Rd K F4 H' r (kw "change" :: .quo [c.1] :: kw "to" :: .quo c.2 :: .sym 59 :: (l.flatMap chgT ++ us)) := rd4
        refine x_sees rd4 G4.fh ?_
        have e0 : tokIs (kw "change") "name" "change" = true := by decide +kernel
        rw [e0]
        walk_at "go"
        refine r_whN ?_
        walk_at "go"
        refine x_skip rd4 G4.fh fun F5 H5 g5 rd5 => ?_
        have mp5 := g5.mu (one_not nep.symm) mp4
        have mq5 := g5.mu (one_not neq.symm) mq4
        walk_at "go"
        refine x_lookc rd5 g5.fh ?_
        walk_at "go"
        walk_at "ss"
        walk_at "go"
        refine r_inL (sql_mu mp5) rfl (flat_strs _) ?_
        rw [inV_strs]
        have enc : decide ([c.1] ∈ (cs.take i).map fun c => [c.1]) = false := decide_eq_false fun z => by
          obtain ⟨c2, hc2, e2⟩ := List.mem_map.mp z
          injection e2 with e2 _
          have e3 : cs = cs.take i ++ (c :: cs.drop (i + 1)) := by
            rw [hdr, ← hq, List.take_append_drop]
          rw [e3, List.map_append, List.map_cons] at hnd
          have := (List.nodup_append.mp hnd).2.2
          exact this c2.1 (List.mem_map.mpr ⟨c2, hc2, rfl⟩) c.1 List.mem_cons_self e2
        rw [enc]
        walk_at "go"
        refine x_skip rd5 g5.fh fun F6 H6 g6 rd6 => ?_
        have mp6 := g6.mu (one_not nep.symm) mp5
        have mq6 := g6.mu (one_not neq.symm) mq5
        walk_at "go"
        refine x_take rd6 g6.fh (by decide +kernel) fun F7 H7 g7 rd7 => ?_
        have mp7 := g7.mu (one_not nep.symm) mp6
        have mq7 := g7.mu (one_not neq.symm) mq6
        walk_at "go"
        refine x_demand rd7 g7.fh rfl ?_
        walk_at "go"
        walk_at "ss"
        walk_at "go"
        refine x_skip rd7 g7.fh fun F8 H8 g8 rd8 => ?_
        have mp8 := g8.mu (one_not nep.symm) mp7
        have mq8 := g8.mu (one_not neq.symm) mq7
        walk_at "go"
        refine x_take rd8 g8.fh (by rw [ti_sym semi_str]; rfl) fun F9 H9 g9 rd9 => ?_
        have mp9 := g9.mu (one_not nep.symm) mp8
        have mq9 := g9.mu (one_not neq.symm) mq8
        have G9 := ((((G4.comp g5 rr).comp g6 rr).comp g7 rr).comp g8 rr).comp g9 rr
        have rz9 := g9.rps (g8.rps (g7.rps (g6.rps (g5.rps rz))))
        walk_at "go"
        refine r_append mp9.1 (by rw [List.length_map, List.length_map, List.length_take]; omega) (k_wr g9.fh mp9 fun Fa Ha ga mpa => ?_)
        have Ga := G9.comp ga (side_one (.inr np2))
        have rda := rd9.grow ga (one_not nep)
        have mqa := ga.mu (one_not pq.symm) mq9
        walk_at "go"
        refine k_new ga.fh fun pt Fb Hb gb hpb npb => ?_
        have rdb := rda.grow gb nil_not
        have mqb := gb.mu nil_not mqa
        have mpb := gb.mu nil_not mpa
        walk_at "go"
        refine r_append mqb.1 ?_ (k_wr gb.fh mqb fun Fc Hc gc mqc => ?_)
        · rw [rz9.len_map, List.length_take]
          omega
        walk_at "go"
        refine ⟨cs.length - (i + 1), by omega, Fc, _, i + 1, _, _, by omega, rfl, (Ga.comp gb side_nil).comp gc (side_one (.inr nq0)), ?_, ?_, mqc, ?_, rfl⟩
        · rw [hdr]
          exact rdb.grow gc (one_not neq)
        · rw [take_more hci, List.map_append, List.map_append]
          exact gc.mu (one_not pq) mpb
        · rw [take_more hci, List.map_append]
          exact (gc.rps (gb.rps (ga.rps rz9))).snoc (.tup (gc.at hpb) (.cons (.str _) (.cons (.str _) .nil)))
    · rintro σ H' ⟨F4, zs, y1, y2, G4, rd4, mq4, rz, rfl⟩
      walk_at "go"
      refine k_fz G4.fh mq4 fun F6 g6 hq6 => ?_
      exact k _ F6 H' (G4.comp g6 (side_one (.inr nq0))) (rd4.grow g6 (one_not neq)) (.lst hq6 (g6.rps rz))

def sp_read_banned (K : PySem.W.Frag) : Sp := fun vs H Q _ => ∃ (F : Hp) (r : Addr) (l : List (List Nat)) (us : List Tok), vs = [.ref r] ∧ Same F H ∧ Rd K F H r (banT l ++ us) ∧ NotKw "ban" us ∧ l.length ≤ 1000 ∧ (∀ w ∈ l, w.length ≤ 1000 ∧ wordC w) ∧
  ∀ (v : V) (F' H' : Hp), Grow [r] F H F' H' → Rd K F' H' r us → Rp F' v (encStrs l) → Q v H'
abbrev N_read_banned : List Str := ["reader", "banned", "more"]
theorem sc_read_banned : FnScope N_read_banned ["reader"] (defScope s_read_banned) := ⟨rfl, rfl, rfl, by decide +kernel, rfl, by decide +kernel, by decide +kernel⟩
theorem ok_read_banned (T : Txt K mg) : OkG P w K mg base 4 "_read_banned" ["reader"] (sp_read_banned K) := by
  obtain ⟨f_SignReader_sees, fd_SignReader_sees, G_SignReader_sees, m_SignReader_sees, b_SignReader_sees⟩ := ok_SignReader_sees (P := P) (w := w) (base := base) T
  obtain ⟨f_SignReader_skip, fd_SignReader_skip, G_SignReader_skip, m_SignReader_skip, b_SignReader_skip⟩ := ok_SignReader_skip (P := P) (w := w) (base := base) T
  obtain ⟨f_SignReader_look_word, fd_SignReader_look_word, G_SignReader_look_word, m_SignReader_look_word, b_SignReader_look_word⟩ := ok_SignReader_look_word (P := P) (w := w) (base := base) T
  obtain ⟨f_SignReader_take, fd_SignReader_take, G_SignReader_take, m_SignReader_take, b_SignReader_take⟩ := ok_SignReader_take (P := P) (w := w) (base := base) T
  have cl_SignReader : Cls K (He.ga K "SignReader") := T.cls 87 rfl
  refine T.okG 41 30 rfl rfl (d := d_read_banned) sc_read_banned (fun _ _ _ _ _ _ us hl => match us, hl with | [_], _ => rfl) (fun vs H Q E h => ?_) (fun cdv A outer s H vs Q E hr h => ?_)
  · obtain ⟨_, _, _, _, rfl, _⟩ := h
    rfl
  · refine ⟨_, PSs.nox (pss_cons (ps_set (i := 1) sc_read_banned.nd rfl (Or.inl rfl) (pe_lst pa_nil))
      (pss_cons (ps_if (pt_not (pt_val (pe_meth (pv 0) cl_SignReader m_SignReader_sees G_SignReader_sees (hr.mono (by decide)) b_SignReader_sees .nil pass0 (pa_cons pe_str (pa_cons pe_str pa_nil)))))
        (pss_one (ps_ret (pv 1)))
        pss_nil)
      (pss_cons (ps_set (i := 2) sc_read_banned.nd rfl (Or.inl rfl) pe_bl)
      (pss_cons (ps_while PassesOwn.never (pt_val (pv 2))
        (pss_cons (ps_expr (pe_meth0 (pv 0) cl_SignReader m_SignReader_skip G_SignReader_skip (hr.mono (by decide)) b_SignReader_skip .nil pass0))
        (pss_cons (ps_expr (pe_bm PySem.F.plainAttrs_list PySem.F.slot_list_append PySem.F.type_list_append mt_append (pv 1) (pa_cons (pe_meth0 (pv 0) cl_SignReader m_SignReader_look_word G_SignReader_look_word (hr.mono (by decide)) b_SignReader_look_word .nil pass0) pa_nil)))
        (pss_cons (ps_expr (pe_meth0 (pv 0) cl_SignReader m_SignReader_skip G_SignReader_skip (hr.mono (by decide)) b_SignReader_skip .nil pass0))
        (pss_one (ps_set (i := 2) sc_read_banned.nd rfl (Or.inl rfl) (pe_meth (pv 0) cl_SignReader m_SignReader_sees G_SignReader_sees (hr.mono (by decide)) b_SignReader_sees .nil pass0 (pa_cons pe_str (pa_cons pe_str pa_nil)))))))))
      (pss_cons (ps_expr (pe_meth (pv 0) cl_SignReader m_SignReader_take G_SignReader_take (hr.mono (by decide)) b_SignReader_take .nil pass0 (pa_cons pe_str (pa_cons pe_str pa_nil))))
      (pss_one (ps_ret (pv 1)))))))), ?_⟩
    obtain ⟨F, r, l, us, rfl, ok, rd, ⟨t0, us0, eu, nk⟩, hl, hw, k⟩ := h
    walk_at "go"
    refine k_mu ok fun p F2 H2 g2 mp2 np2 => ?_
    have rd2 := rd.grow g2 nil_not
    have nep := rd.ne np2
    walk_at "go"
    walk_at "ss"
    cases l with
    | nil =>
      have rd2 : Rd K F2 H2 r us := rd2
      refine x_sees (t := t0) (ts := us0) (eu ▸ rd2) g2.fh ?_
      rw [nk]
      walk_at "go"
      refine r_iteT rfl ?_
      walk_at "go"
      refine k_fz g2.fh mp2 fun F6 g6 hq6 => ?_
      exact k _ F6 H2 ((g2.comp g6 (side_one (.inr np2))).mono (by simp)) (rd2.grow g6 (one_not nep)) (.lst hq6 .nil)
    | cons w0 l =>
      have rd2 : Rd K F2 H2 r (kw "ban" :: .quo w0 :: ((l.flatMap (fun w => [.sym 44, .quo w]) ++ [.sym 59]) ++ us)) := rd2
      refine x_sees rd2 g2.fh ?_
      have e0 : tokIs (kw "ban") "name" "ban" = true := by decide +kernel
      rw [e0]
      walk_at "go"
      walk_at "ss"
      let Fin : L2.St → Hp → Prop := fun σ H' => ∃ (F' : Hp), Grow [r] F H F' H' ∧ Rd K F' H' r (.sym 59 :: us) ∧ Mu F' H' p (.lst ((w0 :: l).map fun x => V.str (S x))) ∧ σ = [some (.ref r), some (.ref p), some (.bl false)]
      refine loopWG Fin (fun m σ H' => (∃ (F' : Hp) (i : Nat) (t : Tok) (w : List Nat) (l2 : List (List Nat)), m = (w0 :: l).length - i ∧ (w0 :: l).drop i = w :: l2 ∧ Grow [r] F H F' H' ∧ Rd K F' H' r (t :: .quo w :: ((l2.flatMap (fun w => [.sym 44, .quo w]) ++ [.sym 59]) ++ us)) ∧
          Mu F' H' p (.lst (((w0 :: l).take i).map fun x => V.str (S x))) ∧ σ = [some (.ref r), some (.ref p), some (.bl true)]) ∨ (m = 0 ∧ Fin σ H')) (w0 :: l).length
        (.inl ⟨F2, 0, _, w0, l, rfl, rfl, g2.mono (by simp), rd2, mp2, rfl⟩) ?_ ?_
      · rintro nx hnx m σ H' (⟨F4, i, t, w, l2, rfl, hdr, G4, rd4, mp4, rfl⟩ | ⟨rfl, F4, G4, rd4, m4, rfl⟩)
        · obtain ⟨hwi, hlt, hdr2⟩ := drop_get hdr
          obtain ⟨hw1, hw2⟩ := hw w (List.mem_of_getElem? hwi)
          walk_at "go"
          refine r_whN ?_
          walk_at "go"
          refine x_skip rd4 G4.fh fun F5 H5 g5 rd5 => ?_
          have mp5 := g5.mu (one_not nep.symm) mp4
          walk_at "go"
          refine x_lookw rd5 g5.fh hw2 (by omega) ?_
          walk_at "go"
          refine r_append mp5.1 (by rw [List.length_map, List.length_take]; omega) (k_wr g5.fh mp5 fun F6 H6 g6 mp6 => ?_)
          have rd6 := rd5.grow g6 (one_not nep)
          walk_at "go"
          refine x_skip rd6 g6.fh fun F7 H7 g7 rd7 => ?_
          have mp7 := g7.mu (one_not nep.symm) mp6
          have G7 := ((G4.comp g5 rr).comp g6 (side_one (.inr np2))).comp g7 rr
          have etk : ((w0 :: l).take i).map (fun x => V.str (S x)) ++ [V.str (S w)] = ((w0 :: l).take (i + 1)).map fun x => V.str (S x) := by rw [take_more hwi, List.map_append]; rfl
          rw [etk] at mp7
          walk_at "go"
          cases l2 with
          | nil =>
            have rd7 : Rd K F7 H7 r (.sym 59 :: us) := rd7
            refine x_sees rd7 g7.fh ?_
            rw [ti_sym comma_str]
            walk_at "go"
            walk_at "ss"
            have hlen : i + 1 = (w0 :: l).length := drop_end hdr2 (by omega)
            rw [hlen, List.take_length] at mp7
            exact ⟨0, by omega, .inr ⟨rfl, F7, G7, rd7, mp7, rfl⟩⟩
          | cons w2 l3 =>
            have rd7 : Rd K F7 H7 r (.sym 44 :: .quo w2 :: ((l3.flatMap (fun w => [.sym 44, .quo w]) ++ [.sym 59]) ++ us)) := rd7
            refine x_sees rd7 g7.fh ?_
            rw [ti_sym comma_str]
            walk_at "go"
            walk_at "ss"
            exact ⟨(w0 :: l).length - (i + 1), by omega, .inl ⟨F7, i + 1, _, w2, l3, rfl, hdr2, G7, rd7, mp7, rfl⟩⟩
        · walk_at "go"
          exact hnx _ _ ⟨F4, G4, rd4, m4, rfl⟩
      · rintro σ H' ⟨F4, G4, rd4, m4, rfl⟩
        walk_at "go"
        refine x_take rd4 G4.fh (by rw [ti_sym semi_str]; rfl) fun F5 H5 g5 rd5 => ?_
        have m5 := g5.mu (one_not nep.symm) m4
        walk_at "go"
        refine k_fz g5.fh m5 fun F6 g6 hq6 => ?_
        exact k _ F6 H5 ((G4.comp g5 rr).comp g6 (side_one (.inr np2))) (rd5.grow g6 (one_not nep)) (strs_mk hq6)

end
section
variable {P : Program} {w : World} {K : PySem.W.Frag} {mg : Str → Option Value} {base : Heap}

theorem ti_kw_t {z : Str} : tokIs (kw z) "name" z = true := by
  show (decide (V.str "name" = V.str "name") && decide (V.str (S (tl z)) = V.str z)) = true
  rw [S_tl, decide_eq_true rfl, decide_eq_true rfl]
  rfl
def sp_read_lines (K : PySem.W.Frag) : Sp := fun vs H Q _ => ∃ (F : Hp) (r : Addr) (R : Ru) (us : List Tok), vs = [.ref r] ∧ Same F H ∧ Rd K F H r (linesT R ++ us) ∧ NotKw "lines" us ∧
  ∀ (a : Addr) (F' H' : Hp), Grow [r] F H F' H' → Rd K F' H' r us → F' a = some (.tup [.int (R.lineWords : Int), .int (R.lineDocs : Int)]) → Q (.ref a) H'
abbrev N_read_lines : List Str := ["reader", "least", "common"]
theorem sc_read_lines : FnScope N_read_lines ["reader"] (defScope s_read_lines) := ⟨rfl, rfl, rfl, by decide +kernel, rfl, by decide +kernel, by decide +kernel⟩
theorem ok_read_lines (T : Txt K mg) : OkG P w K mg base 4 "_read_lines" ["reader"] (sp_read_lines K) := by
  obtain ⟨f_SignReader_sees, fd_SignReader_sees, G_SignReader_sees, m_SignReader_sees, b_SignReader_sees⟩ := ok_SignReader_sees (P := P) (w := w) (base := base) T
  obtain ⟨f_SignReader_skip, fd_SignReader_skip, G_SignReader_skip, m_SignReader_skip, b_SignReader_skip⟩ := ok_SignReader_skip (P := P) (w := w) (base := base) T
  obtain ⟨f_SignReader_take_number, fd_SignReader_take_number, G_SignReader_take_number, m_SignReader_take_number, b_SignReader_take_number⟩ := ok_SignReader_take_number (P := P) (w := w) (base := base) T
  obtain ⟨f_SignReader_take, fd_SignReader_take, G_SignReader_take, m_SignReader_take, b_SignReader_take⟩ := ok_SignReader_take (P := P) (w := w) (base := base) T
  have cl_SignReader : Cls K (He.ga K "SignReader") := T.cls 87 rfl
  refine T.okG 42 31 rfl rfl (d := d_read_lines) sc_read_lines (fun _ _ _ _ _ _ us hl => match us, hl with | [_], _ => rfl) (fun vs H Q E h => ?_) (fun cdv A outer s H vs Q E hr h => ?_)
  · obtain ⟨_, _, _, _, rfl, _⟩ := h
    rfl
  · refine ⟨_, PSs.nox (pss_cons (ps_set (i := 1) sc_read_lines.nd rfl (Or.inl rfl) pe_int)
      (pss_cons (ps_set (i := 2) sc_read_lines.nd rfl (Or.inl rfl) pe_int)
      (pss_cons (ps_if (pt_not (pt_val (pe_meth (pv 0) cl_SignReader m_SignReader_sees G_SignReader_sees (hr.mono (by decide)) b_SignReader_sees .nil pass0 (pa_cons pe_str (pa_cons pe_str pa_nil)))))
        (pss_one (ps_ret (pe_tup (pa_cons (pv 1) (pa_cons (pv 2) pa_nil)))))
        pss_nil)
      (pss_cons (ps_expr (pe_meth0 (pv 0) cl_SignReader m_SignReader_skip G_SignReader_skip (hr.mono (by decide)) b_SignReader_skip .nil pass0))
      (Evl.pss_cut (ps_if (pt_val (pe_meth (pv 0) cl_SignReader m_SignReader_sees G_SignReader_sees (hr.mono (by decide)) b_SignReader_sees .nil pass0 (pa_cons pe_str (pa_cons pe_str pa_nil))))
        (pss_cons (ps_expr (pe_meth0 (pv 0) cl_SignReader m_SignReader_skip G_SignReader_skip (hr.mono (by decide)) b_SignReader_skip .nil pass0))
        (pss_cons (ps_set (i := 1) sc_read_lines.nd rfl (Or.inl rfl) (pe_meth (pv 0) cl_SignReader m_SignReader_take_number G_SignReader_take_number (hr.mono (by decide)) b_SignReader_take_number .nil pass0 (pa_cons pe_int pa_nil)))
        (pss_one (ps_if (pt_val (pe_meth (pv 0) cl_SignReader m_SignReader_sees G_SignReader_sees (hr.mono (by decide)) b_SignReader_sees .nil pass0 (pa_cons pe_str (pa_cons pe_str pa_nil))))
          (pss_cons (ps_expr (pe_meth0 (pv 0) cl_SignReader m_SignReader_skip G_SignReader_skip (hr.mono (by decide)) b_SignReader_skip .nil pass0))
          (pss_cons (ps_expr (pe_meth (pv 0) cl_SignReader m_SignReader_take G_SignReader_take (hr.mono (by decide)) b_SignReader_take .nil pass0 (pa_cons pe_str (pa_cons pe_str pa_nil))))
          (pss_one (ps_set (i := 2) sc_read_lines.nd rfl (Or.inl rfl) (pe_meth (pv 0) cl_SignReader m_SignReader_take_number G_SignReader_take_number (hr.mono (by decide)) b_SignReader_take_number .nil pass0 (pa_cons pe_int pa_nil))))))
          pss_nil))))
        (pss_cons (ps_expr (pe_meth (pv 0) cl_SignReader m_SignReader_take G_SignReader_take (hr.mono (by decide)) b_SignReader_take .nil pass0 (pa_cons pe_str (pa_cons pe_str pa_nil))))
        (pss_one (ps_set (i := 2) sc_read_lines.nd rfl (Or.inl rfl) (pe_meth (pv 0) cl_SignReader m_SignReader_take_number G_SignReader_take_number (hr.mono (by decide)) b_SignReader_take_number .nil pass0 (pa_cons pe_int pa_nil))))))
      (pss_cons (ps_expr (pe_meth (pv 0) cl_SignReader m_SignReader_take G_SignReader_take (hr.mono (by decide)) b_SignReader_take .nil pass0 (pa_cons pe_str (pa_cons pe_str pa_nil))))
      (pss_one (ps_ret (pe_tup (pa_cons (pv 1) (pa_cons (pv 2) pa_nil))))))))))), ?_⟩
    obtain ⟨F, r, R, us, rfl, ok, rd, ⟨t0, us0, eu, nk⟩, k⟩ := h
    have e0 : tokIs (kw "lines") "name" "lines" = true := ti_kw_t
    have e1 : tokIs (kw "least") "name" "least" = true := ti_kw_t
    have e2 : tokIs (kw "common") "name" "least" = false := by decide +kernel
    have e3 : tokIs (.sym 59) "symbol" "," = false := by rw [ti_sym comma_str]; rfl
    have e4 : tokIs (.sym 44) "symbol" "," = true := by rw [ti_sym comma_str]; rfl
    walk_at "go"
    walk_at "ss"
    walk_at "go"
    walk_at "ss"
    unfold linesT at rd
    by_cases h1 : 0 < R.lineWords
    · rw [if_pos h1] at rd
      by_cases h2 : 0 < R.lineDocs
      · rw [if_pos h2] at rd
        have rd : Rd K F H r (kw "lines" :: kw "least" :: .num R.lineWords :: .sym 44 :: kw "common" :: .num R.lineDocs :: .sym 59 :: us) := rd
        refine x_sees rd ok ?_
        rw [e0]
        walk_at "go"
        refine r_iteF rfl ?_
        walk_at "go"
        refine x_skip rd ok fun F1 H1 g1 rd1 => ?_
        walk_at "go"
        refine r_cut (M := fun σ2 H2 => ∃ F2, Grow [r] F H F2 H2 ∧ Rd K F2 H2 r (.sym 59 :: us) ∧ σ2 = [some (.ref r), some (.int (R.lineWords : Int)), some (.int (R.lineDocs : Int))]) ?_ ?_
        · walk_at "go"
          refine x_sees rd1 g1.fh ?_
          rw [e1]
          walk_at "go"
          refine x_skip rd1 g1.fh fun F2 H2 g2 rd2 => ?_
          walk_at "go"
          refine x_num rd2 g2.fh (l := 0) rfl (Nat.zero_le _) fun F3 H3 g3 rd3 => ?_
          walk_at "go"
          walk_at "ss"
          walk_at "go"
          refine x_sees rd3 g3.fh ?_
          rw [e4]
          walk_at "go"
          refine x_skip rd3 g3.fh fun F4 H4 g4 rd4 => ?_
          walk_at "go"
          refine x_take rd4 g4.fh ti_kw_t fun F5 H5 g5 rd5 => ?_
          walk_at "go"
          refine x_num rd5 g5.fh (l := 0) rfl (Nat.zero_le _) fun F6 H6 g6 rd6 => ?_
          walk_at "go"
          exact ⟨F6, ((((g1.comp g2 rr).comp g3 rr).comp g4 rr).comp g5 rr).comp g6 rr, rd6, rfl⟩
        · rintro σ2 H2 ⟨F2, G2, rd2, rfl⟩
          walk_at "go"
          refine x_take rd2 G2.fh (by rw [ti_sym semi_str]; rfl) fun F3 H3 g3 rd3 => ?_
          walk_at "go"
          refine k_new g3.fh fun p F4 H4 g4 hp4 np4 => ?_
          exact k _ F4 H4 ((G2.comp g3 rr).comp g4 side_nil) (rd3.grow g4 nil_not) hp4
      · rw [if_neg h2] at rd
        have rd : Rd K F H r (kw "lines" :: kw "least" :: .num R.lineWords :: .sym 59 :: us) := rd
        have hz : R.lineDocs = 0 := by omega
        refine x_sees rd ok ?_
        rw [e0]
        walk_at "go"
        refine r_iteF rfl ?_
        walk_at "go"
        refine x_skip rd ok fun F1 H1 g1 rd1 => ?_
        walk_at "go"
        refine r_cut (M := fun σ2 H2 => ∃ F2, Grow [r] F H F2 H2 ∧ Rd K F2 H2 r (.sym 59 :: us) ∧ σ2 = [some (.ref r), some (.int (R.lineWords : Int)), some (.int (R.lineDocs : Int))]) ?_ ?_
        · walk_at "go"
          refine x_sees rd1 g1.fh ?_
          rw [e1]
          walk_at "go"
          refine x_skip rd1 g1.fh fun F2 H2 g2 rd2 => ?_
          walk_at "go"
          refine x_num rd2 g2.fh (l := 0) rfl (Nat.zero_le _) fun F3 H3 g3 rd3 => ?_
          walk_at "go"
          walk_at "ss"
          walk_at "go"
          refine x_sees rd3 g3.fh ?_
          rw [e3]
          walk_at "go"
          exact ⟨F3, (g1.comp g2 rr).comp g3 rr, rd3, by rw [hz]; rfl⟩
        · rintro σ2 H2 ⟨F2, G2, rd2, rfl⟩
          walk_at "go"
          refine x_take rd2 G2.fh (by rw [ti_sym semi_str]; rfl) fun F3 H3 g3 rd3 => ?_
          walk_at "go"
          refine k_new g3.fh fun p F4 H4 g4 hp4 np4 => ?_
          exact k _ F4 H4 ((G2.comp g3 rr).comp g4 side_nil) (rd3.grow g4 nil_not) hp4
    · rw [if_neg h1] at rd
      have hz : R.lineWords = 0 := by omega
      by_cases h2 : 0 < R.lineDocs
      · rw [if_pos h2] at rd
        have rd : Rd K F H r (kw "lines" :: kw "common" :: .num R.lineDocs :: .sym 59 :: us) := rd
        refine x_sees rd ok ?_
        rw [e0]
        walk_at "go"
        refine r_iteF rfl ?_
        walk_at "go"
        refine x_skip rd ok fun F1 H1 g1 rd1 => ?_
        walk_at "go"
        refine r_cut (M := fun σ2 H2 => ∃ F2, Grow [r] F H F2 H2 ∧ Rd K F2 H2 r (.sym 59 :: us) ∧ σ2 = [some (.ref r), some (.int (R.lineWords : Int)), some (.int (R.lineDocs : Int))]) ?_ ?_
        · walk_at "go"
          refine x_sees rd1 g1.fh ?_
          rw [e2]
          walk_at "go"
          refine x_take rd1 g1.fh ti_kw_t fun F5 H5 g5 rd5 => ?_
          walk_at "go"
          refine x_num rd5 g5.fh (l := 0) rfl (Nat.zero_le _) fun F6 H6 g6 rd6 => ?_
          walk_at "go"
          exact ⟨F6, (g1.comp g5 rr).comp g6 rr, rd6, by rw [hz]; rfl⟩
        · rintro σ2 H2 ⟨F2, G2, rd2, rfl⟩
          walk_at "go"
          refine x_take rd2 G2.fh (by rw [ti_sym semi_str]; rfl) fun F3 H3 g3 rd3 => ?_
          walk_at "go"
          refine k_new g3.fh fun p F4 H4 g4 hp4 np4 => ?_
          exact k _ F4 H4 ((G2.comp g3 rr).comp g4 side_nil) (rd3.grow g4 nil_not) hp4
      · rw [if_neg h2] at rd
        have rd : Rd K F H r us := rd
        have hz2 : R.lineDocs = 0 := by omega
        refine x_sees (t := t0) (ts := us0) (eu ▸ rd) ok ?_
        rw [nk]
        walk_at "go"
        refine r_iteT rfl ?_
        walk_at "go"
        refine k_new ok fun p F4 H4 g4 hp4 np4 => ?_
        refine k _ F4 H4 (g4.mono (by simp)) (rd.grow g4 nil_not) ?_
        rw [hz, hz2]
        exact hp4

def sp_read_kind (K : PySem.W.Frag) : Sp := fun vs H Q _ => ∃ (F : Hp) (r : Addr) (d : Kind) (us : List Tok), vs = [.ref r] ∧ Same F H ∧ Rd K F H r (kindT d :: us) ∧
  ∀ (F' H' : Hp), Grow [r] F H F' H' → Rd K F' H' r us → Q (.str d.s) H'
abbrev N_read_kind : List Str := ["reader", "entry", "kind"]
theorem sc_read_kind : FnScope N_read_kind ["reader"] (defScope s_read_kind) := ⟨rfl, rfl, rfl, by decide +kernel, rfl, by decide +kernel, by decide +kernel⟩
theorem ok_read_kind (T : Txt K mg) : OkG P w K mg base 4 "_read_kind" ["reader"] (sp_read_kind K) := by
  have m_KINDS : mg "KINDS" = some (.ref (He.ga K "KINDS")) := T.glo 80 rfl
  obtain ⟨f_SignReader_sign, fd_SignReader_sign, G_SignReader_sign, m_SignReader_sign, b_SignReader_sign⟩ := ok_SignReader_sign (P := P) (w := w) (base := base) T
  obtain ⟨f_SignReader_look_character, fd_SignReader_look_character, G_SignReader_look_character, m_SignReader_look_character, b_SignReader_look_character⟩ := ok_SignReader_look_character (P := P) (w := w) (base := base) T
  obtain ⟨f_SignReader_skip, fd_SignReader_skip, G_SignReader_skip, m_SignReader_skip, b_SignReader_skip⟩ := ok_SignReader_skip (P := P) (w := w) (base := base) T
  have cl_SignReader : Cls K (He.ga K "SignReader") := T.cls 87 rfl
  refine T.okG 43 32 rfl rfl (d := d_read_kind) sc_read_kind (fun _ _ _ _ _ _ us hl => match us, hl with | [_], _ => rfl) (fun vs H Q E h => ?_) (fun cdv A outer s H vs Q E hr h => ?_)
  · obtain ⟨_, _, _, _, rfl, _⟩ := h
    rfl
  · refine ⟨_, PSs.nox (pss_cons (ps_set (i := 1) sc_read_kind.nd rfl (Or.inl rfl) (pe_meth0 (pv 0) cl_SignReader m_SignReader_sign G_SignReader_sign (hr.mono (by decide)) b_SignReader_sign .nil pass0))
      (Evl.pss_cut (ps_if (PW.pt (pw_and (pt_cmpR op_eq (pe_ix ix_tup (pv 1) pe_int (fun _ _ => rfl)) pe_str (nomark _)) (pw_and1 (pt_cmpR op_in_seq (pe_ix ix_tup (pv 1) pe_int (fun _ _ => rfl)) (pe_gR (by rfl) m_KINDS) (by rfl)))))
        (pss_one (ps_set (i := 2) sc_read_kind.nd rfl (Or.inl rfl) (pe_ix ix_tup (pv 1) pe_int (fun _ _ => rfl))))
        (pss_one (ps_set (i := 2) sc_read_kind.nd rfl (Or.inl rfl) (pe_meth0 (pv 0) cl_SignReader m_SignReader_look_character G_SignReader_look_character (hr.mono (by decide)) b_SignReader_look_character .nil pass0))))
      (pss_cons (ps_expr (pe_meth0 (pv 0) cl_SignReader m_SignReader_skip G_SignReader_skip (hr.mono (by decide)) b_SignReader_skip .nil pass0))
      (pss_one (ps_ret (pv 2)))))), ?_⟩
    obtain ⟨F, r, d, us, rfl, ok, rd, k⟩ := h
    walk_at "go"
    refine x_sign rd ok fun v ⟨a, i, j, ev, ha⟩ => ?_
    subst ev
    walk_at "go"
    walk_at "ss"
    refine r_cut (M := fun σ2 H2 => H2 = H ∧ σ2 = [some (.ref r), some (.ref a), some (.str d.s)]) ?_ ?_
    · cases d with
      | ch c =>
        have ha : F a = some (.tup [.str "quoted", .str (S [c]), .int i, .int j]) := ha
        have e1 : decide (V.str "quoted" = V.str "name") = false := by decide +kernel
        walk_at "go"
        refine r_iteF e1 ?_
        walk_at "go"
        refine x_lookc rd ok ?_
        walk_at "go"
        exact ⟨rfl, rfl⟩
      | letter =>
        have ha : F a = some (.tup [.str "name", .str "letter", .int i, .int j]) := ha
        have e1 : decide (V.str "name" = V.str "name") = true := decide_eq_true rfl
        walk_at "go"
        rw [e1]
        walk_at "go"
        refine r_inT (T.kinds _) rfl rfl ?_
        have e2 : inV (.str "letter") (kindV.map (He.Dv.v K)) = true := by kernel_rfl
        rw [e2]
        walk_at "go"
        exact ⟨rfl, rfl⟩
      | digit =>
        have ha : F a = some (.tup [.str "name", .str "digit", .int i, .int j]) := ha
        have e1 : decide (V.str "name" = V.str "name") = true := decide_eq_true rfl
        walk_at "go"
        rw [e1]
        walk_at "go"
        refine r_inT (T.kinds _) rfl rfl ?_
        have e2 : inV (.str "digit") (kindV.map (He.Dv.v K)) = true := by kernel_rfl
        rw [e2]
        walk_at "go"
        exact ⟨rfl, rfl⟩
      | any =>
        have ha : F a = some (.tup [.str "name", .str "any", .int i, .int j]) := ha
        have e1 : decide (V.str "name" = V.str "name") = true := decide_eq_true rfl
        walk_at "go"
        rw [e1]
        walk_at "go"
        refine r_inT (T.kinds _) rfl rfl ?_
        have e2 : inV (.str "any") (kindV.map (He.Dv.v K)) = true := by kernel_rfl
        rw [e2]
        walk_at "go"
        exact ⟨rfl, rfl⟩
    · rintro σ2 H2 ⟨rfl, rfl⟩
      walk_at "go"
      refine x_skip rd ok fun F1 H1 g1 rd1 => ?_
      walk_at "go"
      exact k F1 H1 g1 rd1

def sp_read_element (K : PySem.W.Frag) : Sp := fun vs H Q _ => ∃ (F : Hp) (r : Addr) (e : Elem) (c : Nat) (us : List Tok), vs = [.ref r] ∧ Same F H ∧ Rd K F H r (elemT e ++ .sym c :: us) ∧ e.2.1 ≤ e.2.2 ∧
  ∀ (v : V) (F' H' : Hp), Grow [r] F H F' H' → Rd K F' H' r (.sym c :: us) → Rp F' v (encE e) → Q v H'
abbrev N_read_element : List Str := ["reader", "kind", "least"]
theorem sc_read_element : FnScope N_read_element ["reader"] (defScope s_read_element) := ⟨rfl, rfl, rfl, by decide +kernel, rfl, by decide +kernel, by decide +kernel⟩
theorem ok_read_element (T : Txt K mg) : OkG P w K mg base 5 "_read_element" ["reader"] (sp_read_element K) := by
  obtain ⟨f_read_kind, fd_read_kind, G_read_kind, mg_read_kind, kp_read_kind, b_read_kind⟩ := ok_read_kind (P := P) (w := w) (base := base) T
  obtain ⟨f_SignReader_sign, fd_SignReader_sign, G_SignReader_sign, m_SignReader_sign, b_SignReader_sign⟩ := ok_SignReader_sign (P := P) (w := w) (base := base) T
  obtain ⟨f_SignReader_take_number, fd_SignReader_take_number, G_SignReader_take_number, m_SignReader_take_number, b_SignReader_take_number⟩ := ok_SignReader_take_number (P := P) (w := w) (base := base) T
  obtain ⟨f_SignReader_sees, fd_SignReader_sees, G_SignReader_sees, m_SignReader_sees, b_SignReader_sees⟩ := ok_SignReader_sees (P := P) (w := w) (base := base) T
  obtain ⟨f_SignReader_skip, fd_SignReader_skip, G_SignReader_skip, m_SignReader_skip, b_SignReader_skip⟩ := ok_SignReader_skip (P := P) (w := w) (base := base) T
  obtain ⟨f_SignReader_take_second, fd_SignReader_take_second, G_SignReader_take_second, m_SignReader_take_second, b_SignReader_take_second⟩ := ok_SignReader_take_second (P := P) (w := w) (base := base) T
  have cl_SignReader : Cls K (He.ga K "SignReader") := T.cls 87 rfl
  refine T.okG 44 33 rfl rfl (d := d_read_element) sc_read_element (fun _ _ _ _ _ _ us hl => match us, hl with | [_], _ => rfl) (fun vs H Q E h => ?_) (fun cdv A outer s H vs Q E hr h => ?_)
  · obtain ⟨_, _, _, _, _, rfl, _⟩ := h
    rfl
  · refine ⟨_, PSs.nox (pss_cons (ps_set (i := 1) sc_read_element.nd rfl (Or.inl rfl) (pe_call G_read_kind (hr.mono (by decide)) rfl mg_read_kind kp_read_kind b_read_kind .nil pass0 (pa_cons (pv 0) pa_nil)))
      (pss_cons (ps_if (pt_cmpR op_ne (pe_ix ix_tup (pe_meth0 (pv 0) cl_SignReader m_SignReader_sign G_SignReader_sign (hr.mono (by decide)) b_SignReader_sign .nil pass0) pe_int (fun _ _ => rfl)) pe_str (nomark _))
        (pss_one (ps_ret (pe_tup (pa_cons (pv 1) (pa_cons pe_int (pa_cons pe_int pa_nil))))))
        pss_nil)
      (pss_cons (ps_set (i := 2) sc_read_element.nd rfl (Or.inl rfl) (pe_meth (pv 0) cl_SignReader m_SignReader_take_number G_SignReader_take_number (hr.mono (by decide)) b_SignReader_take_number .nil pass0 (pa_cons pe_int pa_nil)))
      (pss_cons (ps_if (pt_not (pt_val (pe_meth (pv 0) cl_SignReader m_SignReader_sees G_SignReader_sees (hr.mono (by decide)) b_SignReader_sees .nil pass0 (pa_cons pe_str (pa_cons pe_str pa_nil)))))
        (pss_one (ps_ret (pe_tup (pa_cons (pv 1) (pa_cons (pv 2) (pa_cons (pv 2) pa_nil))))))
        pss_nil)
      (pss_cons (ps_expr (pe_meth0 (pv 0) cl_SignReader m_SignReader_skip G_SignReader_skip (hr.mono (by decide)) b_SignReader_skip .nil pass0))
      (pss_one (ps_ret (pe_tup (pa_cons (pv 1) (pa_cons (pv 2) (pa_cons (pe_meth (pv 0) cl_SignReader m_SignReader_take_second G_SignReader_take_second (hr.mono (by decide)) b_SignReader_take_second .nil pass0 (pa_cons (pv 2) pa_nil)) pa_nil))))))))))), ?_⟩
    obtain ⟨F, r, e, c, us, rfl, ok, rd, hle, k⟩ := h
    unfold elemT at rd
    walk_at "go"
    by_cases h1 : e.2.1 ≠ e.2.2
    · rw [if_pos h1] at rd
      have rd : Rd K F H r (kindT e.1 :: .num e.2.1 :: kw "to" :: .num e.2.2 :: .sym c :: us) := rd
      refine ⟨F, r, e.1, _, rfl, ok, rd, fun F1 H1 g1 rd1 => ?_⟩
      walk_at "go"
      walk_at "ss"
      walk_at "go"
      refine x_sign rd1 g1.fh fun v ⟨a, i, j, ev, ha⟩ => ?_
      subst ev
      have ok1 := g1.fh
      have ek : decide (V.str (Tok.kind (.num e.2.1)) = V.str "number") = true := decide_eq_true rfl
      walk_at "go"
      refine r_iteF (by rw [ek]; rfl) ?_
      walk_at "go"
      refine x_num rd1 g1.fh (l := 0) rfl (Nat.zero_le _) fun F2 H2 g2 rd2 => ?_
      walk_at "go"
      walk_at "ss"
      walk_at "go"
      refine x_sees rd2 g2.fh ?_
      rw [ti_kw_t]
      walk_at "go"
      refine r_iteF rfl ?_
      walk_at "go"
      refine x_skip rd2 g2.fh fun F3 H3 g3 rd3 => ?_
      walk_at "go"
      refine r_rdM rd3 (by decide +kernel) ?_
      walk_at "go"
      refine ⟨F3, r, _, _, _, rfl, g3.fh, rd3, hle, fun F4 H4 g4 rd4 => ?_⟩
      walk_at "go"
      refine k_new g4.fh fun p F5 H5 g5 hp5 np5 => ?_
      exact k _ F5 H5 ((((g1.comp g2 rr).comp g3 rr).comp g4 rr).comp g5 side_nil) (rd4.grow g5 nil_not) (.tup hp5 (.cons (.str _) (.cons (.int _) (.cons (.int _) .nil))))
    · rw [if_neg h1] at rd
      have h1 : e.2.1 = e.2.2 := Classical.byContradiction h1
      by_cases h2 : e.2.1 ≠ 1
      · rw [if_pos h2] at rd
        have rd : Rd K F H r (kindT e.1 :: .num e.2.1 :: .sym c :: us) := rd
        refine ⟨F, r, e.1, _, rfl, ok, rd, fun F1 H1 g1 rd1 => ?_⟩
        walk_at "go"
        walk_at "ss"
        walk_at "go"
        refine x_sign rd1 g1.fh fun v ⟨a, i, j, ev, ha⟩ => ?_
        subst ev
        have ok1 := g1.fh
        have ek : decide (V.str (Tok.kind (.num e.2.1)) = V.str "number") = true := decide_eq_true rfl
        walk_at "go"
        refine r_iteF (by rw [ek]; rfl) ?_
        walk_at "go"
        refine x_num rd1 g1.fh (l := 0) rfl (Nat.zero_le _) fun F2 H2 g2 rd2 => ?_
        walk_at "go"
        walk_at "ss"
        walk_at "go"
        refine x_sees rd2 g2.fh ?_
        rw [ti_sym_name]
        walk_at "go"
        refine r_iteT rfl ?_
        walk_at "go"
        refine k_new g2.fh fun p F5 H5 g5 hp5 np5 => ?_
        refine k _ F5 H5 ((g1.comp g2 rr).comp g5 side_nil) (rd2.grow g5 nil_not) ?_
        unfold encE
        rw [← h1]
        exact .tup hp5 (.cons (.str _) (.cons (.int _) (.cons (.int _) .nil)))
      · rw [if_neg h2] at rd
        have h2 : e.2.1 = 1 := Classical.byContradiction h2
        have rd : Rd K F H r (kindT e.1 :: .sym c :: us) := rd
        refine ⟨F, r, e.1, _, rfl, ok, rd, fun F1 H1 g1 rd1 => ?_⟩
        walk_at "go"
        walk_at "ss"
        walk_at "go"
        refine x_sign rd1 g1.fh fun v ⟨a, i, j, ev, ha⟩ => ?_
        subst ev
        have ok1 := g1.fh
        walk_at "go"
        refine r_iteT (by rw [tk_sym_number]; rfl) ?_
        walk_at "go"
        refine k_new g1.fh fun p F5 H5 g5 hp5 np5 => ?_
        refine k _ F5 H5 (g1.comp g5 side_nil) (rd1.grow g5 nil_not) ?_
        unfold encE
        rw [← h1, h2]
        exact .tup hp5 (.cons (.str _) (.cons (.int _) (.cons (.int _) .nil)))

end
section
variable {P : Program} {w : World} {K : PySem.W.Frag} {mg : Str → Option Value} {base : Heap}

theorem shapeT_cons (e : Elem) (l : Shape) : shapeT (e :: l) = elemT e ++ l.flatMap fun e => .sym 44 :: elemT e := by
  unfold shapeT
  rw [List.map_cons, sepT, List.flatMap_map]
theorem tail_sym (l : Shape) (c : Nat) (us : List Tok) : ∃ c' us', (l.flatMap fun e => .sym 44 :: elemT e) ++ .sym c :: us = .sym c' :: us' := by
  cases l with
  | nil => exact ⟨c, us, rfl⟩
  | cons e l => exact ⟨44, _, rfl⟩
theorem Rps.snoc_map {α : Type} {F : Hp} {f : α → PyData} {vs : List V} {l : List α} {i : Nat} {x : α} {v : V} (h : Rps F vs ((l.take i).map f)) (e : l[i]? = some x) (r : Rp F v (f x)) : Rps F (vs ++ [v]) ((l.take (i + 1)).map f) := by
  rw [take_more e, List.map_append]
  exact h.snoc r
def sp_read_shape (K : PySem.W.Frag) : Sp := fun vs H Q _ => ∃ (F : Hp) (r : Addr) (s : Shape) (c : Nat) (us : List Tok), vs = [.ref r] ∧ Same F H ∧ Rd K F H r (shapeT s ++ .sym c :: us) ∧ c ≠ 44 ∧ SpOk s ∧
  ∀ (v : V) (F' H' : Hp), Grow [r] F H F' H' → Rd K F' H' r (.sym c :: us) → Rp F' v (encSh s) → Q v H'
abbrev N_read_shape : List Str := ["reader", "shape", "kind", "least", "most"]
theorem sc_read_shape : FnScope N_read_shape ["reader"] (defScope s_read_shape) := ⟨rfl, rfl, rfl, by decide +kernel, rfl, by decide +kernel, by decide +kernel⟩
theorem ok_read_shape (T : Txt K mg) : OkG P w K mg base 6 "_read_shape" ["reader"] (sp_read_shape K) := by
  have m_max : mg "max" = none := T.free 72 rfl
  obtain ⟨f_read_element, fd_read_element, G_read_element, mg_read_element, kp_read_element, b_read_element⟩ := ok_read_element (P := P) (w := w) (base := base) T
  obtain ⟨f_SignReader_sees, fd_SignReader_sees, G_SignReader_sees, m_SignReader_sees, b_SignReader_sees⟩ := ok_SignReader_sees (P := P) (w := w) (base := base) T
  obtain ⟨f_SignReader_skip, fd_SignReader_skip, G_SignReader_skip, m_SignReader_skip, b_SignReader_skip⟩ := ok_SignReader_skip (P := P) (w := w) (base := base) T
  have cl_SignReader : Cls K (He.ga K "SignReader") := T.cls 87 rfl
  refine T.okG 45 34 rfl rfl (d := d_read_shape) sc_read_shape (fun _ _ _ _ _ _ us hl => match us, hl with | [_], _ => rfl) (fun vs H Q E h => ?_) (fun cdv A outer s H vs Q E hr h => ?_)
  · obtain ⟨_, _, _, _, _, rfl, _⟩ := h
    rfl
  · refine ⟨_, PSs.nox (pss_cons (ps_set (i := 1) sc_read_shape.nd rfl (Or.inl rfl) (pe_lst (pa_cons (pe_call G_read_element (hr.mono (by decide)) rfl mg_read_element kp_read_element b_read_element .nil pass0 (pa_cons (pv 0) pa_nil)) pa_nil)))
      (pss_cons (ps_while PassesOwn.never (pt_val (pe_meth (pv 0) cl_SignReader m_SignReader_sees G_SignReader_sees (hr.mono (by decide)) b_SignReader_sees .nil pass0 (pa_cons pe_str (pa_cons pe_str pa_nil))))
        (pss_cons (ps_expr (pe_meth0 (pv 0) cl_SignReader m_SignReader_skip G_SignReader_skip (hr.mono (by decide)) b_SignReader_skip .nil pass0))
        (pss_one (ps_expr (pe_bm PySem.F.plainAttrs_list PySem.F.slot_list_append PySem.F.type_list_append mt_append (pv 1) (pa_cons (pe_call G_read_element (hr.mono (by decide)) rfl mg_read_element kp_read_element b_read_element .nil pass0 (pa_cons (pv 0) pa_nil)) pa_nil))))))
      (pss_cons (ps_if (pt_cmpR op_eq (pe_callB (cr_max rfl) (by rfl) m_max (by decide +kernel) (pa_cons (pe_lc (own := [("kind", 2), ("least", 3), ("most", 4)]) (g := gTup K 3 (gCons (gName 2) (gCons (gName 3) (gCons (gName 4) gNil)))) (tt := tYes) rfl sc_read_shape.nd (pi_list (pv 1)) (blkOk_by (own := [("kind", 2), ("least", 3), ("most", 4)]) (N := N_read_shape) (sc := defScope s_read_shape) (by decide +kernel)) (fun _ _ _ _ _ => (pg_tup (by rfl) (pgs_cons (pg_name (i := 2) sc_read_shape.nd rfl (Or.inl rfl)) (pgs_cons (pg_name (i := 3) sc_read_shape.nd rfl (Or.inl rfl)) (pgs_cons (pg_name (i := 4) sc_read_shape.nd rfl (Or.inl rfl)) pgs_nil))))) (fun _ _ _ _ _ => pts_nil) (fun _ _ _ _ _ => (pv 3))) pa_nil)) pe_int (nomark _))
        pss_never
        pss_nil)
      (pss_one (ps_ret (pv 1)))))), ?_⟩
    obtain ⟨F, r, s, c, us, rfl, ok, rd, hc, ⟨hl, hel, e1, he1, hle⟩, k⟩ := h
    cases s with
    | nil => cases he1
    | cons e0 l =>
    rw [shapeT_cons, List.append_assoc] at rd
    walk_at "go"
    obtain ⟨c2, us2, et⟩ := tail_sym l c us
    refine ⟨F, r, e0, c2, us2, rfl, ok, by rw [← et]; exact rd, (hel e0 List.mem_cons_self).2.2, fun v F1 H1 g1 rd1 rv => ?_⟩
    rw [← et] at rd1
    walk_at "go"
    refine k_mu g1.fh fun p F2 H2 g2 mp2 np2 => ?_
    have rd2 := rd1.grow g2 nil_not
    have nep := rd1.ne np2
    have np0 : H p = none := (g1.back np2).resolve_left fun z => nep (List.mem_singleton.mp z).symm
    walk_at "go"
    walk_at "ss"
    refine loopWG (fun σ H' => ∃ (F' : Hp) (zs : List V), Grow [r] F H F' H' ∧ Rd K F' H' r (.sym c :: us) ∧ Mu F' H' p (.lst zs) ∧ Rps F' zs ((e0 :: l).map encE) ∧ σ = [some (.ref r), some (.ref p), none, none, none])
      (fun m σ H' => ∃ (F' : Hp) (zs : List V) (i : Nat), i ≤ l.length ∧ m = l.length - i ∧ Grow [r] F H F' H' ∧ Rd K F' H' r (((l.drop i).flatMap fun e => .sym 44 :: elemT e) ++ .sym c :: us) ∧ Mu F' H' p (.lst zs) ∧ Rps F' zs (((e0 :: l).take (i + 1)).map encE) ∧
        σ = [some (.ref r), some (.ref p), none, none, none]) l.length ⟨F2, [v], 0, Nat.zero_le _, rfl, g1.comp g2 side_nil, rd2, mp2, .one (g2.rp rv), rfl⟩ ?_ ?_
    · rintro nx hnx m σ H' ⟨F4, zs, i, hi, rfl, G4, rd4, mp4, rz, rfl⟩
      walk_at "go"
      cases hq : l.drop i with
      | nil =>
        rw [hq] at rd4
        have hil := drop_end hq hi
        subst hil
        have rd4 : Rd K F4 H' r (.sym c :: us) := rd4
        refine x_sees rd4 G4.fh ?_
        rw [ti_sym comma_str, decide_eq_false hc]
        walk_at "go"
        refine hnx _ _ ⟨F4, zs, G4, rd4, mp4, ?_, rfl⟩
        rw [List.take_of_length_le (by simp)] at rz
        exact rz
      | cons e l2 =>
        obtain ⟨hci, hlt, hdr⟩ := drop_get hq
        rw [hq] at rd4
        obtain ⟨c3, us3, et3⟩ := tail_sym l2 c us
        have rd4 : Rd K F4 H' r (.sym 44 :: (elemT e ++ (l2.flatMap fun e => .sym 44 :: elemT e)) ++ .sym c :: us) := rd4
        have rd4 : Rd K F4 H' r (.sym 44 :: (elemT e ++ .sym c3 :: us3)) := by
          rw [← et3, ← List.append_assoc]
          exact rd4
        refine x_sees rd4 G4.fh ?_
        rw [ti_sym comma_str, decide_eq_true rfl]
        walk_at "go"
        refine r_whN ?_
        walk_at "go"
        refine x_skip rd4 G4.fh fun F5 H5 g5 rd5 => ?_
        have mp5 := g5.mu (one_not nep.symm) mp4
        walk_at "go"
        refine ⟨F5, r, e, c3, us3, rfl, g5.fh, rd5, (hel e (List.mem_cons_of_mem _ (List.mem_of_getElem? hci))).2.2, fun v6 F6 H6 g6 rd6 rv6 => ?_⟩
        have mp6 := g6.mu (one_not nep.symm) mp5
        rw [← et3] at rd6
        have rz6 := g6.rps (g5.rps rz)
        walk_at "go"
        refine r_append mp6.1 ?_ (k_wr g6.fh mp6 fun F7 H7 g7 mp7 => ?_)
        · rw [rz6.len_map, List.length_take]
          have : (e0 :: l).length = l.length + 1 := rfl
          omega
        walk_at "go"
        refine ⟨l.length - (i + 1), by omega, F7, _, i + 1, by omega, rfl, ((G4.comp g5 rr).comp g6 rr).comp g7 (side_one (.inr np0)), ?_, mp7, ?_, rfl⟩
        · rw [hdr]
          exact rd6.grow g7 (one_not nep)
        · exact Rps.snoc_map (l := e0 :: l) (i := i + 1) (x := e) (g7.rps rz6) hci (g7.rp rv6)
    · rintro σ H' ⟨F4, zs, G4, rd4, mp4, rz, rfl⟩
      walk_at "go"
      refine k_fz G4.fh mp4 fun F5 g5 hp5 => ?_
      have G5 := G4.comp g5 (side_one (.inr np0))
      have rd5 := rd4.grow g5 (one_not nep)
      have rz5 := g5.rps rz
      have ok5 := G5.fh
      refine r_itL (sql_fz ok5 hp5) fun Dl hD => ?_
      refine lcL_map (ds := (e0 :: l).map encE) (es := ((e0 :: l).map fun e : Elem => ((e.2.1 : Nat) : Int)).map PyData.int) ok5 hD hp5 rz5 (by simp) (by rw [List.length_map]; omega) ?_ ?_
      · intro j x d e F6 H6 Kc hd he rx g6 kc
        obtain ⟨el, hel2, rfl⟩ := map_at hd
        obtain ⟨z, hz, rfl⟩ := map_at he
        obtain ⟨el2, hel3, rfl⟩ := map_at hz
        rw [hel2] at hel3
        cases hel3
        obtain ⟨a, rfl, ha⟩ := encE_inv rx
        have ok6 := g6.fh
        walk_at "go"
        refine ⟨rfl, ?_⟩
        walk_at "go"
        exact kc _ F6 H6 (Grow.refl ok6) (.int _)
      · intro F6 H6 g6 r6
        obtain ⟨ad, xd, ead, had, rxd⟩ := r6.lst_inv
        cases ead
        rw [rxd.ints_inv] at had
        have G6 := G5.comp g6 side_nil
        have rd6 := rd5.grow g6 nil_not
        walk_at "go"
        refine r_max (K := K) (sql_fz g6.fh had) (by simp) fun m hm hmax => ?_
        have hm1 : 1 ≤ m := by
          have q := hmax ((e1.2.1 : Nat) : Int) (List.mem_map.mpr ⟨e1, he1, rfl⟩)
          omega
        walk_at "go"
        refine r_iteF (decide_eq_false fun z => by have := V.int.inj z; omega) ?_
        walk_at "go"
        exact k _ F6 H6 G6 rd6 (.lst (g6.at hp5) (g6.rps rz5))

def sp_read_hidden (K : PySem.W.Frag) : Sp := fun vs H Q _ => ∃ (F : Hp) (r : Addr) (l : List Shape) (us : List Tok), vs = [.ref r] ∧ Same F H ∧ Rd K F H r (l.flatMap hidT ++ us) ∧ NotKw "hide" us ∧ l.length ≤ 1000 ∧ (∀ s ∈ l, SpOk s) ∧
  ∀ (v : V) (F' H' : Hp), Grow [r] F H F' H' → Rd K F' H' r us → Rp F' v (encShs l) → Q v H'
abbrev N_read_hidden : List Str := ["reader", "hidden"]
theorem sc_read_hidden : FnScope N_read_hidden ["reader"] (defScope s_read_hidden) := ⟨rfl, rfl, rfl, by decide +kernel, rfl, by decide +kernel, by decide +kernel⟩
theorem ok_read_hidden (T : Txt K mg) : OkG P w K mg base 7 "_read_hidden" ["reader"] (sp_read_hidden K) := by
  obtain ⟨f_SignReader_sees, fd_SignReader_sees, G_SignReader_sees, m_SignReader_sees, b_SignReader_sees⟩ := ok_SignReader_sees (P := P) (w := w) (base := base) T
  obtain ⟨f_SignReader_skip, fd_SignReader_skip, G_SignReader_skip, m_SignReader_skip, b_SignReader_skip⟩ := ok_SignReader_skip (P := P) (w := w) (base := base) T
  obtain ⟨f_read_shape, fd_read_shape, G_read_shape, mg_read_shape, kp_read_shape, b_read_shape⟩ := ok_read_shape (P := P) (w := w) (base := base) T
  obtain ⟨f_SignReader_take, fd_SignReader_take, G_SignReader_take, m_SignReader_take, b_SignReader_take⟩ := ok_SignReader_take (P := P) (w := w) (base := base) T
  have cl_SignReader : Cls K (He.ga K "SignReader") := T.cls 87 rfl
  refine T.okG 46 35 rfl rfl (d := d_read_hidden) sc_read_hidden (fun _ _ _ _ _ _ us hl => match us, hl with | [_], _ => rfl) (fun vs H Q E h => ?_) (fun cdv A outer s H vs Q E hr h => ?_)
  · obtain ⟨_, _, _, _, rfl, _⟩ := h
    rfl
  · refine ⟨_, PSs.nox (pss_cons (ps_set (i := 1) sc_read_hidden.nd rfl (Or.inl rfl) (pe_lst pa_nil))
      (pss_cons (ps_while PassesOwn.never (pt_val (pe_meth (pv 0) cl_SignReader m_SignReader_sees G_SignReader_sees (hr.mono (by decide)) b_SignReader_sees .nil pass0 (pa_cons pe_str (pa_cons pe_str pa_nil))))
        (pss_cons (ps_expr (pe_meth0 (pv 0) cl_SignReader m_SignReader_skip G_SignReader_skip (hr.mono (by decide)) b_SignReader_skip .nil pass0))
        (pss_cons (ps_expr (pe_bm PySem.F.plainAttrs_list PySem.F.slot_list_append PySem.F.type_list_append mt_append (pv 1) (pa_cons (pe_call G_read_shape (hr.mono (by decide)) rfl mg_read_shape kp_read_shape b_read_shape .nil pass0 (pa_cons (pv 0) pa_nil)) pa_nil)))
        (pss_one (ps_expr (pe_meth (pv 0) cl_SignReader m_SignReader_take G_SignReader_take (hr.mono (by decide)) b_SignReader_take .nil pass0 (pa_cons pe_str (pa_cons pe_str pa_nil))))))))
      (pss_one (ps_ret (pv 1))))), ?_⟩
    obtain ⟨F, r, l, us, rfl, ok, rd, ⟨t0, us0, eu, nk⟩, hl, hs, k⟩ := h
    walk_at "go"
    refine k_mu ok fun p F2 H2 g2 mp2 np2 => ?_
    have rd2 := rd.grow g2 nil_not
    have nep := rd.ne np2
    walk_at "go"
    walk_at "ss"
    refine loopWG (fun σ H' => ∃ (F' : Hp) (zs : List V), Grow [r] F H F' H' ∧ Rd K F' H' r us ∧ Mu F' H' p (.lst zs) ∧ Rps F' zs (l.map encSh) ∧ σ = [some (.ref r), some (.ref p)])
      (fun m σ H' => ∃ (F' : Hp) (zs : List V) (i : Nat), i ≤ l.length ∧ m = l.length - i ∧ Grow [r] F H F' H' ∧ Rd K F' H' r ((l.drop i).flatMap hidT ++ us) ∧ Mu F' H' p (.lst zs) ∧ Rps F' zs ((l.take i).map encSh) ∧
        σ = [some (.ref r), some (.ref p)]) l.length ⟨F2, [], 0, Nat.zero_le _, rfl, g2.mono (by simp), rd2, mp2, .nil, rfl⟩ ?_ ?_
    · rintro nx hnx m σ H' ⟨F4, zs, i, hi, rfl, G4, rd4, mp4, rz, rfl⟩
      walk_at "go"
      cases hq : l.drop i with
      | nil =>
        rw [hq] at rd4
        have hil := drop_end hq hi
        subst hil
        rw [List.take_length] at rz
        have rd4 : Rd K F4 H' r us := rd4
        refine x_sees (t := t0) (ts := us0) (eu ▸ rd4) G4.fh ?_
        rw [nk]
        walk_at "go"
        exact hnx _ _ ⟨F4, zs, G4, rd4, mp4, rz, rfl⟩
      | cons s l2 =>
        obtain ⟨hci, hlt, hdr⟩ := drop_get hq
        rw [hq] at rd4
        have rd4 : Rd K F4 H' r (kw "hide" :: ((shapeT s ++ [.sym 59]) ++ l2.flatMap hidT) ++ us) := rd4
        have rd4 : Rd K F4 H' r (kw "hide" :: (shapeT s ++ .sym 59 :: (l2.flatMap hidT ++ us))) := by
          have e : (kw "hide" :: ((shapeT s ++ [.sym 59]) ++ l2.flatMap hidT) ++ us) = kw "hide" :: (shapeT s ++ .sym 59 :: (l2.flatMap hidT ++ us)) := by simp
          rw [← e]
          exact rd4
        refine x_sees rd4 G4.fh ?_
        rw [ti_kw_t]
        walk_at "go"
        refine r_whN ?_
        walk_at "go"
        refine x_skip rd4 G4.fh fun F5 H5 g5 rd5 => ?_
        have mp5 := g5.mu (one_not nep.symm) mp4
        walk_at "go"
        refine ⟨F5, r, s, 59, _, rfl, g5.fh, rd5, by decide, hs s (List.mem_of_getElem? hci), fun v6 F6 H6 g6 rd6 rv6 => ?_⟩
        have mp6 := g6.mu (one_not nep.symm) mp5
        have rz6 := g6.rps (g5.rps rz)
        walk_at "go"
        refine r_append mp6.1 ?_ (k_wr g6.fh mp6 fun F7 H7 g7 mp7 => ?_)
        · rw [rz6.len_map, List.length_take]
          omega
        have rd7 := rd6.grow g7 (one_not nep)
        walk_at "go"
        refine x_take rd7 g7.fh (by rw [ti_sym semi_str]; rfl) fun F8 H8 g8 rd8 => ?_
        walk_at "go"
        refine ⟨l.length - (i + 1), by omega, F8, _, i + 1, by omega, rfl, (((G4.comp g5 rr).comp g6 rr).comp g7 (side_one (.inr np2))).comp g8 rr, ?_, g8.mu (one_not nep.symm) mp7, ?_, rfl⟩
        · rw [hdr]
          exact rd8
        · exact Rps.snoc_map (g8.rps (g7.rps rz6)) hci (g8.rp (g7.rp rv6))
    · rintro σ H' ⟨F4, zs, G4, rd4, mp4, rz, rfl⟩
      walk_at "go"
      refine k_fz G4.fh mp4 fun F5 g5 hp5 => ?_
      exact k _ F5 H' (G4.comp g5 (side_one (.inr np2))) (rd4.grow g5 (one_not nep)) (.lst hp5 (g5.rps rz))

def sp_read_mark (K : PySem.W.Frag) : Sp := fun vs H Q _ => ∃ (F : Hp) (r : Addr) (u : V) (m : List Nat) (l : List Shape) (us : List Tok), vs = [.ref r, u] ∧ Same F H ∧ Rd K F H r (kw "mark" :: .quo m :: .sym 59 :: us) ∧ Rp F u (encShs l) ∧ wordC m ∧ m.length ≤ 1000 ∧ ShsOk l ∧ hasAny m l = false ∧
  ∀ (F' H' : Hp), Grow [r] F H F' H' → Rd K F' H' r us → Q (.str (S m)) H'
abbrev N_read_mark : List Str := ["reader", "hidden", "mark"]
theorem sc_read_mark : FnScope N_read_mark ["reader", "hidden"] (defScope s_read_mark) := ⟨rfl, rfl, rfl, by decide +kernel, rfl, by decide +kernel, by decide +kernel⟩
theorem ok_read_mark (T : Txt K mg) : OkG P w K mg base 7 "_read_mark" ["reader", "hidden"] (sp_read_mark K) := by
  obtain ⟨f_SignReader_take, fd_SignReader_take, G_SignReader_take, m_SignReader_take, b_SignReader_take⟩ := ok_SignReader_take (P := P) (w := w) (base := base) T
  obtain ⟨f_SignReader_look_word, fd_SignReader_look_word, G_SignReader_look_word, m_SignReader_look_word, b_SignReader_look_word⟩ := ok_SignReader_look_word (P := P) (w := w) (base := base) T
  obtain ⟨f_has_any_shape, fd_has_any_shape, G_has_any_shape, mg_has_any_shape, kp_has_any_shape, b_has_any_shape⟩ := ok_has_any_shape (P := P) (w := w) (base := base) T
  obtain ⟨f_SignReader_skip, fd_SignReader_skip, G_SignReader_skip, m_SignReader_skip, b_SignReader_skip⟩ := ok_SignReader_skip (P := P) (w := w) (base := base) T
  have cl_SignReader : Cls K (He.ga K "SignReader") := T.cls 87 rfl
  refine T.okG 47 36 rfl rfl (d := d_read_mark) sc_read_mark (fun _ _ _ _ _ _ us hl => match us, hl with | [_, _], _ => rfl) (fun vs H Q E h => ?_) (fun cdv A outer s H vs Q E hr h => ?_)
  · obtain ⟨_, _, _, _, _, _, rfl, _⟩ := h
    rfl
  · refine ⟨_, PSs.nox (pss_cons (ps_expr (pe_meth (pv 0) cl_SignReader m_SignReader_take G_SignReader_take (hr.mono (by decide)) b_SignReader_take .nil pass0 (pa_cons pe_str (pa_cons pe_str pa_nil))))
      (pss_cons (ps_set (i := 2) sc_read_mark.nd rfl (Or.inl rfl) (pe_meth0 (pv 0) cl_SignReader m_SignReader_look_word G_SignReader_look_word (hr.mono (by decide)) b_SignReader_look_word .nil pass0))
      (pss_cons (ps_if (pt_val (pe_call G_has_any_shape (hr.mono (by decide)) rfl mg_has_any_shape kp_has_any_shape b_has_any_shape .nil pass0 (pa_cons (pv 2) (pa_cons (pv 1) pa_nil))))
        pss_never
        pss_nil)
      (pss_cons (ps_expr (pe_meth0 (pv 0) cl_SignReader m_SignReader_skip G_SignReader_skip (hr.mono (by decide)) b_SignReader_skip .nil pass0))
      (pss_cons (ps_expr (pe_meth (pv 0) cl_SignReader m_SignReader_take G_SignReader_take (hr.mono (by decide)) b_SignReader_take .nil pass0 (pa_cons pe_str (pa_cons pe_str pa_nil))))
      (pss_one (ps_ret (pv 2)))))))), ?_⟩
    obtain ⟨F, r, u, m, l, us, rfl, ok, rd, hu1, hw, hm, hs, hn, k⟩ := h
    walk_at "go"
    refine x_take rd ok ti_kw_t fun F1 H1 g1 rd1 => ?_
    walk_at "go"
    refine x_lookw rd1 g1.fh hw (by omega) ?_
    walk_at "go"
    walk_at "ss"
    walk_at "go"
    refine ⟨F1, m, u, l, rfl, g1.fh, g1.rp hu1, by omega, hs, fun F2 H2 g2 => ?_⟩
    have rd2 := rd1.grow g2 nil_not
    walk_at "go"
    refine r_iteF hn ?_
    walk_at "go"
    refine x_skip rd2 g2.fh fun F3 H3 g3 rd3 => ?_
    walk_at "go"
    refine x_take rd3 g3.fh (by rw [ti_sym semi_str]; rfl) fun F4 H4 g4 rd4 => ?_
    walk_at "go"
    exact k F4 H4 (((g1.comp g2 side_nil).comp g3 rr).comp g4 rr) rd4

def sp_read_shares (K : PySem.W.Frag) : Sp := fun vs H Q _ => ∃ (F : Hp) (r : Addr) (l : List (Shape × Nat × Nat)) (us : List Tok), vs = [.ref r] ∧ Same F H ∧ Rd K F H r (l.flatMap shrT ++ us) ∧ NotKw "share" us ∧ l.length ≤ 1000 ∧ (∀ s ∈ l, SpOk s.1 ∧ 1 ≤ s.2.2) ∧
  ∀ (v : V) (F' H' : Hp), Grow [r] F H F' H' → Rd K F' H' r us → Rp F' v (encShares l) → Q v H'
abbrev N_read_shares : List Str := ["reader", "shares", "shape", "over"]
theorem sc_read_shares : FnScope N_read_shares ["reader"] (defScope s_read_shares) := ⟨rfl, rfl, rfl, by decide +kernel, rfl, by decide +kernel, by decide +kernel⟩
theorem ok_read_shares (T : Txt K mg) : OkG P w K mg base 7 "_read_shares" ["reader"] (sp_read_shares K) := by
  obtain ⟨f_SignReader_sees, fd_SignReader_sees, G_SignReader_sees, m_SignReader_sees, b_SignReader_sees⟩ := ok_SignReader_sees (P := P) (w := w) (base := base) T
  obtain ⟨f_SignReader_skip, fd_SignReader_skip, G_SignReader_skip, m_SignReader_skip, b_SignReader_skip⟩ := ok_SignReader_skip (P := P) (w := w) (base := base) T
  obtain ⟨f_read_shape, fd_read_shape, G_read_shape, mg_read_shape, kp_read_shape, b_read_shape⟩ := ok_read_shape (P := P) (w := w) (base := base) T
  obtain ⟨f_SignReader_take, fd_SignReader_take, G_SignReader_take, m_SignReader_take, b_SignReader_take⟩ := ok_SignReader_take (P := P) (w := w) (base := base) T
  obtain ⟨f_SignReader_take_number, fd_SignReader_take_number, G_SignReader_take_number, m_SignReader_take_number, b_SignReader_take_number⟩ := ok_SignReader_take_number (P := P) (w := w) (base := base) T
  have cl_SignReader : Cls K (He.ga K "SignReader") := T.cls 87 rfl
  refine T.okG 48 37 rfl rfl (d := d_read_shares) sc_read_shares (fun _ _ _ _ _ _ us hl => match us, hl with | [_], _ => rfl) (fun vs H Q E h => ?_) (fun cdv A outer s H vs Q E hr h => ?_)
  · obtain ⟨_, _, _, _, rfl, _⟩ := h
    rfl
  · refine ⟨_, PSs.nox (pss_cons (ps_set (i := 1) sc_read_shares.nd rfl (Or.inl rfl) (pe_lst pa_nil))
      (pss_cons (ps_while PassesOwn.never (pt_val (pe_meth (pv 0) cl_SignReader m_SignReader_sees G_SignReader_sees (hr.mono (by decide)) b_SignReader_sees .nil pass0 (pa_cons pe_str (pa_cons pe_str pa_nil))))
        (pss_cons (ps_expr (pe_meth0 (pv 0) cl_SignReader m_SignReader_skip G_SignReader_skip (hr.mono (by decide)) b_SignReader_skip .nil pass0))
        (pss_cons (ps_set (i := 2) sc_read_shares.nd rfl (Or.inl rfl) (pe_call G_read_shape (hr.mono (by decide)) rfl mg_read_shape kp_read_shape b_read_shape .nil pass0 (pa_cons (pv 0) pa_nil)))
        (pss_cons (ps_expr (pe_meth (pv 0) cl_SignReader m_SignReader_take G_SignReader_take (hr.mono (by decide)) b_SignReader_take .nil pass0 (pa_cons pe_str (pa_cons pe_str pa_nil))))
        (pss_cons (ps_set (i := 3) sc_read_shares.nd rfl (Or.inl rfl) (pe_meth (pv 0) cl_SignReader m_SignReader_take_number G_SignReader_take_number (hr.mono (by decide)) b_SignReader_take_number .nil pass0 (pa_cons pe_int pa_nil)))
        (pss_cons (ps_expr (pe_meth (pv 0) cl_SignReader m_SignReader_take G_SignReader_take (hr.mono (by decide)) b_SignReader_take .nil pass0 (pa_cons pe_str (pa_cons pe_str pa_nil))))
        (pss_cons (ps_expr (pe_bm PySem.F.plainAttrs_list PySem.F.slot_list_append PySem.F.type_list_append mt_append (pv 1) (pa_cons (pe_tup (pa_cons (pv 2) (pa_cons (pv 3) (pa_cons (pe_meth (pv 0) cl_SignReader m_SignReader_take_number G_SignReader_take_number (hr.mono (by decide)) b_SignReader_take_number .nil pass0 (pa_cons pe_int pa_nil)) pa_nil)))) pa_nil)))
        (pss_one (ps_expr (pe_meth (pv 0) cl_SignReader m_SignReader_take G_SignReader_take (hr.mono (by decide)) b_SignReader_take .nil pass0 (pa_cons pe_str (pa_cons pe_str pa_nil))))))))))))
      (pss_one (ps_ret (pv 1))))), ?_⟩
    obtain ⟨F, r, l, us, rfl, ok, rd, ⟨t0, us0, eu, nk⟩, hl, hs, k⟩ := h
    walk_at "go"
    refine k_mu ok fun p F2 H2 g2 mp2 np2 => ?_
    have rd2 := rd.grow g2 nil_not
    have nep := rd.ne np2
    walk_at "go"
    walk_at "ss"
    refine loopWG (fun σ H' => ∃ (F' : Hp) (zs : List V) (y1 y2 : Option V), Grow [r] F H F' H' ∧ Rd K F' H' r us ∧ Mu F' H' p (.lst zs) ∧ Rps F' zs (l.map encShare) ∧ σ = [some (.ref r), some (.ref p), y1, y2])
      (fun m σ H' => ∃ (F' : Hp) (zs : List V) (i : Nat) (y1 y2 : Option V), i ≤ l.length ∧ m = l.length - i ∧ Grow [r] F H F' H' ∧ Rd K F' H' r ((l.drop i).flatMap shrT ++ us) ∧ Mu F' H' p (.lst zs) ∧ Rps F' zs ((l.take i).map encShare) ∧
        σ = [some (.ref r), some (.ref p), y1, y2]) l.length ⟨F2, [], 0, none, none, Nat.zero_le _, rfl, g2.mono (by simp), rd2, mp2, .nil, rfl⟩ ?_ ?_
    · rintro nx hnx m σ H' ⟨F4, zs, i, y1, y2, hi, rfl, G4, rd4, mp4, rz, rfl⟩
      walk_at "go"
      cases hq : l.drop i with
      | nil =>
        rw [hq] at rd4
        have hil := drop_end hq hi
        subst hil
        rw [List.take_length] at rz
        have rd4 : Rd K F4 H' r us := rd4
        refine x_sees (t := t0) (ts := us0) (eu ▸ rd4) G4.fh ?_
        rw [nk]
        walk_at "go"
        exact hnx _ _ ⟨F4, zs, _, _, G4, rd4, mp4, rz, rfl⟩
      | cons s l2 =>
        obtain ⟨hci, hlt, hdr⟩ := drop_get hq
        obtain ⟨sp1, sp2⟩ := hs s (List.mem_of_getElem? hci)
        rw [hq] at rd4
        have rd4 : Rd K F4 H' r (kw "share" :: ((shapeT s.1 ++ [.sym 58, .num s.2.1, kw "of", .num s.2.2, .sym 59]) ++ l2.flatMap shrT) ++ us) := rd4
        have rd4 : Rd K F4 H' r (kw "share" :: (shapeT s.1 ++ .sym 58 :: .num s.2.1 :: kw "of" :: .num s.2.2 :: .sym 59 :: (l2.flatMap shrT ++ us))) := by
          have e : (kw "share" :: ((shapeT s.1 ++ [.sym 58, .num s.2.1, kw "of", .num s.2.2, .sym 59]) ++ l2.flatMap shrT) ++ us) = kw "share" :: (shapeT s.1 ++ .sym 58 :: .num s.2.1 :: kw "of" :: .num s.2.2 :: .sym 59 :: (l2.flatMap shrT ++ us)) := by simp
          rw [← e]
          exact rd4
        refine x_sees rd4 G4.fh ?_
        rw [ti_kw_t]
        walk_at "go"
        refine r_whN ?_
        walk_at "go"
        refine x_skip rd4 G4.fh fun F5 H5 g5 rd5 => ?_
        have mp5 := g5.mu (one_not nep.symm) mp4
        walk_at "go"
        refine ⟨F5, r, s.1, 58, _, rfl, g5.fh, rd5, by decide, sp1, fun v6 F6 H6 g6 rd6 rv6 => ?_⟩
        have mp6 := g6.mu (one_not nep.symm) mp5
        walk_at "go"
        walk_at "ss"
        walk_at "go"
        refine x_take rd6 g6.fh (by rw [ti_sym colon_str]; rfl) fun F7 H7 g7 rd7 => ?_
        have mp7 := g7.mu (one_not nep.symm) mp6
        walk_at "go"
        refine x_num rd7 g7.fh (l := 0) rfl (Nat.zero_le _) fun F8 H8 g8 rd8 => ?_
        have mp8 := g8.mu (one_not nep.symm) mp7
        walk_at "go"
        walk_at "ss"
        walk_at "go"
        refine x_take rd8 g8.fh ti_kw_t fun F9 H9 g9 rd9 => ?_
        have mp9 := g9.mu (one_not nep.symm) mp8
        walk_at "go"
        refine x_num rd9 g9.fh (l := 1) rfl sp2 fun Fa Ha ga rda => ?_
        have mpa := ga.mu (one_not nep.symm) mp9
        walk_at "go"
        refine k_new ga.fh fun pt Fb Hb gb hpb npb => ?_
        have mpb := gb.mu nil_not mpa
        have rdb := rda.grow gb nil_not
        have rva := ga.rp (g9.rp (g8.rp (g7.rp rv6)))
        have rzb := gb.rps (ga.rps (g9.rps (g8.rps (g7.rps (g6.rps (g5.rps rz))))))
        have Gb := ((((((G4.comp g5 rr).comp g6 rr).comp g7 rr).comp g8 rr).comp g9 rr).comp ga rr).comp gb side_nil
        walk_at "go"
        refine r_append mpb.1 ?_ (k_wr gb.fh mpb fun Fc Hc gc mpc => ?_)
        · rw [rzb.len_map, List.length_take]
          omega
        have rdc := rdb.grow gc (one_not nep)
        walk_at "go"
        refine x_take rdc gc.fh (by rw [ti_sym semi_str]; rfl) fun Fd Hd gd rdd => ?_
        walk_at "go"
        refine ⟨l.length - (i + 1), by omega, Fd, _, i + 1, _, _, by omega, rfl, (Gb.comp gc (side_one (.inr np2))).comp gd rr, ?_, gd.mu (one_not nep.symm) mpc, ?_, rfl⟩
        · rw [hdr]
          exact rdd
        · exact Rps.snoc_map (gd.rps (gc.rps rzb)) hci (gd.rp (gc.rp (.tup hpb (.cons (gb.rp rva) (.cons (.int _) (.cons (.int _) .nil))))))
    · rintro σ H' ⟨F4, zs, y1, y2, G4, rd4, mp4, rz, rfl⟩
      walk_at "go"
      refine k_fz G4.fh mp4 fun F5 g5 hp5 => ?_
      exact k _ F5 H' (G4.comp g5 (side_one (.inr np2))) (rd4.grow g5 (one_not nep)) (.lst hp5 (g5.rps rz))

def sp_read_count (K : PySem.W.Frag) : Sp := fun vs H Q _ => ∃ (F : Hp) (r a : Addr) (ws : List Str) (n l : Nat) (us : List Tok), vs = [.ref r, .ref a, .int (l : Int)] ∧ Same F H ∧ Rd K F H r (ws.map kw ++ .num n :: .sym 59 :: us) ∧ F a = some (.lst (ws.map V.str)) ∧ l ≤ n ∧
  ∀ (F' H' : Hp), Grow [r] F H F' H' → Rd K F' H' r us → Q (.int (n : Int)) H'
abbrev N_read_count : List Str := ["reader", "words", "least", "word", "number"]
theorem sc_read_count : FnScope N_read_count ["reader", "words", "least"] (defScope s_read_count) := ⟨rfl, rfl, rfl, by decide +kernel, rfl, by decide +kernel, by decide +kernel⟩
theorem ok_read_count (T : Txt K mg) : OkG P w K mg base 4 "_read_count" ["reader", "words", "least"] (sp_read_count K) := by
  obtain ⟨f_SignReader_take, fd_SignReader_take, G_SignReader_take, m_SignReader_take, b_SignReader_take⟩ := ok_SignReader_take (P := P) (w := w) (base := base) T
  obtain ⟨f_SignReader_take_number, fd_SignReader_take_number, G_SignReader_take_number, m_SignReader_take_number, b_SignReader_take_number⟩ := ok_SignReader_take_number (P := P) (w := w) (base := base) T
  have cl_SignReader : Cls K (He.ga K "SignReader") := T.cls 87 rfl
  refine T.okG 50 39 rfl rfl (d := d_read_count) sc_read_count (fun _ _ _ _ _ _ us hl => match us, hl with | [_, _, _], _ => rfl) (fun vs H Q E h => ?_) (fun cdv A outer s H vs Q E hr h => ?_)
  · obtain ⟨_, _, _, _, _, _, _, rfl, _⟩ := h
    rfl
  · refine ⟨_, PSs.nox (pss_cons (ps_for PassesOwn.never rfl (pi_list (pv 1)) (pg_name (i := 3) sc_read_count.nd rfl (Or.inl rfl))
        (pss_one (ps_expr (pe_meth (pv 0) cl_SignReader m_SignReader_take G_SignReader_take (hr.mono (by decide)) b_SignReader_take .nil pass0 (pa_cons pe_str (pa_cons (pv 3) pa_nil))))))
      (pss_cons (ps_set (i := 4) sc_read_count.nd rfl (Or.inl rfl) (pe_meth (pv 0) cl_SignReader m_SignReader_take_number G_SignReader_take_number (hr.mono (by decide)) b_SignReader_take_number .nil pass0 (pa_cons (pv 2) pa_nil)))
      (pss_cons (ps_expr (pe_meth (pv 0) cl_SignReader m_SignReader_take G_SignReader_take (hr.mono (by decide)) b_SignReader_take .nil pass0 (pa_cons pe_str (pa_cons pe_str pa_nil))))
      (pss_one (ps_ret (pv 4)))))), ?_⟩
    obtain ⟨F, r, a, ws, n, l, us, rfl, ok, rd, ha, hln, k⟩ := h
    walk_at "go"
    refine r_itL (sql_fz ok ha) ?_
    refine loopL (xs := ws.map V.str) (fun i σ' H' => ∃ (F' : Hp) (y : Option V), Grow [r] F H F' H' ∧ Rd K F' H' r ((ws.drop i).map kw ++ .num n :: .sym 59 :: us) ∧ σ' = [some (.ref r), some (.ref a), some (.int (l : Int)), y, none])
      ⟨F, none, Grow.refl ok, rd, rfl⟩ (fun i σ' H' _ ⟨F', _, G, _⟩ => sql_fz G.fh (G.at ha)) ?_ ?_
    · rintro i x σ' H2 hx ⟨F2, y, G, rd2, rfl⟩
      obtain ⟨z, hz, rfl⟩ := map_at hx
      have ed : ws.drop i = z :: ws.drop (i + 1) := by
        obtain ⟨h1, h2⟩ := List.getElem?_eq_some_iff.mp hz
        rw [← h2]
        exact List.drop_eq_getElem_cons h1
      rw [ed] at rd2
      walk_at "go"
      walk_at "ss"
      walk_at "go"
      refine r_rdM rd2 (by decide +kernel) ?_
      walk_at "go"
      refine ⟨F2, r, _, _, _, _, rfl, G.fh, rd2, ti_kw_t, fun F3 H3 g3 rd3 => ?_⟩
      walk_at "go"
      exact ⟨F3, _, G.comp g3 rr, rd3, rfl⟩
    · rintro σ' H2 ⟨F2, y, G, rd2, rfl⟩
      rw [List.drop_eq_nil_of_le (by rw [List.length_map]; exact Nat.le_refl _)] at rd2
      have rd2 : Rd K F2 H2 r (.num n :: .sym 59 :: us) := rd2
      walk_at "go"
      refine r_rdM rd2 (by decide +kernel) ?_
      walk_at "go"
      refine ⟨F2, r, _, _, _, rfl, G.fh, rd2, hln, fun F3 H3 g3 rd3 => ?_⟩
      walk_at "go"
      walk_at "ss"
      walk_at "go"
      refine x_take rd3 g3.fh (by rw [ti_sym semi_str]; rfl) fun F4 H4 g4 rd4 => ?_
      walk_at "go"
      exact k F4 H4 ((G.comp g3 rr).comp g4 rr) rd4

end
section
variable {P : Program} {w : World} {K : PySem.W.Frag} {mg : Str → Option Value} {base : Heap}

theorem k_fld {F H : Hp} {rl C dx : Addr} {fs : List (Str × V)} {f : Str} {v : V} {P : Hp → Prop} (ok : Same F H) (m : Mu F H rl (.ins C dx fs)) (c : Cls K C) (n : NoAttr K C f) (hl : fs.length < 1000)
    (k : ∀ F' H', Grow [rl] F H F' H' → Mu F' H' rl (.ins C dx (putF f v fs)) → P H') : ∃ a C' dx' fs', V.ref rl = V.ref a ∧ H a = some (.ins C' dx' fs') ∧ Cls K C' ∧ NoAttr K C' f ∧ fs'.length < 1000 ∧ P (upd H a (.ins C' dx' (putF f v fs'))) :=
  ⟨rl, C, dx, fs, rfl, m.1, c, n, hl, k _ _ (mu_wr ok m) ⟨upd_same, m.2⟩⟩
def GW (K : PySem.W.Frag) (x : V) (H2 : Hp) (f : Str) (v : V) (P : Hp → Prop) : Prop := ∃ a C dx fs, x = V.ref a ∧ H2 a = some (.ins C dx fs) ∧ Cls K C ∧ NoAttr K C f ∧ fs.length < 1000 ∧ P (upd H2 a (.ins C dx (putF f v fs)))
theorem r_gFldW {σ : L2.St} {H : Hp} {to : TE} {f : Str} {v : V} {Q : L2.St → Hp → Prop} (q : to σ H fun x H2 => GW K x H2 f v (fun H3 => Q σ H3)) : gFld K to f v σ H Q := q
theorem k_fldG {F H : Hp} {rl C dx : Addr} {fs : List (Str × V)} {f : Str} {v : V} {P : Hp → Prop} (ok : Same F H) (m : Mu F H rl (.ins C dx fs)) (c : Cls K C) (n : NoAttr K C f) (hl : fs.length < 1000)
    (k : ∀ F' H', Grow [rl] F H F' H' → Mu F' H' rl (.ins C dx (putF f v fs)) → P H') : GW K (.ref rl) H f v P :=
  ⟨rl, C, dx, fs, rfl, m.1, c, n, hl, k _ _ (mu_wr ok m) ⟨upd_same, m.2⟩⟩
theorem Txt.nR (T : Txt K mg) (i : Nat) {f : Str} (h : fa[89 + i]? = some (.noat "Rules" f)) : NoAttr K (RUF K) f := T.noat (89 + i) h
def MkW (C : Addr) (sp : Sp) (vs : List V) (E : XK) (H1 : Hp) (Q : VK) : Prop := ∀ x dx, H1 x = none → H1 dx = none → dx ≠ x → sp (.ref x :: vs) (upd (upd H1 dx (.own x)) x (.ins C dx [])) (fun v H2 => v = .non ∧ Q (.ref x) H2) E
theorem r_makeW {σ : L2.St} {H : Hp} {Q : VK} {C : Addr} {sp : Sp} {dvs : List V} {E : XK} {t : TA} (q : t σ H fun vs H1 => MkW C sp (vs ++ dvs) E H1 Q) : tMake C sp dvs E t σ H Q := q
theorem k_make2 {F H : Hp} {C : Addr} {sp : Sp} {vs : List V} {Q : VK} {E : XK} (ok : Same F H) (k : ∀ x dx F' H', Grow [] F H F' H' → Mu F' H' x (.ins C dx []) → H x = none → sp (.ref x :: vs) H' (fun v H2 => v = .non ∧ Q (.ref x) H2) E) : MkW C sp vs E H Q :=
  k_make (A := fun x H' => sp (.ref x :: vs) H' (fun v H2 => v = .non ∧ Q (.ref x) H2) E) ok k
theorem put_len {f : Str} {v : V} {fs : List (Str × V)} {n : Nat} (h : fs.length ≤ n) : (putF f v fs).length ≤ n + 1 := by
  have := length_putF f v fs
  omega
theorem lk_hit {f : Str} {v : V} {fs : List (Str × V)} : (putF f v fs).lookup f = some v := by rw [lookup_putF, if_pos rfl]
theorem lk_skip {f g : Str} {v : V} {fs : List (Str × V)} (h : ¬ g = f) : (putF f v fs).lookup g = fs.lookup g := by rw [lookup_putF, if_neg h]
def sp_Rules_init (K : PySem.W.Frag) : Sp := fun vs H Q _ => ∃ (F : Hp) (r dx : Addr), vs = [.ref r] ∧ Same F H ∧ Mu F H r (.ins (RUF K) dx []) ∧ ∀ (fs : List (Str × V)) (F' H' : Hp), fs.length ≤ 17 → Grow [r] F H F' H' → Mu F' H' r (.ins (RUF K) dx fs) → Q .non H'
abbrev N_Rules_init : List Str := ["self"]
theorem sc_Rules_init : FnScope N_Rules_init ["self"] (defScope s_Rules_init) := ⟨rfl, rfl, rfl, by decide +kernel, rfl, by decide +kernel, by decide +kernel⟩
theorem ok_Rules_init (T : Txt K mg) : OkI P w K mg base 1 "Rules" ["self"] (sp_Rules_init K) := by
  refine T.okI 28 86 77 rfl rfl rfl (d := d_Rules_init) sc_Rules_init (fun _ _ _ _ _ _ us hl => match us, hl with | [_], _ => rfl) (fun vs H Q E h => ?_) (fun cdv A outer s H vs Q E hr h => ?_)
  · obtain ⟨_, _, _, rfl, _⟩ := h
    rfl
  · refine ⟨_, PSs.nox (pss_cons (ps_fld (pv 0) (pe_lst pa_nil) rfl)
      (pss_cons (ps_fld (pv 0) (pe_lst pa_nil) rfl)
      (pss_cons (ps_fld (pv 0) (pe_lst pa_nil) rfl)
      (pss_cons (ps_fld (pv 0) pe_int rfl)
      (pss_cons (ps_fld (pv 0) pe_int rfl)
      (pss_cons (ps_fld (pv 0) (pe_lst pa_nil) rfl)
      (pss_cons (ps_fld (pv 0) pe_str rfl)
      (pss_cons (ps_fld (pv 0) pe_int rfl)
      (pss_cons (ps_fld (pv 0) (pe_lst pa_nil) rfl)
      (pss_cons (ps_fld (pv 0) pe_int rfl)
      (pss_cons (ps_fld (pv 0) pe_int rfl)
      (pss_cons (ps_fld (pv 0) pe_int rfl)
      (pss_cons (ps_fld (pv 0) pe_int rfl)
      (pss_cons (ps_fld (pv 0) pe_int rfl)
      (pss_cons (ps_fld (pv 0) pe_int rfl)
      (pss_cons (ps_fld (pv 0) pe_int rfl)
      (pss_one (ps_fld (pv 0) pe_int rfl)))))))))))))))))), ?_⟩
    obtain ⟨F0, r, dx, rfl, ok0, m0, k⟩ := h
    have G0 : Grow [r] F0 H F0 H := Grow.refl ok0
    have hl0 : ([] : List (Str × V)).length ≤ 0 := Nat.le_refl _
    have H0e : H = H := rfl
    walk_at "go"
    refine k_new ok0 fun p0a F0a H0a g0a hp0a np0a => ?_
    have ok0a := g0a.fh
    have m0a := g0a.mu nil_not m0
    have G0a := G0.comp g0a side_nil
    walk_at "go"
    have hl0a := hl0
    refine k_fld ok0a m0a T.cR (T.nR 0 rfl) (by omega) fun F0b H0b g0b m0b => ?_
    have ok0b := g0b.fh
    have G0b := G0a.comp g0b rr
    have hl0b := put_len (f := "sources") (v := .ref p0a) hl0a
    walk_at "go"
    refine k_new ok0b fun p1a F1a H1a g1a hp1a np1a => ?_
    have ok1a := g1a.fh
    have m1a := g1a.mu nil_not m0b
    have G1a := G0b.comp g1a side_nil
    walk_at "go"
    have hl1a := hl0b
    refine k_fld ok1a m1a T.cR (T.nR 1 rfl) (by omega) fun F1b H1b g1b m1b => ?_
    have ok1b := g1b.fh
    have G1b := G1a.comp g1b rr
    have hl1b := put_len (f := "changes") (v := .ref p1a) hl1a
    walk_at "go"
    refine k_new ok1b fun p2a F2a H2a g2a hp2a np2a => ?_
    have ok2a := g2a.fh
    have m2a := g2a.mu nil_not m1b
    have G2a := G1b.comp g2a side_nil
    walk_at "go"
    have hl2a := hl1b
    refine k_fld ok2a m2a T.cR (T.nR 2 rfl) (by omega) fun F2b H2b g2b m2b => ?_
    have ok2b := g2b.fh
    have G2b := G2a.comp g2b rr
    have hl2b := put_len (f := "banned") (v := .ref p2a) hl2a
    walk_at "go"
    refine k_fld ok2b m2b T.cR (T.nR 3 rfl) (by omega) fun F3b H3b g3b m3b => ?_
    have ok3b := g3b.fh
    have G3b := G2b.comp g3b rr
    have hl3b := put_len (f := "line_words") (v := .int 0) hl2b
    walk_at "go"
    refine k_fld ok3b m3b T.cR (T.nR 4 rfl) (by omega) fun F4b H4b g4b m4b => ?_
    have ok4b := g4b.fh
    have G4b := G3b.comp g4b rr
    have hl4b := put_len (f := "line_documents") (v := .int 0) hl3b
    walk_at "go"
    refine k_new ok4b fun p5a F5a H5a g5a hp5a np5a => ?_
    have ok5a := g5a.fh
    have m5a := g5a.mu nil_not m4b
    have G5a := G4b.comp g5a side_nil
    walk_at "go"
    have hl5a := hl4b
    refine k_fld ok5a m5a T.cR (T.nR 5 rfl) (by omega) fun F5b H5b g5b m5b => ?_
    have ok5b := g5b.fh
    have G5b := G5a.comp g5b rr
    have hl5b := put_len (f := "hidden") (v := .ref p5a) hl5a
    walk_at "go"
    refine k_fld ok5b m5b T.cR (T.nR 6 rfl) (by omega) fun F6b H6b g6b m6b => ?_
    have ok6b := g6b.fh
    have G6b := G5b.comp g6b rr
    have hl6b := put_len (f := "mark") (v := .str "") hl5b
    walk_at "go"
    refine k_fld ok6b m6b T.cR (T.nR 7 rfl) (by omega) fun F7b H7b g7b m7b => ?_
    have ok7b := g7b.fh
    have G7b := G6b.comp g7b rr
    have hl7b := put_len (f := "document_words") (v := .int 1) hl6b
    walk_at "go"
    refine k_new ok7b fun p8a F8a H8a g8a hp8a np8a => ?_
    have ok8a := g8a.fh
    have m8a := g8a.mu nil_not m7b
    have G8a := G7b.comp g8a side_nil
    walk_at "go"
    have hl8a := hl7b
    refine k_fld ok8a m8a T.cR (T.nR 8 rfl) (by omega) fun F8b H8b g8b m8b => ?_
    have ok8b := g8b.fh
    have G8b := G8a.comp g8b rr
    have hl8b := put_len (f := "shares") (v := .ref p8a) hl8a
    walk_at "go"
    refine k_fld ok8b m8b T.cR (T.nR 9 rfl) (by omega) fun F9b H9b g9b m9b => ?_
    have ok9b := g9b.fh
    have G9b := G8b.comp g9b rr
    have hl9b := put_len (f := "alike_least") (v := .int 1) hl8b
    walk_at "go"
    refine k_fld ok9b m9b T.cR (T.nR 10 rfl) (by omega) fun F10b H10b g10b m10b => ?_
    have ok10b := g10b.fh
    have G10b := G9b.comp g10b rr
    have hl10b := put_len (f := "alike_of") (v := .int 1) hl9b
    walk_at "go"
    refine k_fld ok10b m10b T.cR (T.nR 11 rfl) (by omega) fun F11b H11b g11b m11b => ?_
    have ok11b := g11b.fh
    have G11b := G10b.comp g11b rr
    have hl11b := put_len (f := "run_words") (v := .int 1) hl10b
    walk_at "go"
    refine k_fld ok11b m11b T.cR (T.nR 12 rfl) (by omega) fun F12b H12b g12b m12b => ?_
    have ok12b := g12b.fh
    have G12b := G11b.comp g12b rr
    have hl12b := put_len (f := "phrase_words") (v := .int 1) hl11b
    walk_at "go"
    refine k_fld ok12b m12b T.cR (T.nR 13 rfl) (by omega) fun F13b H13b g13b m13b => ?_
    have ok13b := g13b.fh
    have G13b := G12b.comp g13b rr
    have hl13b := put_len (f := "piece_words") (v := .int 1) hl12b
    walk_at "go"
    refine k_fld ok13b m13b T.cR (T.nR 14 rfl) (by omega) fun F14b H14b g14b m14b => ?_
    have ok14b := g14b.fh
    have G14b := G13b.comp g14b rr
    have hl14b := put_len (f := "join_limit") (v := .int 0) hl13b
    walk_at "go"
    refine k_fld ok14b m14b T.cR (T.nR 15 rfl) (by omega) fun F15b H15b g15b m15b => ?_
    have ok15b := g15b.fh
    have G15b := G14b.comp g15b rr
    have hl15b := put_len (f := "page_codes") (v := .int 1) hl14b
    walk_at "go"
    refine k_fld ok15b m15b T.cR (T.nR 16 rfl) (by omega) fun F16b H16b g16b m16b => ?_
    have ok16b := g16b.fh
    have G16b := G15b.comp g16b rr
    have hl16b := put_len (f := "volume_pages") (v := .int 1) hl15b
    walk_at "go"
    exact k _ _ _ (by exact hl16b) G16b m16b

def alkF (fs : List (Str × V)) : List (Str × V) := putF "run_words" (.int 3) (putF "alike_of" (.int 2) (putF "alike_least" (.int 1) fs))
theorem alk_len {fs : List (Str × V)} {n : Nat} (h : fs.length ≤ n) : (alkF fs).length ≤ n + 1 + 1 + 1 := put_len (put_len (put_len h))
theorem lk_alk {g : Str} {fs : List (Str × V)} (h1 : ¬ g = "run_words") (h2 : ¬ g = "alike_of") (h3 : ¬ g = "alike_least") : (alkF fs).lookup g = fs.lookup g := (lk_skip h1).trans ((lk_skip h2).trans (lk_skip h3))
def sp_read_alike (K : PySem.W.Frag) : Sp := fun vs H Q _ => ∃ (F : Hp) (r rl dx : Addr) (fs : List (Str × V)) (us : List Tok), vs = [.ref r, .ref rl] ∧ Same F H ∧ Rd K F H r (alkT ++ us) ∧ Mu F H rl (.ins (RUF K) dx fs) ∧ r ≠ rl ∧ fs.length ≤ 900 ∧
  ∀ (F' H' : Hp), Grow [r, rl] F H F' H' → Rd K F' H' r us → Mu F' H' rl (.ins (RUF K) dx (alkF fs)) → Q .non H'
abbrev N_read_alike : List Str := ["reader", "rules"]
theorem sc_read_alike : FnScope N_read_alike ["reader", "rules"] (defScope s_read_alike) := ⟨rfl, rfl, rfl, by decide +kernel, rfl, by decide +kernel, by decide +kernel⟩
theorem ok_read_alike (T : Txt K mg) : OkG P w K mg base 4 "_read_alike" ["reader", "rules"] (sp_read_alike K) := by
  obtain ⟨f_SignReader_take, fd_SignReader_take, G_SignReader_take, m_SignReader_take, b_SignReader_take⟩ := ok_SignReader_take (P := P) (w := w) (base := base) T
  obtain ⟨f_SignReader_take_number, fd_SignReader_take_number, G_SignReader_take_number, m_SignReader_take_number, b_SignReader_take_number⟩ := ok_SignReader_take_number (P := P) (w := w) (base := base) T
  obtain ⟨f_SignReader_take_second, fd_SignReader_take_second, G_SignReader_take_second, m_SignReader_take_second, b_SignReader_take_second⟩ := ok_SignReader_take_second (P := P) (w := w) (base := base) T
  have cl_SignReader : Cls K (He.ga K "SignReader") := T.cls 87 rfl
  refine T.okG 49 38 rfl rfl (d := d_read_alike) sc_read_alike (fun _ _ _ _ _ _ us hl => match us, hl with | [_, _], _ => rfl) (fun vs H Q E h => ?_) (fun cdv A outer s H vs Q E hr h => ?_)
  · obtain ⟨_, _, _, _, _, _, rfl, _⟩ := h
    rfl
  · refine ⟨_, PSs.nox (pss_cons (ps_expr (pe_meth (pv 0) cl_SignReader m_SignReader_take G_SignReader_take (hr.mono (by decide)) b_SignReader_take .nil pass0 (pa_cons pe_str (pa_cons pe_str pa_nil))))
      (pss_cons (ps_fld (pv 1) (pe_meth (pv 0) cl_SignReader m_SignReader_take_number G_SignReader_take_number (hr.mono (by decide)) b_SignReader_take_number .nil pass0 (pa_cons pe_int pa_nil)) rfl)
      (pss_cons (ps_expr (pe_meth (pv 0) cl_SignReader m_SignReader_take G_SignReader_take (hr.mono (by decide)) b_SignReader_take .nil pass0 (pa_cons pe_str (pa_cons pe_str pa_nil))))
      (pss_cons (ps_fld (pv 1) (pe_meth (pv 0) cl_SignReader m_SignReader_take_second G_SignReader_take_second (hr.mono (by decide)) b_SignReader_take_second .nil pass0 (pa_cons (pe_fld (pv 1) rfl) pa_nil)) rfl)
      (pss_cons (ps_expr (pe_meth (pv 0) cl_SignReader m_SignReader_take G_SignReader_take (hr.mono (by decide)) b_SignReader_take .nil pass0 (pa_cons pe_str (pa_cons pe_str pa_nil))))
      (pss_cons (ps_expr (pe_meth (pv 0) cl_SignReader m_SignReader_take G_SignReader_take (hr.mono (by decide)) b_SignReader_take .nil pass0 (pa_cons pe_str (pa_cons pe_str pa_nil))))
      (pss_cons (ps_expr (pe_meth (pv 0) cl_SignReader m_SignReader_take G_SignReader_take (hr.mono (by decide)) b_SignReader_take .nil pass0 (pa_cons pe_str (pa_cons pe_str pa_nil))))
      (pss_cons (ps_fld (pv 1) (pe_meth (pv 0) cl_SignReader m_SignReader_take_number G_SignReader_take_number (hr.mono (by decide)) b_SignReader_take_number .nil pass0 (pa_cons pe_int pa_nil)) rfl)
      (pss_one (ps_expr (pe_meth (pv 0) cl_SignReader m_SignReader_take G_SignReader_take (hr.mono (by decide)) b_SignReader_take .nil pass0 (pa_cons pe_str (pa_cons pe_str pa_nil))))))))))))), ?_⟩
    obtain ⟨F, r, rl, dx, fs, us, rfl, ok, rd, m, ne, hl, k⟩ := h
    have rd : Rd K F H r (kw "alike" :: .num 1 :: kw "of" :: .num 2 :: .sym 44 :: kw "runs" :: kw "of" :: .num 3 :: .sym 59 :: us) := rd
    have sr : ∀ {H0 : Hp}, ∀ a ∈ [r], a ∈ [r, rl] ∨ H0 a = none := fun a z => .inl (by simp at z ⊢; exact .inl z)
    have sl : ∀ {H0 : Hp}, ∀ a ∈ [rl], a ∈ [r, rl] ∨ H0 a = none := fun a z => .inl (by simp at z ⊢; exact .inr z)
    have G0 : Grow [r, rl] F H F H := Grow.refl ok
    walk_at "go"
    refine x_take rd ok ti_kw_t fun F1 H1 g1 rd1 => ?_
    have m1 := g1.mu (one_not ne.symm) m
    walk_at "go"
    refine x_num rd1 g1.fh (l := 1) rfl (Nat.le_refl _) fun F2 H2 g2 rd2 => ?_
    have m2 := g2.mu (one_not ne.symm) m1
    walk_at "go"
    refine k_fld g2.fh m2 T.cR (T.nR 9 rfl) (by omega) fun F3 H3 g3 m3 => ?_
    have rd3 := rd2.grow g3 (one_not ne)
    have hl3 := put_len (f := "alike_least") (v := .int ((1 : Nat) : Int)) hl
    walk_at "go"
    refine x_take rd3 g3.fh ti_kw_t fun F4 H4 g4 rd4 => ?_
    have m4 := g4.mu (one_not ne.symm) m3
    walk_at "go"
    refine r_rdM rd4 (by decide +kernel) ?_
    walk_at "go"
    refine r_fldV m4.1 T.cR (T.nR 9 rfl) lk_hit ?_
    walk_at "go"
    refine ⟨F4, r, 2, 1, _, rfl, g4.fh, rd4, by decide, fun F5 H5 g5 rd5 => ?_⟩
    have m5 := g5.mu (one_not ne.symm) m4
    walk_at "go"
    refine k_fld g5.fh m5 T.cR (T.nR 10 rfl) (by omega) fun F6 H6 g6 m6 => ?_
    have rd6 := rd5.grow g6 (one_not ne)
    have hl6 := put_len (f := "alike_of") (v := .int ((2 : Nat) : Int)) hl3
    walk_at "go"
    refine x_take rd6 g6.fh (by rw [ti_sym comma_str]; rfl) fun F7 H7 g7 rd7 => ?_
    have m7 := g7.mu (one_not ne.symm) m6
    walk_at "go"
    refine x_take rd7 g7.fh ti_kw_t fun F8 H8 g8 rd8 => ?_
    have m8 := g8.mu (one_not ne.symm) m7
    walk_at "go"
    refine x_take rd8 g8.fh ti_kw_t fun F9 H9 g9 rd9 => ?_
    have m9 := g9.mu (one_not ne.symm) m8
    walk_at "go"
    refine x_num rd9 g9.fh (l := 1) rfl (by decide) fun Fa Ha ga rda => ?_
    have ma := ga.mu (one_not ne.symm) m9
    walk_at "go"
    refine k_fld ga.fh ma T.cR (T.nR 11 rfl) (by omega) fun Fb Hb gb mb => ?_
    have rdb := rda.grow gb (one_not ne)
    walk_at "go"
    refine x_take rdb gb.fh (by rw [ti_sym semi_str]; rfl) fun Fc Hc gc rdc => ?_
    have mc := gc.mu (one_not ne.symm) mb
    walk_at "go"
    exact k Fc Hc ((((((((((((G0.comp g1 sr).comp g2 sr).comp g3 sl).comp g4 sr).comp g5 sr).comp g6 sl).comp g7 sr).comp g8 sr).comp g9 sr).comp ga sr).comp gb sl).comp gc sr) rdc mc

end
section
variable {P : Program} {w : World} {K : PySem.W.Frag} {mg : Str → Option Value} {base : Heap}

def sp_parse_rules (K : PySem.W.Frag) : Sp := fun vs H Q _ => ∃ (F : Hp) (t : List Nat) (R : Ru), vs = [.str (S t)] ∧ Same F H ∧ t.length ≤ 100000 ∧ Lex t (toks R) ∧ RV R ∧
  ∀ (v : V) (F' H' : Hp), Grow [] F H F' H' → RuAt (RUF K) F' v R → Q v H'
abbrev N_parse_rules : List Str := ["text", "reader", "rules"]
theorem sc_parse_rules : FnScope N_parse_rules ["text"] (defScope s_parse_rules) := ⟨rfl, rfl, rfl, by decide +kernel, rfl, by decide +kernel, by decide +kernel⟩
theorem ok_parse_rules (T : Txt K mg) : OkG P w K mg base 8 "parse_rules" ["text"] (sp_parse_rules K) := by
  obtain ⟨f_SignReader_init, fd_SignReader_init, G_SignReader_init, M_SignReader, mg_SignReader, b_SignReader_init⟩ := ok_SignReader_init (P := P) (w := w) (base := base) T
  obtain ⟨f_read_signs, fd_read_signs, G_read_signs, mg_read_signs, kp_read_signs, b_read_signs⟩ := ok_read_signs (P := P) (w := w) (base := base) T
  obtain ⟨f_Rules_init, fd_Rules_init, G_Rules_init, M_Rules, mg_Rules, b_Rules_init⟩ := ok_Rules_init (P := P) (w := w) (base := base) T
  obtain ⟨f_read_sources, fd_read_sources, G_read_sources, mg_read_sources, kp_read_sources, b_read_sources⟩ := ok_read_sources (P := P) (w := w) (base := base) T
  obtain ⟨f_read_changes, fd_read_changes, G_read_changes, mg_read_changes, kp_read_changes, b_read_changes⟩ := ok_read_changes (P := P) (w := w) (base := base) T
  obtain ⟨f_read_banned, fd_read_banned, G_read_banned, mg_read_banned, kp_read_banned, b_read_banned⟩ := ok_read_banned (P := P) (w := w) (base := base) T
  obtain ⟨f_read_lines, fd_read_lines, G_read_lines, mg_read_lines, kp_read_lines, b_read_lines⟩ := ok_read_lines (P := P) (w := w) (base := base) T
  obtain ⟨f_read_hidden, fd_read_hidden, G_read_hidden, mg_read_hidden, kp_read_hidden, b_read_hidden⟩ := ok_read_hidden (P := P) (w := w) (base := base) T
  obtain ⟨f_read_mark, fd_read_mark, G_read_mark, mg_read_mark, kp_read_mark, b_read_mark⟩ := ok_read_mark (P := P) (w := w) (base := base) T
  obtain ⟨f_read_count, fd_read_count, G_read_count, mg_read_count, kp_read_count, b_read_count⟩ := ok_read_count (P := P) (w := w) (base := base) T
  obtain ⟨f_read_shares, fd_read_shares, G_read_shares, mg_read_shares, kp_read_shares, b_read_shares⟩ := ok_read_shares (P := P) (w := w) (base := base) T
  obtain ⟨f_read_alike, fd_read_alike, G_read_alike, mg_read_alike, kp_read_alike, b_read_alike⟩ := ok_read_alike (P := P) (w := w) (base := base) T
  obtain ⟨f_SignReader_demand, fd_SignReader_demand, G_SignReader_demand, m_SignReader_demand, b_SignReader_demand⟩ := ok_SignReader_demand (P := P) (w := w) (base := base) T
  have cl_SignReader : Cls K (He.ga K "SignReader") := T.cls 87 rfl
  refine T.okG 51 40 rfl rfl (d := d_parse_rules) sc_parse_rules (fun _ _ _ _ _ _ us hl => match us, hl with | [_], _ => rfl) (fun vs H Q E h => ?_) (fun cdv A outer s H vs Q E hr h => ?_)
  · obtain ⟨_, _, _, rfl, _⟩ := h
    rfl
  · refine ⟨_, PSs.nox (pss_cons (ps_set (i := 1) sc_parse_rules.nd rfl (Or.inl rfl) (pe_make M_SignReader G_SignReader_init (hr.mono (by decide)) rfl mg_SignReader b_SignReader_init .nil pass0 (pa_cons (pe_call G_read_signs (hr.mono (by decide)) rfl mg_read_signs kp_read_signs b_read_signs .nil pass0 (pa_cons (pv 0) pa_nil)) pa_nil)))
      (pss_cons (ps_set (i := 2) sc_parse_rules.nd rfl (Or.inl rfl) (pe_make0 M_Rules G_Rules_init (hr.mono (by decide)) rfl mg_Rules b_Rules_init .nil pass0))
      (pss_cons (ps_fld (pv 2) (pe_call G_read_sources (hr.mono (by decide)) rfl mg_read_sources kp_read_sources b_read_sources .nil pass0 (pa_cons (pv 1) pa_nil)) rfl)
      (pss_cons (ps_fld (pv 2) (pe_call G_read_changes (hr.mono (by decide)) rfl mg_read_changes kp_read_changes b_read_changes .nil pass0 (pa_cons (pv 1) pa_nil)) rfl)
      (pss_cons (ps_fld (pv 2) (pe_call G_read_banned (hr.mono (by decide)) rfl mg_read_banned kp_read_banned b_read_banned .nil pass0 (pa_cons (pv 1) pa_nil)) rfl)
      (pss_cons (ps_asg (pe_call G_read_lines (hr.mono (by decide)) rfl mg_read_lines kp_read_lines b_read_lines .nil pass0 (pa_cons (pv 1) pa_nil)) (pg_tup (by rfl) (pgs_cons (pg_fld (pv 2)) (pgs_cons (pg_fld (pv 2)) pgs_nil))))
      (pss_cons (ps_fld (pv 2) (pe_call G_read_hidden (hr.mono (by decide)) rfl mg_read_hidden kp_read_hidden b_read_hidden .nil pass0 (pa_cons (pv 1) pa_nil)) rfl)
      (pss_cons (ps_fld (pv 2) (pe_call G_read_mark (hr.mono (by decide)) rfl mg_read_mark kp_read_mark b_read_mark .nil pass0 (pa_cons (pv 1) (pa_cons (pe_fld (pv 2) rfl) pa_nil))) rfl)
      (pss_cons (ps_fld (pv 2) (pe_call G_read_count (hr.mono (by decide)) rfl mg_read_count kp_read_count b_read_count .nil pass0 (pa_cons (pv 1) (pa_cons (pe_lst (pa_cons pe_str (pa_cons pe_str pa_nil))) (pa_cons pe_int pa_nil)))) rfl)
      (pss_cons (ps_fld (pv 2) (pe_call G_read_shares (hr.mono (by decide)) rfl mg_read_shares kp_read_shares b_read_shares .nil pass0 (pa_cons (pv 1) pa_nil)) rfl)
      (pss_cons (ps_expr (pe_call G_read_alike (hr.mono (by decide)) rfl mg_read_alike kp_read_alike b_read_alike .nil pass0 (pa_cons (pv 1) (pa_cons (pv 2) pa_nil))))
      (pss_cons (ps_fld (pv 2) (pe_call G_read_count (hr.mono (by decide)) rfl mg_read_count kp_read_count b_read_count .nil pass0 (pa_cons (pv 1) (pa_cons (pe_lst (pa_cons pe_str pa_nil)) (pa_cons pe_int pa_nil)))) rfl)
      (pss_cons (ps_fld (pv 2) (pe_call G_read_count (hr.mono (by decide)) rfl mg_read_count kp_read_count b_read_count .nil pass0 (pa_cons (pv 1) (pa_cons (pe_lst (pa_cons pe_str (pa_cons pe_str pa_nil))) (pa_cons pe_int pa_nil)))) rfl)
      (pss_cons (ps_fld (pv 2) (pe_call G_read_count (hr.mono (by decide)) rfl mg_read_count kp_read_count b_read_count .nil pass0 (pa_cons (pv 1) (pa_cons (pe_lst (pa_cons pe_str pa_nil)) (pa_cons pe_int pa_nil)))) rfl)
      (pss_cons (ps_fld (pv 2) (pe_call G_read_count (hr.mono (by decide)) rfl mg_read_count kp_read_count b_read_count .nil pass0 (pa_cons (pv 1) (pa_cons (pe_lst (pa_cons pe_str pa_nil)) (pa_cons pe_int pa_nil)))) rfl)
      (pss_cons (ps_fld (pv 2) (pe_call G_read_count (hr.mono (by decide)) rfl mg_read_count kp_read_count b_read_count .nil pass0 (pa_cons (pv 1) (pa_cons (pe_lst (pa_cons pe_str pa_nil)) (pa_cons pe_int pa_nil)))) rfl)
      (pss_cons (ps_expr (pe_meth (pv 1) cl_SignReader m_SignReader_demand G_SignReader_demand (hr.mono (by decide)) b_SignReader_demand .nil pass0 (pa_cons pe_str pa_nil)))
      (pss_one (ps_ret (pv 2)))))))))))))))))))), ?_⟩
    obtain ⟨F, t, R, rfl, ok, ht, lx, hR, k⟩ := h
    walk_at "go"
    refine r_makeW ?_
    walk_at "go"
    refine ⟨F, t, toks R, rfl, ok, ht, lx, fun v Fs Hs gs ⟨sg, xs, ev, hsg, en⟩ => ?_⟩
    subst ev
    walk_at "go"
    refine k_make2 gs.fh fun r dxr Fr Hr gr mr nr => ?_
    refine ⟨Fr, r, dxr, sg, rfl, gr.fh, mr, fun F1 H1 g1 m1 => ⟨rfl, ?_⟩⟩
    have nr0 : H r = none := gs.back0 nr
    have G1 : Grow [] F H F1 H1 := (gs.comp gr side_nil).comp g1 (side_one (.inr nr0))
    have rd1 : Rd K F1 H1 r (toks R ++ [.fin]) := ⟨dxr, sg, xs, _, 0, m1, g1.at (gr.at hsg), (en.up gr.ff).up g1.ff, rfl⟩
    unfold toks at rd1
    simp only [List.append_assoc] at rd1
    walk_at "ss"
    walk_at "go"
    refine r_makeW ?_
    walk_at "go"
    refine k_make2 g1.fh fun rl dx F2 H2 g2 m2 nl2 => ?_
    have rd2 := rd1.grow g2 nil_not
    have nl0 : H rl = none := G1.back0 nl2
    have ne : r ≠ rl := rd1.ne nl2
    have G2 := G1.comp g2 side_nil
    refine ⟨F2, rl, dx, rfl, g2.fh, m2, fun fs F3 H3 hl3 g3 m3 => ⟨rfl, ?_⟩⟩
    have rd3 := rd2.grow g3 (one_not ne)
    have G3 := G2.comp g3 (side_one (.inr nl0))
    have nkL : ∀ z us, tokIs (kw "lines") "name" z = false → tokIs (kw "hide") "name" z = false → tokIs (kw "mark") "name" z = false → NotKw z (linesT R ++ (R.hidden.flatMap hidT ++ (mrkT R ++ us))) := fun z us h1 h2 h3 => notKw_lines h1 (notKw_flat (fun x => ⟨_, rfl⟩) h2 (notKw_kw h3))
    walk_at "ss"
    walk_at "go"
    refine ⟨F3, r, _, rfl, g3.fh, rd3, fun v0 F4 H4 g4 rd4 rv0 => ?_⟩
    have G4 := G3.comp g4 (side_one (.inr nr0))
    have m4 := g4.mu (one_not ne.symm) m3
    have hl4 := hl3
    walk_at "go"
    refine k_fld g4.fh m4 T.cR (T.nR 0 rfl) (Nat.lt_of_le_of_lt hl4 (by decide)) fun F5 H5 g5 m5 => ?_
    have rd5 := rd4.grow g5 (one_not ne)
    have G5 := G4.comp g5 (side_one (.inr nl0))
    have hl5 := put_len (f := "sources") (v := v0) hl4
    walk_at "go"
    refine ⟨F5, r, R.changes, _, rfl, g5.fh, rd5, notKw_ban (by decide +kernel) (nkL _ _ (by decide +kernel) (by decide +kernel) (by decide +kernel)), Nat.le_trans hR.ch.1 (by decide), hR.ch.2.2, fun v1 F6 H6 g6 rd6 rv1 => ?_⟩
    have G6 := G5.comp g6 (side_one (.inr nr0))
    have m6 := g6.mu (one_not ne.symm) m5
    have hl6 := hl5
    walk_at "go"
    refine k_fld g6.fh m6 T.cR (T.nR 1 rfl) (Nat.lt_of_le_of_lt hl6 (by decide)) fun F7 H7 g7 m7 => ?_
    have rd7 := rd6.grow g7 (one_not ne)
    have G7 := G6.comp g7 (side_one (.inr nl0))
    have hl7 := put_len (f := "changes") (v := v1) hl6
    walk_at "go"
    refine ⟨F7, r, R.banned, _, rfl, g7.fh, rd7, nkL _ _ (by decide +kernel) (by decide +kernel) (by decide +kernel), Nat.le_trans hR.ban.1 (by decide), fun w hw => ⟨Nat.le_trans (hR.ban.2 w hw).1 (by decide), (hR.ban.2 w hw).2⟩, fun v2 F8 H8 g8 rd8 rv2 => ?_⟩
    have G8 := G7.comp g8 (side_one (.inr nr0))
    have m8 := g8.mu (one_not ne.symm) m7
    have hl8 := hl7
    walk_at "go"
    refine k_fld g8.fh m8 T.cR (T.nR 2 rfl) (Nat.lt_of_le_of_lt hl8 (by decide)) fun F9 H9 g9 m9 => ?_
    have rd9 := rd8.grow g9 (one_not ne)
    have G9 := G8.comp g9 (side_one (.inr nl0))
    have hl9 := put_len (f := "banned") (v := v2) hl8
    walk_at "go"
    refine ⟨F9, r, R, _, rfl, g9.fh, rd9, notKw_flat (fun x => ⟨_, rfl⟩) (by decide +kernel : tokIs (kw "hide") "name" "lines" = false) (notKw_kw (by decide +kernel)), fun al F10 H10 g10 rd10 hal => ?_⟩
    have okL := g10.fh
    have G10 := G9.comp g10 (side_one (.inr nr0))
    have m10 := g10.mu (one_not ne.symm) m9
    have hl10 := hl9
    walk_at "go"
    refine r_gFldW ?_
    walk_at "go"
    refine k_fldG g10.fh m10 T.cR (T.nR 3 rfl) (Nat.lt_of_le_of_lt hl10 (by decide)) fun F11 H11 g11 m11 => ?_
    have rd11 := rd10.grow g11 (one_not ne)
    have G11 := G10.comp g11 (side_one (.inr nl0))
    have hl11 := put_len (f := "line_words") (v := .int (R.lineWords : Int)) hl10
    walk_at "go"
    refine r_gFldW ?_
    walk_at "go"
    refine k_fldG g11.fh m11 T.cR (T.nR 4 rfl) (Nat.lt_of_le_of_lt hl11 (by decide)) fun F12 H12 g12 m12 => ?_
    have rd12 := rd11.grow g12 (one_not ne)
    have G12 := G11.comp g12 (side_one (.inr nl0))
    have hl12 := put_len (f := "line_documents") (v := .int (R.lineDocs : Int)) hl11
    walk_at "go"
    refine ⟨F12, r, R.hidden, _, rfl, g12.fh, rd12, notKw_kw (by decide +kernel), Nat.le_trans hR.hid.1 (by decide), hR.hid.2, fun v5 F13 H13 g13 rd13 rv5 => ?_⟩
    have G13 := G12.comp g13 (side_one (.inr nr0))
    have m13 := g13.mu (one_not ne.symm) m12
    have hl13 := hl12
    walk_at "go"
    refine k_fld g13.fh m13 T.cR (T.nR 5 rfl) (Nat.lt_of_le_of_lt hl13 (by decide)) fun F14 H14 g14 m14 => ?_
    have rd14 := rd13.grow g14 (one_not ne)
    have G14 := G13.comp g14 (side_one (.inr nl0))
    have hl14 := put_len (f := "hidden") (v := v5) hl13
    walk_at "go"
    refine r_fldV m14.1 T.cR (T.nR 5 rfl) lk_hit ?_
    walk_at "go"
    refine ⟨F14, r, v5, R.mark, R.hidden, _, rfl, g14.fh, rd14, (g14.rp rv5), hR.mrk.2.1, Nat.le_trans hR.mrk.1 (by decide), fun s hs e he => Nat.le_trans (Nat.le_of_lt ((hR.hid.2 s hs).2.1 e he).1) (by decide), hR.nohid, fun F15 H15 g15 rd15 => ?_⟩
    have G15 := G14.comp g15 (side_one (.inr nr0))
    have m15 := g15.mu (one_not ne.symm) m14
    have hl15 := hl14
    walk_at "go"
    refine k_fld g15.fh m15 T.cR (T.nR 6 rfl) (Nat.lt_of_le_of_lt hl15 (by decide)) fun F16 H16 g16 m16 => ?_
    have rd16 := rd15.grow g16 (one_not ne)
    have G16 := G15.comp g16 (side_one (.inr nl0))
    have hl16 := put_len (f := "mark") (v := .str (S R.mark)) hl15
    walk_at "go"
    refine k_new g16.fh fun pw17 F17 H17 g17 hp17 np17 => ?_
    have G17 := G16.comp g17 side_nil
    have m17 := g17.mu nil_not m16
    have rd17 := rd16.grow g17 nil_not
    have hl17 := hl16
    walk_at "go"
    refine ⟨F17, r, pw17, ["documents", "least"], R.docWords, 1, _, rfl, g17.fh, rd17, hp17, hR.dw.2, fun F18 H18 g18 rd18 => ?_⟩
    have G18 := G17.comp g18 (side_one (.inr nr0))
    have m18 := g18.mu (one_not ne.symm) m17
    have hl18 := hl17
    walk_at "go"
    refine k_fld g18.fh m18 T.cR (T.nR 7 rfl) (Nat.lt_of_le_of_lt hl18 (by decide)) fun F19 H19 g19 m19 => ?_
    have rd19 := rd18.grow g19 (one_not ne)
    have G19 := G18.comp g19 (side_one (.inr nl0))
    have hl19 := put_len (f := "document_words") (v := .int (((R.docWords : Nat)) : Int)) hl18
    walk_at "go"
    refine ⟨F19, r, R.shares, _, rfl, g19.fh, rd19, notKw_kw (by decide +kernel), Nat.le_trans hR.shr.1 (by decide), fun s hs => ⟨(hR.shr.2 s hs).1, (hR.shr.2 s hs).2.2.2⟩, fun v8 F20 H20 g20 rd20 rv8 => ?_⟩
    have G20 := G19.comp g20 (side_one (.inr nr0))
    have m20 := g20.mu (one_not ne.symm) m19
    have hl20 := hl19
    walk_at "go"
    refine k_fld g20.fh m20 T.cR (T.nR 8 rfl) (Nat.lt_of_le_of_lt hl20 (by decide)) fun F21 H21 g21 m21 => ?_
    have rd21 := rd20.grow g21 (one_not ne)
    have G21 := G20.comp g21 (side_one (.inr nl0))
    have hl21 := put_len (f := "shares") (v := v8) hl20
    walk_at "go"
    refine ⟨F21, r, rl, dx, _, _, rfl, g21.fh, rd21, m21, ne, Nat.le_trans hl21 (by decide), fun F22 H22 g22 rd22 m22 => ?_⟩
    have G22 := G21.comp g22 (fun a z => .inr (by rcases List.mem_cons.mp z with e | e; exact e ▸ nr0; rw [List.mem_singleton.mp e]; exact nl0))
    have hl22 := alk_len hl21
    walk_at "go"
    refine k_new g22.fh fun pw23 F23 H23 g23 hp23 np23 => ?_
    have G23 := G22.comp g23 side_nil
    have m23 := g23.mu nil_not m22
    have rd23 := rd22.grow g23 nil_not
    have hl23 := hl22
    walk_at "go"
    refine ⟨F23, r, pw23, ["phrases"], 4, 1, _, rfl, g23.fh, rd23, hp23, by decide, fun F24 H24 g24 rd24 => ?_⟩
    have G24 := G23.comp g24 (side_one (.inr nr0))
    have m24 := g24.mu (one_not ne.symm) m23
    have hl24 := hl23
    walk_at "go"
    refine k_fld g24.fh m24 T.cR (T.nR 12 rfl) (Nat.lt_of_le_of_lt hl24 (by decide)) fun F25 H25 g25 m25 => ?_
    have rd25 := rd24.grow g25 (one_not ne)
    have G25 := G24.comp g25 (side_one (.inr nl0))
    have hl25 := put_len (f := "phrase_words") (v := .int (((4 : Nat)) : Int)) hl24
    walk_at "go"
    refine k_new g25.fh fun pw26 F26 H26 g26 hp26 np26 => ?_
    have G26 := G25.comp g26 side_nil
    have m26 := g26.mu nil_not m25
    have rd26 := rd25.grow g26 nil_not
    have hl26 := hl25
    walk_at "go"
    refine ⟨F26, r, pw26, ["pieces", "least"], 2, 1, _, rfl, g26.fh, rd26, hp26, by decide, fun F27 H27 g27 rd27 => ?_⟩
    have G27 := G26.comp g27 (side_one (.inr nr0))
    have m27 := g27.mu (one_not ne.symm) m26
    have hl27 := hl26
    walk_at "go"
    refine k_fld g27.fh m27 T.cR (T.nR 13 rfl) (Nat.lt_of_le_of_lt hl27 (by decide)) fun F28 H28 g28 m28 => ?_
    have rd28 := rd27.grow g28 (one_not ne)
    have G28 := G27.comp g28 (side_one (.inr nl0))
    have hl28 := put_len (f := "piece_words") (v := .int (((2 : Nat)) : Int)) hl27
    walk_at "go"
    refine k_new g28.fh fun pw29 F29 H29 g29 hp29 np29 => ?_
    have G29 := G28.comp g29 side_nil
    have m29 := g29.mu nil_not m28
    have rd29 := rd28.grow g29 nil_not
    have hl29 := hl28
    walk_at "go"
    refine ⟨F29, r, pw29, ["joins"], 5, 0, _, rfl, g29.fh, rd29, hp29, by decide, fun F30 H30 g30 rd30 => ?_⟩
    have G30 := G29.comp g30 (side_one (.inr nr0))
    have m30 := g30.mu (one_not ne.symm) m29
    have hl30 := hl29
    walk_at "go"
    refine k_fld g30.fh m30 T.cR (T.nR 14 rfl) (Nat.lt_of_le_of_lt hl30 (by decide)) fun F31 H31 g31 m31 => ?_
    have rd31 := rd30.grow g31 (one_not ne)
    have G31 := G30.comp g31 (side_one (.inr nl0))
    have hl31 := put_len (f := "join_limit") (v := .int (((5 : Nat)) : Int)) hl30
    walk_at "go"
    refine k_new g31.fh fun pw32 F32 H32 g32 hp32 np32 => ?_
    have G32 := G31.comp g32 side_nil
    have m32 := g32.mu nil_not m31
    have rd32 := rd31.grow g32 nil_not
    have hl32 := hl31
    walk_at "go"
    refine ⟨F32, r, pw32, ["pages"], 8, 1, _, rfl, g32.fh, rd32, hp32, by decide, fun F33 H33 g33 rd33 => ?_⟩
    have G33 := G32.comp g33 (side_one (.inr nr0))
    have m33 := g33.mu (one_not ne.symm) m32
    have hl33 := hl32
    walk_at "go"
    refine k_fld g33.fh m33 T.cR (T.nR 15 rfl) (Nat.lt_of_le_of_lt hl33 (by decide)) fun F34 H34 g34 m34 => ?_
    have rd34 := rd33.grow g34 (one_not ne)
    have G34 := G33.comp g34 (side_one (.inr nl0))
    have hl34 := put_len (f := "page_codes") (v := .int (((8 : Nat)) : Int)) hl33
    walk_at "go"
    refine k_new g34.fh fun pw35 F35 H35 g35 hp35 np35 => ?_
    have G35 := G34.comp g35 side_nil
    have m35 := g35.mu nil_not m34
    have rd35 := rd34.grow g35 nil_not
    have hl35 := hl34
    walk_at "go"
    refine ⟨F35, r, pw35, ["volumes"], 2, 1, _, rfl, g35.fh, rd35, hp35, by decide, fun F36 H36 g36 rd36 => ?_⟩
    have G36 := G35.comp g36 (side_one (.inr nr0))
    have m36 := g36.mu (one_not ne.symm) m35
    have hl36 := hl35
    walk_at "go"
    refine k_fld g36.fh m36 T.cR (T.nR 16 rfl) (Nat.lt_of_le_of_lt hl36 (by decide)) fun F37 H37 g37 m37 => ?_
    have rd37 := rd36.grow g37 (one_not ne)
    have G37 := G36.comp g37 (side_one (.inr nl0))
    have hl37 := put_len (f := "volume_pages") (v := .int (((2 : Nat)) : Int)) hl36
    walk_at "go"
    refine x_demand rd37 g37.fh rfl ?_
    walk_at "go"
    refine k_fz g37.fh m37 fun F38 g38 hp38 => ?_
    refine k _ F38 H37 (G37.comp g38 (side_one (.inr nl0))) ⟨rl, dx, _, rfl, hp38, ?_⟩
    exact ⟨⟨v1, ((lk_skip (f := "volume_pages") (g := "changes") (by decide +kernel)).trans ((lk_skip (f := "page_codes") (g := "changes") (by decide +kernel)).trans ((lk_skip (f := "join_limit") (g := "changes") (by decide +kernel)).trans ((lk_skip (f := "piece_words") (g := "changes") (by decide +kernel)).trans ((lk_skip (f := "phrase_words") (g := "changes") (by decide +kernel)).trans ((lk_alk (g := "changes") (by decide +kernel) (by decide +kernel) (by decide +kernel)).trans ((lk_skip (f := "shares") (g := "changes") (by decide +kernel)).trans ((lk_skip (f := "document_words") (g := "changes") (by decide +kernel)).trans ((lk_skip (f := "mark") (g := "changes") (by decide +kernel)).trans ((lk_skip (f := "hidden") (g := "changes") (by decide +kernel)).trans ((lk_skip (f := "line_documents") (g := "changes") (by decide +kernel)).trans ((lk_skip (f := "line_words") (g := "changes") (by decide +kernel)).trans ((lk_skip (f := "banned") (g := "changes") (by decide +kernel)).trans (lk_hit (f := "changes"))))))))))))))), (g38.rp (g37.rp (g36.rp (g35.rp (g34.rp (g33.rp (g32.rp (g31.rp (g30.rp (g29.rp (g28.rp (g27.rp (g26.rp (g25.rp (g24.rp (g23.rp (g22.rp (g21.rp (g20.rp (g19.rp (g18.rp (g17.rp (g16.rp (g15.rp (g14.rp (g13.rp (g12.rp (g11.rp (g10.rp (g9.rp (g8.rp (g7.rp rv1))))))))))))))))))))))))))))))))⟩, ⟨v2, ((lk_skip (f := "volume_pages") (g := "banned") (by decide +kernel)).trans ((lk_skip (f := "page_codes") (g := "banned") (by decide +kernel)).trans ((lk_skip (f := "join_limit") (g := "banned") (by decide +kernel)).trans ((lk_skip (f := "piece_words") (g := "banned") (by decide +kernel)).trans ((lk_skip (f := "phrase_words") (g := "banned") (by decide +kernel)).trans ((lk_alk (g := "banned") (by decide +kernel) (by decide +kernel) (by decide +kernel)).trans ((lk_skip (f := "shares") (g := "banned") (by decide +kernel)).trans ((lk_skip (f := "document_words") (g := "banned") (by decide +kernel)).trans ((lk_skip (f := "mark") (g := "banned") (by decide +kernel)).trans ((lk_skip (f := "hidden") (g := "banned") (by decide +kernel)).trans ((lk_skip (f := "line_documents") (g := "banned") (by decide +kernel)).trans ((lk_skip (f := "line_words") (g := "banned") (by decide +kernel)).trans (lk_hit (f := "banned")))))))))))))), (g38.rp (g37.rp (g36.rp (g35.rp (g34.rp (g33.rp (g32.rp (g31.rp (g30.rp (g29.rp (g28.rp (g27.rp (g26.rp (g25.rp (g24.rp (g23.rp (g22.rp (g21.rp (g20.rp (g19.rp (g18.rp (g17.rp (g16.rp (g15.rp (g14.rp (g13.rp (g12.rp (g11.rp (g10.rp (g9.rp rv2))))))))))))))))))))))))))))))⟩, ((lk_skip (f := "volume_pages") (g := "line_words") (by decide +kernel)).trans ((lk_skip (f := "page_codes") (g := "line_words") (by decide +kernel)).trans ((lk_skip (f := "join_limit") (g := "line_words") (by decide +kernel)).trans ((lk_skip (f := "piece_words") (g := "line_words") (by decide +kernel)).trans ((lk_skip (f := "phrase_words") (g := "line_words") (by decide +kernel)).trans ((lk_alk (g := "line_words") (by decide +kernel) (by decide +kernel) (by decide +kernel)).trans ((lk_skip (f := "shares") (g := "line_words") (by decide +kernel)).trans ((lk_skip (f := "document_words") (g := "line_words") (by decide +kernel)).trans ((lk_skip (f := "mark") (g := "line_words") (by decide +kernel)).trans ((lk_skip (f := "hidden") (g := "line_words") (by decide +kernel)).trans ((lk_skip (f := "line_documents") (g := "line_words") (by decide +kernel)).trans (lk_hit (f := "line_words"))))))))))))), ((lk_skip (f := "volume_pages") (g := "line_documents") (by decide +kernel)).trans ((lk_skip (f := "page_codes") (g := "line_documents") (by decide +kernel)).trans ((lk_skip (f := "join_limit") (g := "line_documents") (by decide +kernel)).trans ((lk_skip (f := "piece_words") (g := "line_documents") (by decide +kernel)).trans ((lk_skip (f := "phrase_words") (g := "line_documents") (by decide +kernel)).trans ((lk_alk (g := "line_documents") (by decide +kernel) (by decide +kernel) (by decide +kernel)).trans ((lk_skip (f := "shares") (g := "line_documents") (by decide +kernel)).trans ((lk_skip (f := "document_words") (g := "line_documents") (by decide +kernel)).trans ((lk_skip (f := "mark") (g := "line_documents") (by decide +kernel)).trans ((lk_skip (f := "hidden") (g := "line_documents") (by decide +kernel)).trans (lk_hit (f := "line_documents")))))))))))), ⟨v5, ((lk_skip (f := "volume_pages") (g := "hidden") (by decide +kernel)).trans ((lk_skip (f := "page_codes") (g := "hidden") (by decide +kernel)).trans ((lk_skip (f := "join_limit") (g := "hidden") (by decide +kernel)).trans ((lk_skip (f := "piece_words") (g := "hidden") (by decide +kernel)).trans ((lk_skip (f := "phrase_words") (g := "hidden") (by decide +kernel)).trans ((lk_alk (g := "hidden") (by decide +kernel) (by decide +kernel) (by decide +kernel)).trans ((lk_skip (f := "shares") (g := "hidden") (by decide +kernel)).trans ((lk_skip (f := "document_words") (g := "hidden") (by decide +kernel)).trans ((lk_skip (f := "mark") (g := "hidden") (by decide +kernel)).trans (lk_hit (f := "hidden"))))))))))), (g38.rp (g37.rp (g36.rp (g35.rp (g34.rp (g33.rp (g32.rp (g31.rp (g30.rp (g29.rp (g28.rp (g27.rp (g26.rp (g25.rp (g24.rp (g23.rp (g22.rp (g21.rp (g20.rp (g19.rp (g18.rp (g17.rp (g16.rp (g15.rp (g14.rp rv5)))))))))))))))))))))))))⟩, ((lk_skip (f := "volume_pages") (g := "mark") (by decide +kernel)).trans ((lk_skip (f := "page_codes") (g := "mark") (by decide +kernel)).trans ((lk_skip (f := "join_limit") (g := "mark") (by decide +kernel)).trans ((lk_skip (f := "piece_words") (g := "mark") (by decide +kernel)).trans ((lk_skip (f := "phrase_words") (g := "mark") (by decide +kernel)).trans ((lk_alk (g := "mark") (by decide +kernel) (by decide +kernel) (by decide +kernel)).trans ((lk_skip (f := "shares") (g := "mark") (by decide +kernel)).trans ((lk_skip (f := "document_words") (g := "mark") (by decide +kernel)).trans (lk_hit (f := "mark")))))))))), ((lk_skip (f := "volume_pages") (g := "document_words") (by decide +kernel)).trans ((lk_skip (f := "page_codes") (g := "document_words") (by decide +kernel)).trans ((lk_skip (f := "join_limit") (g := "document_words") (by decide +kernel)).trans ((lk_skip (f := "piece_words") (g := "document_words") (by decide +kernel)).trans ((lk_skip (f := "phrase_words") (g := "document_words") (by decide +kernel)).trans ((lk_alk (g := "document_words") (by decide +kernel) (by decide +kernel) (by decide +kernel)).trans ((lk_skip (f := "shares") (g := "document_words") (by decide +kernel)).trans (lk_hit (f := "document_words"))))))))), ⟨v8, ((lk_skip (f := "volume_pages") (g := "shares") (by decide +kernel)).trans ((lk_skip (f := "page_codes") (g := "shares") (by decide +kernel)).trans ((lk_skip (f := "join_limit") (g := "shares") (by decide +kernel)).trans ((lk_skip (f := "piece_words") (g := "shares") (by decide +kernel)).trans ((lk_skip (f := "phrase_words") (g := "shares") (by decide +kernel)).trans ((lk_alk (g := "shares") (by decide +kernel) (by decide +kernel) (by decide +kernel)).trans (lk_hit (f := "shares")))))))), (g38.rp (g37.rp (g36.rp (g35.rp (g34.rp (g33.rp (g32.rp (g31.rp (g30.rp (g29.rp (g28.rp (g27.rp (g26.rp (g25.rp (g24.rp (g23.rp (g22.rp (g21.rp rv8))))))))))))))))))⟩⟩

end
/-! ### the rules' text has the rules' signs -/
def Sep (c : Nat) : Prop := c = 32 ∨ c = 10 ∨ c = 44 ∨ c = 58 ∨ c = 59
def Gd (r : List Nat) : Prop := ∃ c r', r = c :: r' ∧ Sep c
theorem sep_name {c : Nat} (h : Sep c) : isNameC c = false ∧ isDigit c = false ∧ c ≠ 34 := by
  rcases h with rfl | rfl | rfl | rfl | rfl <;> decide +kernel
theorem gd_32 {r : List Nat} : Gd (32 :: r) := ⟨_, _, rfl, .inl rfl⟩
theorem gd_44 {r : List Nat} : Gd (44 :: r) := ⟨_, _, rfl, .inr (.inr (.inl rfl))⟩
theorem gd_58 {r : List Nat} : Gd (58 :: r) := ⟨_, _, rfl, .inr (.inr (.inr (.inl rfl)))⟩
theorem gd_59 {r : List Nat} : Gd (59 :: r) := ⟨_, _, rfl, .inr (.inr (.inr (.inr rfl)))⟩
def kwOk (z : Str) : Bool := match tl z with
  | [] => false
  | c :: w => isLetter c && w.all isNameC && decide (w.length < 20)
theorem lx_kw {z : Str} {r : List Nat} {us : List Tok} (h : kwOk z = true) (g : Gd r) (l : Lex r us) : Lex (tl z ++ r) (kw z :: us) := by
  obtain ⟨c, r', rfl, hs⟩ := g
  have q := sep_name hs
  refine Lex.tok ?_ l
  unfold kw
  unfold kwOk at h
  cases e : tl z with
  | nil => rw [e] at h; cases h
  | cons a w =>
    rw [e] at h
    simp only [Bool.and_eq_true, decide_eq_true_eq] at h
    exact .nm h.1.1 (fun x hx => List.all_eq_true.mp h.1.2 x hx) h.2 fun x r2 er => by
      injection er with e1 _
      rw [← e1]
      exact q.1
theorem lx_num {n : Nat} {r : List Nat} {us : List Tok} (h : n < 10) (g : Gd r) (l : Lex r us) : Lex ((48 + n) :: r) (.num n :: us) := by
  obtain ⟨c, r', rfl, hs⟩ := g
  have q := sep_name hs
  exact Lex.tok (pre := [48 + n]) (.num h fun x r2 er => by
    injection er with e1 _
    rw [← e1]
    exact q.2.1) l
theorem lx_quo {w r : List Nat} {us : List Tok} (g : Gd r) (l : Lex r us) : Lex (34 :: (dbl w ++ (34 :: r))) (.quo w :: us) := by
  obtain ⟨c, r', rfl, hs⟩ := g
  have q := sep_name hs
  have e : 34 :: (dbl w ++ (34 :: c :: r')) = (34 :: (dbl w ++ [34])) ++ (c :: r') := by simp
  rw [e]
  exact Lex.tok (.quo fun r2 er => by
    injection er with e1 _
    exact q.2.2 e1) l
theorem lx_44 {r : List Nat} {us : List Tok} (l : Lex r us) : Lex (44 :: r) (.sym 44 :: us) := Lex.tok (pre := [44]) (.sym (.inl rfl)) l
theorem lx_58 {r : List Nat} {us : List Tok} (l : Lex r us) : Lex (58 :: r) (.sym 58 :: us) := Lex.tok (pre := [58]) (.sym (.inr (.inl rfl))) l
theorem lx_59 {r : List Nat} {us : List Tok} (l : Lex r us) : Lex (59 :: r) (.sym 59 :: us) := Lex.tok (pre := [59]) (.sym (.inr (.inr rfl))) l
theorem lx_sp {r : List Nat} {us : List Tok} (l : Lex r us) : Lex (32 :: r) us := .blank rfl l
theorem lx_nl {r : List Nat} {us : List Tok} (l : Lex r us) : Lex (10 :: r) us := .blank rfl l
theorem tl_quoS (l : List Nat) : tl (quoS (S l)) = 34 :: (dbl l ++ [34]) := by rw [tl_quo, tl_S]
theorem d_to : tl (" to " : Str) = 32 :: (tl ("to" : Str) ++ [32]) := by decide +kernel
theorem d_sp : tl (" " : Str) = [32] := by decide +kernel
theorem d_cs : tl (", " : Str) = [44, 32] := by decide +kernel
theorem d_nl : tl (";\n" : Str) = [59, 10] := by decide +kernel
theorem d_least : tl ("least " : Str) = tl ("least" : Str) ++ [32] := by decide +kernel
theorem d_common : tl ("common " : Str) = tl ("common" : Str) ++ [32] := by decide +kernel
theorem d_lines : tl ("lines " : Str) = tl ("lines" : Str) ++ [32] := by decide +kernel
theorem d_sources : tl ("sources " : Str) = tl ("sources" : Str) ++ [32] := by decide +kernel
theorem d_change : tl ("change " : Str) = tl ("change" : Str) ++ [32] := by decide +kernel
theorem d_ban : tl ("ban " : Str) = tl ("ban" : Str) ++ [32] := by decide +kernel
theorem d_hide : tl ("hide " : Str) = tl ("hide" : Str) ++ [32] := by decide +kernel
theorem d_mark : tl ("mark " : Str) = tl ("mark" : Str) ++ [32] := by decide +kernel
theorem d_doc : tl (";\ndocuments least " : Str) = 59 :: 10 :: (tl ("documents" : Str) ++ 32 :: (tl ("least" : Str) ++ [32])) := by decide +kernel
theorem d_share : tl ("share " : Str) = tl ("share" : Str) ++ [32] := by decide +kernel
theorem d_col : tl (": " : Str) = [58, 32] := by decide +kernel
theorem d_of : tl (" of " : Str) = 32 :: (tl ("of" : Str) ++ [32]) := by decide +kernel
theorem d_alike : tl ("alike " : Str) = tl ("alike" : Str) ++ [32] := by decide +kernel
theorem d_runs : tl (", runs of " : Str) = 44 :: 32 :: (tl ("runs" : Str) ++ 32 :: (tl ("of" : Str) ++ [32])) := by decide +kernel
theorem d_phr : tl ("phrases " : Str) = tl ("phrases" : Str) ++ [32] := by decide +kernel
theorem d_pie : tl (";\npieces least " : Str) = 59 :: 10 :: (tl ("pieces" : Str) ++ 32 :: (tl ("least" : Str) ++ [32])) := by decide +kernel
theorem d_joi : tl (";\njoins " : Str) = 59 :: 10 :: (tl ("joins" : Str) ++ [32]) := by decide +kernel
theorem d_pag : tl (";\npages " : Str) = 59 :: 10 :: (tl ("pages" : Str) ++ [32]) := by decide +kernel
theorem d_vol : tl (";\nvolumes " : Str) = 59 :: 10 :: (tl ("volumes" : Str) ++ [32]) := by decide +kernel
theorem lx_flat {α : Type} {p : α → List Nat} {t : α → List Tok} : ∀ {l : List α} {r : List Nat} {us : List Tok}, (∀ x ∈ l, ∀ r us, Lex r us → Lex (p x ++ r) (t x ++ us)) → Lex r us → Lex (l.flatMap p ++ r) (l.flatMap t ++ us)
  | [], _, _, _, h => h
  | x :: l, r, us, f, h => by
    rw [List.flatMap_cons, List.flatMap_cons, List.append_assoc, List.append_assoc]
    exact f x List.mem_cons_self _ _ (lx_flat (fun y hy => f y (List.mem_cons_of_mem _ hy)) h)
theorem gd_flat {α : Type} {p : α → List Nat} {l : List α} {r : List Nat} (g : Gd r) : Gd ((l.flatMap fun x => 44 :: 32 :: p x) ++ r) := by
  cases l with
  | nil => exact g
  | cons x l => exact gd_44
/-- the parts behind the first -/
theorem lx_more {α : Type} {p : α → List Nat} {t : α → List Tok} : ∀ {l : List α} {r : List Nat} {us : List Tok}, (∀ x ∈ l, ∀ r us, Gd r → Lex r us → Lex (p x ++ r) (t x ++ us)) → Gd r → Lex r us →
    Lex ((l.flatMap fun x => 44 :: 32 :: p x) ++ r) ((l.flatMap fun x => .sym 44 :: t x) ++ us)
  | [], _, _, _, _, h => h
  | x :: l, r, us, f, g, h => by
    have ih := lx_more (l := l) (fun y hy => f y (List.mem_cons_of_mem _ hy)) g h
    rw [List.flatMap_cons, List.flatMap_cons, List.append_assoc, List.append_assoc]
    exact lx_44 (lx_sp (f x List.mem_cons_self _ _ (gd_flat g) ih))
theorem joinL_cons (x : List Nat) : ∀ l : List (List Nat), joinL [44, 32] (x :: l) = x ++ l.flatMap fun y => 44 :: 32 :: y
  | [] => by
    show x = x ++ []
    rw [List.append_nil]
  | y :: l => by
    show x ++ ([44, 32] ++ joinL [44, 32] (y :: l)) = _
    rw [joinL_cons y l, List.flatMap_cons]
    rfl
theorem tl_joinS (ys : List Str) : tl (Txt.join ", " ys) = joinL [44, 32] (ys.map tl) := by rw [join_eq, tl_join, d_cs]
theorem lx_kind {d : Kind} {r : List Nat} {us : List Tok} (g : Gd r) (l : Lex r us) : Lex (tl (kindS d) ++ r) (kindT d :: us) := by
  cases d with
  | letter => exact lx_kw (by decide +kernel) g l
  | digit => exact lx_kw (by decide +kernel) g l
  | any => exact lx_kw (by decide +kernel) g l
  | ch c =>
    show Lex (tl (quoS (S [c])) ++ r) (.quo [c] :: us)
    rw [tl_quoS, List.cons_append, List.append_assoc]
    exact lx_quo g l
theorem lx_elem {e : Elem} (he : ElOk e) {r : List Nat} {us : List Tok} (g : Gd r) (l : Lex r us) : Lex (tl (elemS e) ++ r) (elemT e ++ us) := by
  unfold elemS elemT
  by_cases h1 : e.2.1 ≠ e.2.2
  · rw [if_pos h1, if_pos h1]
    simp only [tl_append, tl_numS he.1, tl_numS he.2.1, d_to, d_sp, List.append_assoc, List.cons_append, List.nil_append]
    exact lx_kind gd_32 (lx_sp (lx_num he.1 gd_32 (lx_sp (lx_kw (by decide +kernel) gd_32 (lx_sp (lx_num he.2.1 g l))))))
  · rw [if_neg h1, if_neg h1]
    by_cases h2 : e.2.1 ≠ 1
    · rw [if_pos h2, if_pos h2]
      simp only [tl_append, tl_numS he.1, d_sp, List.append_assoc, List.cons_append, List.nil_append]
      exact lx_kind gd_32 (lx_sp (lx_num he.1 g l))
    · rw [if_neg h2, if_neg h2]
      exact lx_kind g l
theorem lx_shape {s : Shape} (hs : SpOk s) {r : List Nat} {us : List Tok} (g : Gd r) (l : Lex r us) : Lex (tl (shapeS s) ++ r) (shapeT s ++ us) := by
  cases s with
  | nil =>
    obtain ⟨_, _, e, he, _⟩ := hs
    cases he
  | cons e s =>
    have q := lx_more (p := fun e => tl (elemS e)) (t := elemT) (l := s) (fun x hx r us g l => lx_elem (hs.2.1 x (List.mem_cons_of_mem _ hx)) g l) g l
    unfold shapeS
    rw [tl_joinS, List.map_cons, List.map_cons, joinL_cons, shapeT_cons, List.append_assoc, List.append_assoc, List.map_map, List.flatMap_map]
    exact lx_elem (hs.2.1 e List.mem_cons_self) (gd_flat g) q
def chgP (c : Chg) : List Nat := tl (("change " : Str)) ++ (tl (quoS (S [c.1])) ++ (tl (" to " : Str) ++ (tl (quoS (S c.2)) ++ tl (";\n" : Str))))
def hidP (s : Shape) : List Nat := tl ("hide " : Str) ++ (tl (shapeS s) ++ tl (";\n" : Str))
def shrP (s : Shape × Nat × Nat) : List Nat := tl ("share " : Str) ++ (tl (shapeS s.1) ++ (tl (": " : Str) ++ (tl (numS s.2.1) ++ (tl (" of " : Str) ++ (tl (numS s.2.2) ++ tl (";\n" : Str))))))
theorem lx_chg {c : Chg} {r : List Nat} {us : List Tok} (l : Lex r us) : Lex (chgP c ++ r) (chgT c ++ us) := by
  unfold chgP
  simp only [tl_quoS, d_to, d_nl, d_change, List.append_assoc, List.cons_append, List.nil_append]
  exact lx_kw (by decide +kernel) gd_32 (lx_sp (lx_quo gd_32 (lx_sp (lx_kw (by decide +kernel) gd_32 (lx_sp (lx_quo gd_59 (lx_59 (lx_nl l))))))))
theorem lx_hid {s : Shape} (hs : SpOk s) {r : List Nat} {us : List Tok} (l : Lex r us) : Lex (hidP s ++ r) (hidT s ++ us) := by
  unfold hidP hidT
  simp only [d_nl, d_hide, List.append_assoc, List.cons_append, List.nil_append]
  exact lx_kw (by decide +kernel) gd_32 (lx_sp (lx_shape hs gd_59 (lx_59 (lx_nl l))))
theorem lx_shr {s : Shape × Nat × Nat} (hs : SpOk s.1) (h1 : s.2.1 < 10) (h2 : s.2.2 < 10) {r : List Nat} {us : List Tok} (l : Lex r us) : Lex (shrP s ++ r) (shrT s ++ us) := by
  unfold shrP shrT
  simp only [tl_numS h1, tl_numS h2, d_nl, d_share, d_col, d_of, List.append_assoc, List.cons_append, List.nil_append]
  exact lx_kw (by decide +kernel) gd_32 (lx_sp (lx_shape hs gd_58 (lx_58 (lx_sp (lx_num h1 gd_32 (lx_sp (lx_kw (by decide +kernel) gd_32 (lx_sp (lx_num h2 gd_59 (lx_59 (lx_nl l)))))))))))
theorem tl_fold {α : Type} {f : Str → α → Str} {p : α → List Nat} (h : ∀ a x, tl (f a x) = tl a ++ p x) : ∀ (l : List α) (a : Str), tl (l.foldl f a) = tl a ++ l.flatMap p
  | [], a => by
    show tl a = tl a ++ []
    rw [List.append_nil]
  | x :: l, a => by
    rw [List.foldl_cons, tl_fold h l, h, List.flatMap_cons, List.append_assoc]
def banP (l : List (List Nat)) : List Nat := if l = [] then [] else tl ("ban " : Str) ++ (tl (Txt.join ", " (l.map fun w => quoS (S w))) ++ tl (";\n" : Str))
theorem tl_ban (a : Str) (l : List (List Nat)) : tl (banS a l) = tl a ++ banP l := by
  unfold banS banP
  split
  · rw [List.append_nil]
  · simp only [tl_append, List.append_assoc]
theorem lx_ban {l : List (List Nat)} {r : List Nat} {us : List Tok} (h : Lex r us) : Lex (banP l ++ r) (banT l ++ us) := by
  cases l with
  | nil => exact h
  | cons w l =>
    unfold banP banT
    rw [if_neg (fun z => nomatch z), tl_joinS, List.map_cons, List.map_cons, joinL_cons, List.map_map, List.flatMap_map]
    simp only [d_nl, d_ban, tl_quoS, List.append_assoc, List.cons_append, List.nil_append]
    have q := lx_more (p := fun w => tl (quoS (S w))) (t := fun w => [Tok.quo w]) (l := l) (r := 59 :: 10 :: r) (us := .sym 59 :: us) (fun x hx r us g l => by
      rw [tl_quoS, List.cons_append, List.append_assoc]
      exact lx_quo g l) gd_59 (lx_59 (lx_nl h))
    exact lx_kw (by decide +kernel) gd_32 (lx_sp (lx_quo (gd_flat gd_59) q))
theorem lx_lines {R : Ru} (h1 : R.lineWords < 10) (h2 : R.lineDocs < 10) {r : List Nat} {us : List Tok} (h : Lex r us) : Lex (tl (linesS R) ++ r) (linesT R ++ us) := by
  unfold linesS linesT partsS
  by_cases c1 : 0 < R.lineWords
  · by_cases c2 : 0 < R.lineDocs
    · rw [if_pos c1, if_pos c1, if_pos c2, if_pos c2, if_neg (fun z => nomatch z)]
      have e : tl (Txt.join ", " (["least " ++ numS R.lineWords] ++ ["common " ++ numS R.lineDocs])) = tl ("least " ++ numS R.lineWords) ++ ([44, 32] ++ tl ("common " ++ numS R.lineDocs)) := by
        rw [tl_joinS]
        rfl
      rw [tl_append, tl_append, e]
      simp only [tl_append, tl_numS h1, tl_numS h2, d_nl, d_lines, d_least, d_common, List.append_assoc, List.cons_append, List.nil_append]
      exact lx_kw (by decide +kernel) gd_32 (lx_sp (lx_kw (by decide +kernel) gd_32 (lx_sp (lx_num h1 gd_44 (lx_44 (lx_sp (lx_kw (by decide +kernel) gd_32 (lx_sp (lx_num h2 gd_59 (lx_59 (lx_nl h)))))))))))
    · rw [if_pos c1, if_pos c1, if_neg c2, if_neg c2, if_neg (fun z => nomatch z)]
      have e : tl (Txt.join ", " (["least " ++ numS R.lineWords] ++ [])) = tl ("least " ++ numS R.lineWords) := by
        rw [tl_joinS]
        rfl
      rw [tl_append, tl_append, e]
      simp only [tl_append, tl_numS h1, d_nl, d_lines, d_least, List.append_assoc, List.cons_append, List.nil_append]
      exact lx_kw (by decide +kernel) gd_32 (lx_sp (lx_kw (by decide +kernel) gd_32 (lx_sp (lx_num h1 gd_59 (lx_59 (lx_nl h))))))
  · by_cases c2 : 0 < R.lineDocs
    · rw [if_neg c1, if_neg c1, if_pos c2, if_pos c2, if_neg (fun z => nomatch z)]
      have e : tl (Txt.join ", " ([] ++ ["common " ++ numS R.lineDocs])) = tl ("common " ++ numS R.lineDocs) := by
        rw [tl_joinS]
        rfl
      rw [tl_append, tl_append, e]
      simp only [tl_append, tl_numS h2, d_nl, d_lines, d_common, List.append_assoc, List.cons_append, List.nil_append]
      exact lx_kw (by decide +kernel) gd_32 (lx_sp (lx_kw (by decide +kernel) gd_32 (lx_sp (lx_num h2 gd_59 (lx_59 (lx_nl h))))))
    · rw [if_neg c1, if_neg c1, if_neg c2, if_neg c2, if_pos (show ([] : List Str) ++ [] = [] from rfl)]
      exact h
def mrkP (R : Ru) : List Nat := tl ("mark " : Str) ++ (tl (quoS (S R.mark)) ++ (tl (";\ndocuments least " : Str) ++ (tl (numS R.docWords) ++ tl (";\n" : Str))))
theorem lx_mrk {R : Ru} (h1 : R.docWords < 10) {r : List Nat} {us : List Tok} (h : Lex r us) : Lex (mrkP R ++ r) (mrkT R ++ us) := by
  unfold mrkP mrkT
  simp only [tl_quoS, tl_numS h1, d_nl, d_mark, d_doc, List.append_assoc, List.cons_append, List.nil_append]
  exact lx_kw (by decide +kernel) gd_32 (lx_sp (lx_quo gd_59 (lx_59 (lx_nl (lx_kw (by decide +kernel) gd_32 (lx_sp (lx_kw (by decide +kernel) gd_32 (lx_sp (lx_num h1 gd_59 (lx_59 (lx_nl h)))))))))))
theorem lx_src {r : List Nat} {us : List Tok} (h : Lex r us) : Lex (tl srcS ++ r) (srcT ++ us) := by
  unfold srcS srcT
  have e : tl (Txt.join ", " ["s" ++ " " ++ numS 1]) = tl ("s" ++ " " ++ numS 1) := by
    rw [tl_joinS]
    rfl
  rw [tl_append, tl_append, e]
  simp only [tl_append, tl_numS (show 1 < 10 by decide), d_nl, d_sp, d_sources, List.append_assoc, List.cons_append, List.nil_append]
  exact lx_kw (by decide +kernel) gd_32 (lx_sp (lx_kw (by decide +kernel) gd_32 (lx_sp (lx_num (n := 1) (by decide) gd_59 (lx_59 (lx_nl h))))))
theorem lx_end (a : Str) : ∃ e, tl (endS a) = tl a ++ e ∧ Lex e (alkT ++ endT) := by
  unfold endS alkT endT
  have n1 := tl_numS (show 1 < 10 by decide)
  have n2 := tl_numS (show 2 < 10 by decide)
  have n3 := tl_numS (show 3 < 10 by decide)
  have n4 := tl_numS (show 4 < 10 by decide)
  have n5 := tl_numS (show 5 < 10 by decide)
  have n8 := tl_numS (show 8 < 10 by decide)
  simp only [tl_append, n1, n2, n3, n4, n5, n8, d_nl, d_alike, d_of, d_runs, d_phr, d_pie, d_joi, d_pag, d_vol, List.append_assoc, List.cons_append, List.nil_append]
  refine ⟨_, rfl, ?_⟩
  exact lx_kw (by decide +kernel) gd_32 (lx_sp (lx_num (n := 1) (by decide) gd_32 (lx_sp (lx_kw (by decide +kernel) gd_32 (lx_sp (lx_num (n := 2) (by decide) gd_44 (lx_44 (lx_sp (lx_kw (by decide +kernel) gd_32 (lx_sp (lx_kw (by decide +kernel) gd_32 (lx_sp (lx_num (n := 3) (by decide) gd_59 (lx_59 (lx_nl
    (lx_kw (by decide +kernel) gd_32 (lx_sp (lx_num (n := 4) (by decide) gd_59 (lx_59 (lx_nl (lx_kw (by decide +kernel) gd_32 (lx_sp (lx_kw (by decide +kernel) gd_32 (lx_sp (lx_num (n := 2) (by decide) gd_59 (lx_59 (lx_nl
    (lx_kw (by decide +kernel) gd_32 (lx_sp (lx_num (n := 5) (by decide) gd_59 (lx_59 (lx_nl (lx_kw (by decide +kernel) gd_32 (lx_sp (lx_num (n := 8) (by decide) gd_59 (lx_59 (lx_nl (lx_kw (by decide +kernel) gd_32 (lx_sp (lx_num (n := 2) (by decide) gd_59 (lx_59 (lx_nl .nil))))))))))))))))))))))))))))))))))))))))))
theorem lex_norm {R : Ru} (h : RV R) : Lex (tl (normS R)) (toks R) := by
  unfold normS
  obtain ⟨e, he, le⟩ := lx_end (R.shares.foldl shrS (mrkS (R.hidden.foldl hidS (banS (R.changes.foldl chgS srcS) R.banned ++ linesS R)) R))
  have e1 := tl_fold (f := chgS) (p := chgP) (fun a x => by unfold chgS chgP; simp only [tl_append, List.append_assoc]) R.changes srcS
  have e2 := tl_fold (f := hidS) (p := hidP) (fun a x => by unfold hidS hidP; simp only [tl_append, List.append_assoc]) R.hidden (banS (R.changes.foldl chgS srcS) R.banned ++ linesS R)
  have e3 : ∀ a, tl (mrkS a R) = tl a ++ mrkP R := fun a => by unfold mrkS mrkP; simp only [tl_append, List.append_assoc]
  have e4 := tl_fold (f := shrS) (p := shrP) (fun a x => by unfold shrS shrP; simp only [tl_append, List.append_assoc]) R.shares (mrkS (R.hidden.foldl hidS (banS (R.changes.foldl chgS srcS) R.banned ++ linesS R)) R)
  rw [he, e4, e3, e2, tl_append, tl_ban, e1]
  simp only [List.append_assoc]
  unfold toks
  exact lx_src (lx_flat (fun x _ r us l => lx_chg l) (lx_ban (lx_lines h.lw h.ld (lx_flat (fun x hx r us l => lx_hid (h.hid.2 x hx) l) (lx_mrk h.dw.1 (lx_flat (fun x hx r us l => lx_shr (h.shr.2 x hx).1 (h.shr.2 x hx).2.1 (h.shr.2 x hx).2.2.1 l) le))))))
theorem norm_len {R : Ru} (hR : RV R) : (normS R).length ≤ 100000 := by
  have n1 := num_len (n := 1) (by decide)
  have n2 := num_len (n := 2) (by decide)
  have n3 := num_len (n := 3) (by decide)
  have n4 := num_len (n := 4) (by decide)
  have n5 := num_len (n := 5) (by decide)
  have n8 := num_len (n := 8) (by decide)
  have hd := num_len hR.dw.1
  have qm := quo_len R.mark
  have qm2 := hR.mrk.1
  have ll := lines_len hR
  have l1 := fold_len (f := chgS) (b := 40) (l := R.changes) (a := srcS) fun x hx a => chg1_len (hR.ch.2.1 x hx).1
  have l0 := src_len
  have lc := hR.ch.1
  have hb := (ban_len (a := R.changes.foldl chgS srcS) hR.ban.1 fun w hw => (hR.ban.2 w hw).1).2
  have l2 := fold_len (f := hidS) (b := 260) (l := R.hidden) (a := banS (R.changes.foldl chgS srcS) R.banned ++ linesS R) fun x hx a => hid1_len (hR.hid.2 x hx)
  have lh := hR.hid.1
  have l3 : (mrkS (R.hidden.foldl hidS (banS (R.changes.foldl chgS srcS) R.banned ++ linesS R)) R).length ≤ (R.hidden.foldl hidS (banS (R.changes.foldl chgS srcS) R.banned ++ linesS R)).length + 100 := by
    unfold mrkS
    simp only [len_app, ll13, ll14, ll7]
    omega
  have l4 := fold_len (f := shrS) (b := 300) (l := R.shares) (a := mrkS (R.hidden.foldl hidS (banS (R.changes.foldl chgS srcS) R.banned ++ linesS R)) R) fun x hx a => shr1_len (hR.shr.2 x hx).1 (hR.shr.2 x hx).2.1 (hR.shr.2 x hx).2.2.1
  have lsh := hR.shr.1
  rw [len_app] at l2
  unfold normS
  generalize R.shares.foldl shrS (mrkS (R.hidden.foldl hidS (banS (R.changes.foldl chgS srcS) R.banned ++ linesS R)) R) = z at l4 ⊢
  unfold endS
  simp only [len_app, n1, n2, n3, n4, n5, n8, ll18, ll19, ll17, ll20, ll21, ll22, ll23, ll24, ll7]
  omega
section
variable {P : Program} {w : World} {K : PySem.W.Frag} {mg : Str → Option Value} {base : Heap}

theorem sql_grow {F H F' H' : Hp} {a : Addr} {xs : List V} (g : Grow [] F H F' H') (h : SqL K H a xs) : SqL K H' a xs := by
  rcases h with (h | ⟨ob, h⟩) | h
  · exact .inl (.inl (g.keep _ _ nil_not h))
  · exact .inl (.inr ⟨ob, g.keep _ _ nil_not h⟩)
  · exact .inr h
def sp_law_cell (K : PySem.W.Frag) : Sp := fun vs H Q _ => ∃ (a : Addr) (ns : List Int) (k : Nat), vs = [.ref a, .int (k : Int)] ∧ SqL K H a (ns.map V.int) ∧ ∀ i : Int, Q (.int i) H
abbrev N_law_cell : List Str := ["_law_script", "_law_k"]
theorem sc_law_cell : FnScope N_law_cell ["_law_script", "_law_k"] (defScope s_law_cell) := ⟨rfl, rfl, rfl, by decide +kernel, rfl, by decide +kernel, by decide +kernel⟩
theorem ok_law_cell (T : Txt K mg) : OkG P w K mg base 1 "_law_cell" ["_law_script", "_law_k"] (sp_law_cell K) := by
  have m_len : mg "len" = none := T.free 68 rfl
  refine T.okG 52 41 rfl rfl (d := d_law_cell) sc_law_cell (fun _ _ _ _ _ _ us hl => match us, hl with | [_, _], _ => rfl) (fun vs H Q E h => ?_) (fun cdv A outer s H vs Q E hr h => ?_)
  · obtain ⟨_, _, _, rfl, _⟩ := h
    rfl
  · refine ⟨_, PSs.nox (pss_cons (ps_if (pt_cmpR op_lt (pv 1) (pe_callB cr_lenL (by rfl) m_len PySem.boot_len (pa_cons (pv 0) pa_nil)) (nomark _))
        (pss_one (ps_ret (pe_ix ix_list (pv 0) (pv 1) (fun _ _ => rfl))))
        pss_nil)
      (pss_one (ps_ret pe_int))), ?_⟩
    obtain ⟨a, ns, n, rfl, hS, k⟩ := h
    walk_at "go"
    rw [List.length_map]
    refine r_ite (fun c => ?_) (fun c => ?_)
    · have c := of_decide_eq_true c
      have hn : n < ns.length := by omega
      walk_at "go"
      refine r_ixL (n := n) hS rfl (show (ns.map V.int)[n]? = some (.int ns[n]) by rw [List.getElem?_map, List.getElem?_eq_getElem hn]; rfl) ?_
      exact k _
    · walk_at "go"
      exact k _

def DgM (F H : Hp) (p : Addr) (n : Nat) : Prop := ∃ ds : List Int, Mu F H p (.lst (ds.map V.int)) ∧ ds.length ≤ n
theorem DgM.mono {F H : Hp} {p : Addr} {n m : Nat} (h : DgM F H p n) (q : n ≤ m) : DgM F H p m := let ⟨d, a, e⟩ := h; ⟨d, a, Nat.le_trans e q⟩
theorem k_dg {F H : Hp} {p : Addr} {n : Nat} {i : Int} {Q : VK} (ok : Same F H) (m : DgM F H p n) (hn : n < 100000) (k : ∀ F' H', Grow [p] F H F' H' → DgM F' H' p (n + 1) → Q .non H') : rAppend (.ref p) [.int i] H Q := by
  obtain ⟨ds, m, l⟩ := m
  refine r_append m.1 (by rw [List.length_map]; omega) (k_wr ok m fun F' H' g m' => k F' H' g ⟨ds ++ [i], ?_, ?_⟩)
  · rw [List.map_append]
    exact m'
  · rw [List.length_append, List.length_singleton]
    omega
def sp_law_digits (K : PySem.W.Frag) : Sp := fun vs H Q _ => ∃ (F : Hp) (a : Addr) (ns : List Int), vs = [.ref a, .int 0, .int 63] ∧ Same F H ∧ SqL K H a (ns.map V.int) ∧
  ∀ (p : Addr) (ds : List Int) (F' H' : Hp), Grow [] F H F' H' → F' p = some (.lst (ds.map V.int)) → Q (.ref p) H'
abbrev N_law_digits : List Str := ["_law_script", "_law_first", "_law_last", "_law_digits_here", "_law_k", "_law_cell_here", "_law_turn", "_law_seed"]
theorem sc_law_digits : FnScope N_law_digits ["_law_script", "_law_first", "_law_last"] (defScope s_law_digits) := ⟨rfl, rfl, rfl, by decide +kernel, rfl, by decide +kernel, by decide +kernel⟩
theorem ok_law_digits (T : Txt K mg) : OkG P w K mg base 2 "_law_digits" ["_law_script", "_law_first", "_law_last"] (sp_law_digits K) := by
  have m_int : mg "int" = none := T.free 69 rfl
  have m_range : mg "range" = none := T.free 70 rfl
  obtain ⟨f_law_cell, fd_law_cell, G_law_cell, mg_law_cell, kp_law_cell, b_law_cell⟩ := ok_law_cell (P := P) (w := w) (base := base) T
  refine T.okG 53 42 rfl rfl (d := d_law_digits) sc_law_digits (fun _ _ _ _ _ _ us hl => match us, hl with | [_, _, _], _ => rfl) (fun vs H Q E h => ?_) (fun cdv A outer s H vs Q E hr h => ?_)
  · obtain ⟨_, _, _, rfl, _⟩ := h
    rfl
  · refine ⟨_, PSs.nox (pss_cons (ps_set (i := 3) sc_law_digits.nd rfl (Or.inl rfl) (pe_lst pa_nil))
      (pss_cons (ps_for PassesOwn.never rfl (pi_range2 (by rfl) m_range (pa_cons (pv 1) (pa_cons (pv 2) pa_nil))) (pg_name (i := 4) sc_law_digits.nd rfl (Or.inl rfl))
        (pss_cons (ps_set (i := 5) sc_law_digits.nd rfl (Or.inl rfl) (pe_call G_law_cell (hr.mono (by decide)) rfl mg_law_cell kp_law_cell b_law_cell .nil pass0 (pa_cons (pv 0) (pa_cons (pv 4) pa_nil))))
        (Evl.pss_cut (ps_if (pt_cmpR op_lt (pv 5) pe_int (nomark _))
          (pss_one (ps_set (i := 5) sc_law_digits.nd rfl (Or.inl rfl) (pe_op op_sub pe_int (pe_op op_mul pe_int (pv 5)))))
          pss_nil)
        (pss_one (ps_if (pt_cmpR op_ge (pv 5) (pe_op op_pow pe_int pe_int) (nomark _))
          (pss_one (ps_for PassesOwn.never rfl (pi_range1 (by rfl) m_range (pa_cons pe_int pa_nil)) (pg_name (i := 6) sc_law_digits.nd rfl (Or.inl rfl))
            (pss_one (ps_if (pt_cmpR op_gt (pv 5) pe_int (nomark _))
              (pss_cons (ps_expr (pe_bm PySem.F.plainAttrs_list PySem.F.slot_list_append PySem.F.type_list_append mt_append (pv 3) (pa_cons (pe_op op_mod (pe_callTy cr_intI (by rfl) m_int (by decide +kernel) (pa_cons (pv 5) pa_nil)) pe_int) pa_nil)))
              (pss_one (ps_set (i := 5) sc_law_digits.nd rfl (Or.inl rfl) (pe_op op_fdiv (pv 5) pe_int))))
              pss_nil))))
          (pss_cons (ps_set (i := 7) sc_law_digits.nd rfl (Or.inl rfl) (pe_op op_mod (pe_callTy cr_intI (by rfl) m_int (by decide +kernel) (pa_cons (pe_op op_add (pe_op op_add (pe_op op_mul (pv 5) pe_int) (pe_op op_mul (pv 4) pe_int)) pe_int) pa_nil)) pe_int))
          (pss_one (ps_for PassesOwn.never rfl (pi_range1 (by rfl) m_range (pa_cons pe_int pa_nil)) (pg_name (i := 6) sc_law_digits.nd rfl (Or.inl rfl))
            (pss_cons (ps_set (i := 7) sc_law_digits.nd rfl (Or.inl rfl) (pe_op op_mod (pe_callTy cr_intI (by rfl) m_int (by decide +kernel) (pa_cons (pe_op op_add (pe_op op_add (pe_op op_mul (pv 7) pe_int) (pe_op op_mul pe_int (pv 6))) pe_int) pa_nil)) pe_int))
            (pss_one (ps_expr (pe_bm PySem.F.plainAttrs_list PySem.F.slot_list_append PySem.F.type_list_append mt_append (pv 3) (pa_cons (pe_op op_mod (pe_callTy cr_intI (by rfl) m_int (by decide +kernel) (pa_cons (pe_op op_fdiv (pv 7) pe_int) pa_nil)) pe_int) pa_nil)))))))))))))
      (pss_one (ps_ret (pv 3))))), ?_⟩
    obtain ⟨F, a, ns, rfl, ok, ha, k⟩ := h
    walk_at "go"
    refine k_mu ok fun p F1 H1 g1 mp1 np => ?_
    walk_at "go"
    walk_at "ss"
    refine r_rng2E (lo := 0) (hi := 63) rfl rfl (by decide) (by decide) ?_
    refine loopR0 (fun i σ' H' => ∃ (F' : Hp) (y1 y2 y3 y4 : Option V), Grow [] F H F' H' ∧ DgM F' H' p (60 * i) ∧ σ' = [some (.ref a), some (.int 0), some (.int 63), some (.ref p), y1, y2, y3, y4])
      ⟨F1, none, none, none, none, g1, ⟨[], mp1, Nat.le_refl _⟩, rfl⟩ ?_ ?_
    · rintro i σ' H2 hi ⟨F2, y1, y2, y3, y4, G, mp, rfl⟩
      walk_at "go"
      walk_at "ss"
      walk_at "go"
      refine ⟨a, ns, i, rfl, sql_grow G ha, fun z => ?_⟩
      walk_at "go"
      walk_at "ss"
      refine r_cut (M := fun σ2 H3 => H3 = H2 ∧ ∃ z : Int, σ2 = [some (.ref a), some (.int 0), some (.int 63), some (.ref p), some (.int (i : Int)), some (.int z), y3, y4]) ?_ ?_
      · walk_at "go"
        refine r_ite (fun c => ?_) (fun c => ?_)
        · walk_at "go"
          refine r_I (.inl ⟨by decide, by decide⟩) ?_
          walk_at "go"
          exact ⟨rfl, _, rfl⟩
        · walk_at "go"
          exact ⟨rfl, _, rfl⟩
      · rintro σ2 H3 ⟨rfl, z, rfl⟩
        walk_at "go"
        refine r_I ⟨by decide, by decide, by decide⟩ ?_
        walk_at "go"
        refine r_ite (fun c => ?_) (fun c => ?_)
        · walk_at "go"
          refine r_rng1E (n := 60) rfl (by decide) ?_
          refine loopR0 (fun j σ' H' => ∃ (F' : Hp) (z : Int) (y3 : Option V), Grow [] F H F' H' ∧ DgM F' H' p (60 * i + j) ∧ σ' = [some (.ref a), some (.int 0), some (.int 63), some (.ref p), some (.int (i : Int)), some (.int z), y3, y4])
            ⟨F2, z, y3, G, mp, rfl⟩ ?_ ?_
          · rintro j σ' H4 hj ⟨F4, z4, y, G4, mp4, rfl⟩
            walk_at "go"
            walk_at "ss"
            walk_at "go"
            refine r_ite (fun c => ?_) (fun c => ?_)
            · have okL := G4.fh
              have mp4' := mp4
              obtain ⟨ds4, md4, ld4⟩ := mp4'
              walk_at "go"
              refine r_I (by decide) ?_
              walk_at "go"
              refine k_dg G4.fh mp4 (by omega) fun F5 H5 g5 mp5 => ?_
              walk_at "go"
              refine r_I ⟨by decide, by decide⟩ ?_
              walk_at "go"
              exact ⟨F5, _, _, G4.comp g5 (side_one (.inr np)), mp5, rfl⟩
            · walk_at "go"
              exact ⟨F4, _, _, G4, mp4.mono (by omega), rfl⟩
          · rintro σ' H4 ⟨F4, z4, y, G4, mp4, rfl⟩
            walk_at "go"
            exact ⟨F4, _, _, _, _, G4, mp4.mono (by omega), rfl⟩
        · walk_at "go"
          refine r_I (.inr ⟨by decide, by decide⟩) ?_
          walk_at "go"
          refine r_I (.inr ⟨by decide, by decide⟩) ?_
          walk_at "go"
          refine r_I (by decide) ?_
          walk_at "go"
          walk_at "ss"
          walk_at "go"
          refine r_rng1E (n := 12) rfl (by decide) ?_
          refine loopR0 (fun j σ' H' => ∃ (F' : Hp) (z w : Int) (y3 : Option V), Grow [] F H F' H' ∧ DgM F' H' p (60 * i + j) ∧ σ' = [some (.ref a), some (.int 0), some (.int 63), some (.ref p), some (.int (i : Int)), some (.int z), y3, some (.int w)])
            ⟨F2, z, _, y3, G, mp, rfl⟩ ?_ ?_
          · rintro j σ' H4 hj ⟨F4, z4, w4, y, G4, mp4, rfl⟩
            have okL := G4.fh
            have mp4' := mp4
            obtain ⟨ds4, md4, ld4⟩ := mp4'
            walk_at "go"
            walk_at "ss"
            walk_at "go"
            refine r_I (.inr ⟨by decide, by decide⟩) ?_
            walk_at "go"
            refine r_I (.inl ⟨by decide, by decide⟩) ?_
            walk_at "go"
            refine r_I (by decide) ?_
            walk_at "go"
            walk_at "ss"
            walk_at "go"
            refine r_I ⟨by decide, by decide⟩ ?_
            walk_at "go"
            refine r_I (by decide) ?_
            walk_at "go"
            refine k_dg G4.fh mp4 (by omega) fun F5 H5 g5 mp5 => ?_
            walk_at "go"
            exact ⟨F5, _, _, _, G4.comp g5 (side_one (.inr np)), mp5, rfl⟩
          · rintro σ' H4 ⟨F4, z4, w4, y, G4, mp4, rfl⟩
            walk_at "go"
            exact ⟨F4, _, _, _, _, G4, mp4.mono (by omega), rfl⟩
    · rintro σ' H2 ⟨F2, y1, y2, y3, y4, G, ⟨ds, mp, ld⟩, rfl⟩
      walk_at "go"
      refine k_fz G.fh mp fun F3 g3 hp3 => ?_
      exact k p ds F3 H2 (G.comp g3 (side_one (.inr np))) hp3

/-- the box of digits -/
def Box (F H : Hp) (b : Addr) : Prop := ∃ (dg : Addr) (ds : List Int) (n : Nat), Mu F H b (.lst [.ref dg, .int (n : Int)]) ∧ F dg = some (.lst (ds.map V.int))
theorem Box.grow {M : List Addr} {F H F' H' : Hp} {b : Addr} (g : Grow M F H F' H') (n : b ∉ M) (h : Box F H b) : Box F' H' b :=
  let ⟨dg, ds, k, m, e⟩ := h
  ⟨dg, ds, k, g.mu n m, g.at e⟩
theorem Box.ne {F H : Hp} {b p : Addr} (h : Box F H b) (n : H p = none) : b ≠ p :=
  let ⟨_, _, _, m, _⟩ := h
  m.ne n
def sp_law_draw : Sp := fun vs H Q _ => ∃ (F : Hp) (b : Addr) (n : Nat), vs = [.ref b, .int (n : Int)] ∧ Same F H ∧ Box F H b ∧ 1 ≤ n ∧ ∀ (j : Nat) (F' H' : Hp), Grow [b] F H F' H' → Box F' H' b → j < n → Q (.int (j : Int)) H'
abbrev N_law_draw : List Str := ["_law_box", "_law_many", "_law_at"]
theorem sc_law_draw : FnScope N_law_draw ["_law_box", "_law_many"] (defScope s_law_draw) := ⟨rfl, rfl, rfl, by decide +kernel, rfl, by decide +kernel, by decide +kernel⟩
theorem ok_law_draw (T : Txt K mg) : OkG P w K mg base 1 "_law_draw" ["_law_box", "_law_many"] sp_law_draw := by
  have m_int : mg "int" = none := T.free 69 rfl
  have m_len : mg "len" = none := T.free 68 rfl
  refine T.okG 54 43 rfl rfl (d := d_law_draw) sc_law_draw (fun _ _ _ _ _ _ us hl => match us, hl with | [_, _], _ => rfl) (fun vs H Q E h => ?_) (fun cdv A outer s H vs Q E hr h => ?_)
  · obtain ⟨_, _, _, rfl, _⟩ := h
    rfl
  · refine ⟨_, PSs.nox (pss_cons (ps_set (i := 2) sc_law_draw.nd rfl (Or.inl rfl) (pe_ix ix_list (pv 0) pe_int (fun _ _ => rfl)))
      (pss_cons (ps_asg (pe_op op_add (pv 2) pe_int) (pg_sub (pv 0) pe_int set_list))
      (pss_cons (ps_if (pt_cmpR op_lt (pv 2) (pe_callB cr_lenL (by rfl) m_len PySem.boot_len (pa_cons (pe_ix ix_list (pv 0) pe_int (fun _ _ => rfl)) pa_nil)) (nomark _))
        (pss_one (ps_ret (pe_op op_mod (pe_callTy cr_intI (by rfl) m_int (by decide +kernel) (pa_cons (pe_ix ix_list (pe_ix ix_list (pv 0) pe_int (fun _ _ => rfl)) (pv 2) (fun _ _ => rfl)) pa_nil)) (pv 1))))
        pss_nil)
      (pss_one (ps_ret pe_int))))), ?_⟩
    obtain ⟨F, b, n, rfl, ok, ⟨dg, ds, at0, m, hdg⟩, hn, k⟩ := h
    walk_at "go"
    refine r_ixL (n := 1) (sql_mu m) rfl rfl ?_
    walk_at "go"
    walk_at "ss"
    walk_at "go"
    refine r_setL (j := 1) m.1 rfl (k_wr ok m fun F1 H1 g1 m1 => ?_)
    have ok1 := g1.fh
    have m1 : Mu F1 H1 b (.lst [.ref dg, .int ((at0 + 1 : Nat) : Int)]) := m1
    have hdg1 := g1.at hdg
    walk_at "go"
    refine r_ixL (n := 0) (sql_mu m1) rfl rfl ?_
    walk_at "go"
    rw [List.length_map]
    refine r_ite (fun c => ?_) (fun c => ?_)
    · have c := of_decide_eq_true c
      have hlt : at0 < ds.length := by omega
      walk_at "go"
      refine r_ixL (n := 0) (sql_mu m1) rfl rfl ?_
      walk_at "go"
      refine r_ixL (n := at0) (sql_fz ok1 hdg1) rfl (show (ds.map V.int)[at0]? = some (.int ds[at0]) by rw [List.getElem?_map, List.getElem?_eq_getElem hlt]; rfl) ?_
      walk_at "go"
      refine r_I (show (0 : Int) < (n : Int) by omega) ?_
      have e1 : 0 ≤ ds[at0] % (n : Int) := Int.emod_nonneg _ (by omega)
      have e2 : ds[at0] % (n : Int) < (n : Int) := Int.emod_lt_of_pos _ (by omega)
      have e3 : ds[at0] % (n : Int) = (((ds[at0] % (n : Int)).toNat : Nat) : Int) := by omega
      rw [e3]
      exact k _ F1 H1 g1 ⟨dg, ds, _, m1, hdg1⟩ (by omega)
    · walk_at "go"
      exact k 0 F1 H1 g1 ⟨dg, ds, _, m1, hdg1⟩ (by omega)

def anyC : Str := " !\"#$&'()*+,-./0123456789:;<=>?@ABCDEFGHIJKLMNOPQRSTUVWXYZ[\\]^_`abcdefghijklmnopqrstuvwxyz{|}~\n"
def solC : Str := "!\"#$&'()*+,-./0123456789:;<=>?@ABCDEFGHIJKLMNOPQRSTUVWXYZ[\\]^_`abcdefghijklmnopqrstuvwxyz{|}~"
theorem any_at {j : Nat} (h : j < 95) : ∃ c, anyC.cps.toList[j]? = some c ∧ c < 1114112 := by
  have e : anyC.cps.toList.length = 95 := by decide +kernel
  have q : ∀ c ∈ anyC.cps.toList, c < 1114112 := by decide +kernel
  exact ⟨_, List.getElem?_eq_getElem (by omega), q _ (List.getElem_mem _)⟩
theorem sol_at {j : Nat} (h : j < 93) : ∃ c, solC.cps.toList[j]? = some c ∧ c < 1114112 ∧ c ≠ 32 ∧ c ≠ 10 := by
  have e : solC.cps.toList.length = 93 := by decide +kernel
  have q : ∀ c ∈ solC.cps.toList, c < 1114112 ∧ c ≠ 32 ∧ c ≠ 10 := by decide +kernel
  exact ⟨_, List.getElem?_eq_getElem (by omega), q _ (List.getElem_mem _)⟩
theorem any_len2 : anyC.length = 95 := by decide +kernel
theorem sol_len2 : solC.length = 93 := by decide +kernel
theorem bb {r : Addr} {P : Addr → Prop} : ∀ a ∈ [r], a ∈ [r] ∨ P a := fun a z => .inl z
def sp_law_any : Sp := fun vs H Q _ => ∃ (F : Hp) (b : Addr), vs = [.ref b] ∧ Same F H ∧ Box F H b ∧ ∀ (c : Nat) (F' H' : Hp), Grow [b] F H F' H' → Box F' H' b → c < 1114112 → Q (.str (S [c])) H'
abbrev N_law_any : List Str := ["_law_box", "_law_chars"]
theorem sc_law_any : FnScope N_law_any ["_law_box"] (defScope s_law_any) := ⟨rfl, rfl, rfl, by decide +kernel, rfl, by decide +kernel, by decide +kernel⟩
theorem ok_law_any (T : Txt K mg) : OkG P w K mg base 2 "_law_any" ["_law_box"] sp_law_any := by
  obtain ⟨f_law_draw, fd_law_draw, G_law_draw, mg_law_draw, kp_law_draw, b_law_draw⟩ := ok_law_draw (P := P) (w := w) (base := base) T
  refine T.okG 56 45 rfl rfl (d := d_law_any) sc_law_any (fun _ _ _ _ _ _ us hl => match us, hl with | [_], _ => rfl) (fun vs H Q E h => ?_) (fun cdv A outer s H vs Q E hr h => ?_)
  · obtain ⟨_, _, rfl, _⟩ := h
    rfl
  · refine ⟨_, PSs.nox (pss_cons (ps_set (i := 1) sc_law_any.nd rfl (Or.inl rfl) pe_str)
      (pss_one (ps_ret (pe_ix ix_str (pv 1) (pe_call G_law_draw (hr.mono (by decide)) rfl mg_law_draw kp_law_draw b_law_draw .nil pass0 (pa_cons (pv 0) (pa_cons pe_int pa_nil))) (fun _ _ => rfl))))), ?_⟩
    obtain ⟨F, b, rfl, ok, bx, k⟩ := h
    walk_at "go"
    walk_at "ss"
    walk_at "go"
    refine ⟨F, b, 95, rfl, ok, bx, by decide, fun j F1 H1 g1 bx1 hj => ?_⟩
    obtain ⟨c, hc, hq⟩ := any_at hj
    refine r_ixS (z := anyC) (n := j) (by rw [any_len2]; decide) rfl hc ?_
    exact k c F1 H1 g1 bx1 hq

def sp_law_solid : Sp := fun vs H Q _ => ∃ (F : Hp) (b : Addr), vs = [.ref b] ∧ Same F H ∧ Box F H b ∧ ∀ (c : Nat) (F' H' : Hp), Grow [b] F H F' H' → Box F' H' b → (c < 1114112 ∧ c ≠ 32 ∧ c ≠ 10) → Q (.str (S [c])) H'
abbrev N_law_solid : List Str := ["_law_box", "_law_chars"]
theorem sc_law_solid : FnScope N_law_solid ["_law_box"] (defScope s_law_solid) := ⟨rfl, rfl, rfl, by decide +kernel, rfl, by decide +kernel, by decide +kernel⟩
theorem ok_law_solid (T : Txt K mg) : OkG P w K mg base 2 "_law_solid" ["_law_box"] sp_law_solid := by
  obtain ⟨f_law_draw, fd_law_draw, G_law_draw, mg_law_draw, kp_law_draw, b_law_draw⟩ := ok_law_draw (P := P) (w := w) (base := base) T
  refine T.okG 57 46 rfl rfl (d := d_law_solid) sc_law_solid (fun _ _ _ _ _ _ us hl => match us, hl with | [_], _ => rfl) (fun vs H Q E h => ?_) (fun cdv A outer s H vs Q E hr h => ?_)
  · obtain ⟨_, _, rfl, _⟩ := h
    rfl
  · refine ⟨_, PSs.nox (pss_cons (ps_set (i := 1) sc_law_solid.nd rfl (Or.inl rfl) pe_str)
      (pss_one (ps_ret (pe_ix ix_str (pv 1) (pe_call G_law_draw (hr.mono (by decide)) rfl mg_law_draw kp_law_draw b_law_draw .nil pass0 (pa_cons (pv 0) (pa_cons pe_int pa_nil))) (fun _ _ => rfl))))), ?_⟩
    obtain ⟨F, b, rfl, ok, bx, k⟩ := h
    walk_at "go"
    walk_at "ss"
    walk_at "go"
    refine ⟨F, b, 93, rfl, ok, bx, by decide, fun j F1 H1 g1 bx1 hj => ?_⟩
    obtain ⟨c, hc, hq⟩ := sol_at hj
    refine r_ixS (z := solC) (n := j) (by rw [sol_len2]; decide) rfl hc ?_
    exact k c F1 H1 g1 bx1 hq

def sp_law_text : Sp := fun vs H Q _ => ∃ (F : Hp) (b : Addr) (n : Nat), vs = [.ref b, .int (n : Int)] ∧ Same F H ∧ Box F H b ∧ n ≤ 1000 ∧ ∀ (l : List Nat) (F' H' : Hp), Grow [b] F H F' H' → Box F' H' b → l.length = n → okC l → Q (.str (S l)) H'
abbrev N_law_text : List Str := ["_law_box", "_law_many", "_law_text_here", "_law_k"]
theorem sc_law_text : FnScope N_law_text ["_law_box", "_law_many"] (defScope s_law_text) := ⟨rfl, rfl, rfl, by decide +kernel, rfl, by decide +kernel, by decide +kernel⟩
theorem ok_law_text (T : Txt K mg) : OkG P w K mg base 3 "_law_text" ["_law_box", "_law_many"] sp_law_text := by
  have m_range : mg "range" = none := T.free 70 rfl
  obtain ⟨f_law_any, fd_law_any, G_law_any, mg_law_any, kp_law_any, b_law_any⟩ := ok_law_any (P := P) (w := w) (base := base) T
  refine T.okG 58 47 rfl rfl (d := d_law_text) sc_law_text (fun _ _ _ _ _ _ us hl => match us, hl with | [_, _], _ => rfl) (fun vs H Q E h => ?_) (fun cdv A outer s H vs Q E hr h => ?_)
  · obtain ⟨_, _, _, rfl, _⟩ := h
    rfl
  · refine ⟨_, PSs.nox (pss_cons (ps_set (i := 2) sc_law_text.nd rfl (Or.inl rfl) pe_str)
      (pss_cons (ps_for PassesOwn.never rfl (pi_range1 (by rfl) m_range (pa_cons (pv 1) pa_nil)) (pg_name (i := 3) sc_law_text.nd rfl (Or.inl rfl))
        (pss_one (ps_set (i := 2) sc_law_text.nd rfl (Or.inl rfl) (pe_op op_catS (pv 2) (pe_call G_law_any (hr.mono (by decide)) rfl mg_law_any kp_law_any b_law_any .nil pass0 (pa_cons (pv 0) pa_nil))))))
      (pss_one (ps_ret (pv 2))))), ?_⟩
    obtain ⟨F, b, n, rfl, ok, bx, hn, k⟩ := h
    walk_at "go"
    walk_at "ss"
    walk_at "go"
    refine r_rng1E (n := n) rfl (by omega) ?_
    refine loopR0 (fun i σ' H' => ∃ (F' : Hp) (l : List Nat) (y : Option V), Grow [b] F H F' H' ∧ Box F' H' b ∧ l.length = i ∧ okC l ∧ σ' = [some (.ref b), some (.int (n : Int)), some (.str (S l)), y])
      ⟨F, [], none, Grow.refl ok, bx, rfl, (fun x hx => nomatch hx), rfl⟩ ?_ ?_
    · rintro i σ' H2 hi ⟨F2, l, y, G, bx2, hl, hl2, rfl⟩
      walk_at "go"
      walk_at "ss"
      walk_at "go"
      refine ⟨F2, b, rfl, G.fh, bx2, fun c F3 H3 g3 bx3 hc => ?_⟩
      walk_at "go"
      refine r_catSS (by rw [List.length_singleton]; omega) ?_
      walk_at "go"
      refine ⟨F3, l ++ [c], _, G.comp g3 bb, bx3, by rw [List.length_append, hl]; rfl, ?_, rfl⟩
      · have : okC (l ++ [c]) := fun x hx => by
          rcases List.mem_append.mp hx with z | z
          · exact hl2 x z
          · rw [List.mem_singleton.mp z]; exact hc
        exact this
    · rintro σ' H2 ⟨F2, l, y, G, bx2, hl, hl2, rfl⟩
      walk_at "go"
      exact k l F2 H2 G bx2 hl hl2

def sp_law_word : Sp := fun vs H Q _ => ∃ (F : Hp) (b : Addr) (n : Nat), vs = [.ref b, .int (n : Int)] ∧ Same F H ∧ Box F H b ∧ n ≤ 1000 ∧ ∀ (l : List Nat) (F' H' : Hp), Grow [b] F H F' H' → Box F' H' b → l.length = n → (okC l ∧ 32 ∉ l ∧ 10 ∉ l) → Q (.str (S l)) H'
abbrev N_law_word : List Str := ["_law_box", "_law_many", "_law_text_here", "_law_k"]
theorem sc_law_word : FnScope N_law_word ["_law_box", "_law_many"] (defScope s_law_word) := ⟨rfl, rfl, rfl, by decide +kernel, rfl, by decide +kernel, by decide +kernel⟩
theorem ok_law_word (T : Txt K mg) : OkG P w K mg base 3 "_law_word" ["_law_box", "_law_many"] sp_law_word := by
  have m_range : mg "range" = none := T.free 70 rfl
  obtain ⟨f_law_solid, fd_law_solid, G_law_solid, mg_law_solid, kp_law_solid, b_law_solid⟩ := ok_law_solid (P := P) (w := w) (base := base) T
  refine T.okG 59 48 rfl rfl (d := d_law_word) sc_law_word (fun _ _ _ _ _ _ us hl => match us, hl with | [_, _], _ => rfl) (fun vs H Q E h => ?_) (fun cdv A outer s H vs Q E hr h => ?_)
  · obtain ⟨_, _, _, rfl, _⟩ := h
    rfl
  · refine ⟨_, PSs.nox (pss_cons (ps_set (i := 2) sc_law_word.nd rfl (Or.inl rfl) pe_str)
      (pss_cons (ps_for PassesOwn.never rfl (pi_range1 (by rfl) m_range (pa_cons (pv 1) pa_nil)) (pg_name (i := 3) sc_law_word.nd rfl (Or.inl rfl))
        (pss_one (ps_set (i := 2) sc_law_word.nd rfl (Or.inl rfl) (pe_op op_catS (pv 2) (pe_call G_law_solid (hr.mono (by decide)) rfl mg_law_solid kp_law_solid b_law_solid .nil pass0 (pa_cons (pv 0) pa_nil))))))
      (pss_one (ps_ret (pv 2))))), ?_⟩
    obtain ⟨F, b, n, rfl, ok, bx, hn, k⟩ := h
    walk_at "go"
    walk_at "ss"
    walk_at "go"
    refine r_rng1E (n := n) rfl (by omega) ?_
    refine loopR0 (fun i σ' H' => ∃ (F' : Hp) (l : List Nat) (y : Option V), Grow [b] F H F' H' ∧ Box F' H' b ∧ l.length = i ∧ (okC l ∧ 32 ∉ l ∧ 10 ∉ l) ∧ σ' = [some (.ref b), some (.int (n : Int)), some (.str (S l)), y])
      ⟨F, [], none, Grow.refl ok, bx, rfl, ⟨fun x hx => (nomatch hx), fun z => (nomatch z), fun z => (nomatch z)⟩, rfl⟩ ?_ ?_
    · rintro i σ' H2 hi ⟨F2, l, y, G, bx2, hl, hl2, rfl⟩
      walk_at "go"
      walk_at "ss"
      walk_at "go"
      refine ⟨F2, b, rfl, G.fh, bx2, fun c F3 H3 g3 bx3 hc => ?_⟩
      walk_at "go"
      refine r_catSS (by rw [List.length_singleton]; omega) ?_
      walk_at "go"
      refine ⟨F3, l ++ [c], _, G.comp g3 bb, bx3, by rw [List.length_append, hl]; rfl, ?_, rfl⟩
      · refine ⟨fun x hx => ?_, fun z => ?_, fun z => ?_⟩
        · rcases List.mem_append.mp hx with z | z
          · exact hl2.1 x z
          · rw [List.mem_singleton.mp z]; exact hc.1
        · rcases List.mem_append.mp z with z | z
          · exact hl2.2.1 z
          · exact hc.2.1 (List.mem_singleton.mp z).symm
        · rcases List.mem_append.mp z with z | z
          · exact hl2.2.2 z
          · exact hc.2.2 (List.mem_singleton.mp z).symm
    · rintro σ' H2 ⟨F2, l, y, G, bx2, hl, hl2, rfl⟩
      walk_at "go"
      exact k l F2 H2 G bx2 hl hl2

end
section
variable {P : Program} {w : World} {K : PySem.W.Frag} {mg : Str → Option Value} {base : Heap}

theorem op_repS {X : Cx} : OpR X (binaryOp .Mult) (fun x y H Q => ∃ c : Nat, x = .str ⟨#[c]⟩ ∧ y = .int 2 ∧ Q (.str (S [c, c])) H) := by
  intro pins s σ H x y v u Q I rx ry h
  obtain ⟨c, rfl, rfl, q⟩ := h
  obtain ⟨t, rfl⟩ := rx
  obtain ⟨t', rfl⟩ := ry
  refine PySem.P.mul_str (by decide) (fun _ _ => ?_) (fun _ _ => ?_) ?_
  · have e : (⟨#[c]⟩ : Str).length = 1 := rfl
    rw [e]
    decide
  · have e : (⟨#[c]⟩ : Str).length = 1 := rfl
    rw [e]
    decide
  · rw [if_neg (by decide), if_neg (by show ¬ (false || false) = true; decide)]
    exact ⟨by show 2 ≤ _; decide, ⟨.str (S [c, c]), H, I.tok _, ⟨_, rfl⟩, q⟩⟩
def StW (w : List Nat) : Prop := w.length ≤ 4 ∧ wordC w ∧ okC w
def strsV (ws : List (List Nat)) : List V := ws.map fun x => V.str (S x)
theorem strsV_at {ws : List (List Nat)} {j : Nat} (h : j < ws.length) : (strsV ws)[j]? = some (.str (S ws[j])) := by
  unfold strsV
  rw [List.getElem?_map, List.getElem?_eq_getElem h]
  rfl
structure Stock (F : Hp) (v : V) (ws : List (List Nat)) : Prop where
  at_ : ∃ a, v = .ref a ∧ F a = some (.lst (strsV ws))
  len : ws.length = 6
  ok : ∀ w ∈ ws, StW w
theorem Stock.grow {M : List Addr} {F H F' H' : Hp} {v : V} {ws : List (List Nat)} (g : Grow M F H F' H') (h : Stock F v ws) : Stock F' v ws :=
  ⟨let ⟨a, e, q⟩ := h.at_; ⟨a, e, g.at q⟩, h.len, h.ok⟩
theorem Grow.forget {M : List Addr} {F H F1 F2 H2 : Hp} (g : Grow M F1 H F2 H2) (s : Same F F1) : Grow M F H F H2 := ⟨fun _ _ e => e, fun a o e => g.fh a o (g.ff a o (s a o e)), g.keep, fun a h n => absurd n h⟩
theorem dash_str : ("-" : Str) = S [45] := by decide +kernel
theorem lo26 : ∀ j : Nat, j < 26 → ∃ c, ("abcdefghijklmnopqrstuvwxyz" : Str).cps.toList[j]? = some c ∧ c < 1114112 ∧ c ≠ 32 ∧ c ≠ 10 := by
  intro j h
  have e : ("abcdefghijklmnopqrstuvwxyz" : Str).cps.toList.length = 26 := by decide +kernel
  have q : ∀ c ∈ ("abcdefghijklmnopqrstuvwxyz" : Str).cps.toList, c < 1114112 ∧ c ≠ 32 ∧ c ≠ 10 := by decide +kernel
  exact ⟨_, List.getElem?_eq_getElem (by omega), q _ (List.getElem_mem _)⟩
theorem dg10 : ∀ j : Nat, j < 10 → ∃ c, ("0123456789" : Str).cps.toList[j]? = some c ∧ c < 1114112 ∧ c ≠ 32 ∧ c ≠ 10 := by
  intro j h
  have e : ("0123456789" : Str).cps.toList.length = 10 := by decide +kernel
  have q : ∀ c ∈ ("0123456789" : Str).cps.toList, c < 1114112 ∧ c ≠ 32 ∧ c ≠ 10 := by decide +kernel
  exact ⟨_, List.getElem?_eq_getElem (by omega), q _ (List.getElem_mem _)⟩
theorem lo26_len : ("abcdefghijklmnopqrstuvwxyz" : Str).length = 26 := by decide +kernel
theorem dg10_len : ("0123456789" : Str).length = 10 := by decide +kernel
def SolC (c : Nat) : Prop := c < 1114112 ∧ c ≠ 32 ∧ c ≠ 10
theorem stW_of {l : List Nat} (h0 : l ≠ []) (hl : l.length ≤ 4) (h : ∀ c ∈ l, SolC c) : StW l :=
  ⟨hl, ⟨h0, fun z => (h 32 z).2.1 rfl, fun z => (h 10 z).2.2 rfl⟩, fun c hc => (h c hc).1⟩
theorem Rps.snoc' {F : Hp} {vs : List V} {ds : List PyData} {v : V} {d : PyData} (h : Rps F vs ds) (k : Rp F v d) : Rps F (vs ++ [v]) (ds ++ [d]) := h.snoc k
def sp_law_words : Sp := fun vs H Q _ => ∃ (F : Hp) (b : Addr), vs = [.ref b] ∧ Same F H ∧ Box F H b ∧ ∀ (v : V) (ws : List (List Nat)) (F' H' : Hp), Grow [b] F H F' H' → Box F' H' b → Stock F' v ws → Q v H'
abbrev N_law_words : List Str := ["_law_box", "_law_first", "_law_second"]
theorem sc_law_words : FnScope N_law_words ["_law_box"] (defScope s_law_words) := ⟨rfl, rfl, rfl, by decide +kernel, rfl, by decide +kernel, by decide +kernel⟩
theorem ok_law_words (T : Txt K mg) : OkG P w K mg base 4 "_law_words" ["_law_box"] sp_law_words := by
  obtain ⟨f_law_draw, fd_law_draw, G_law_draw, mg_law_draw, kp_law_draw, b_law_draw⟩ := ok_law_draw (P := P) (w := w) (base := base) T
  obtain ⟨f_law_solid, fd_law_solid, G_law_solid, mg_law_solid, kp_law_solid, b_law_solid⟩ := ok_law_solid (P := P) (w := w) (base := base) T
  obtain ⟨f_law_word, fd_law_word, G_law_word, mg_law_word, kp_law_word, b_law_word⟩ := ok_law_word (P := P) (w := w) (base := base) T
  refine T.okG 73 62 rfl rfl (d := d_law_words) sc_law_words (fun _ _ _ _ _ _ us hl => match us, hl with | [_], _ => rfl) (fun vs H Q E h => ?_) (fun cdv A outer s H vs Q E hr h => ?_)
  · obtain ⟨_, _, rfl, _⟩ := h
    rfl
  · refine ⟨_, PSs.nox (pss_cons (ps_set (i := 1) sc_law_words.nd rfl (Or.inl rfl) (pe_ix ix_str pe_str (pe_call G_law_draw (hr.mono (by decide)) rfl mg_law_draw kp_law_draw b_law_draw .nil pass0 (pa_cons (pv 0) (pa_cons pe_int pa_nil))) (fun _ _ => rfl)))
      (pss_cons (ps_set (i := 2) sc_law_words.nd rfl (Or.inl rfl) (pe_ix ix_str pe_str (pe_call G_law_draw (hr.mono (by decide)) rfl mg_law_draw kp_law_draw b_law_draw .nil pass0 (pa_cons (pv 0) (pa_cons pe_int pa_nil))) (fun _ _ => rfl)))
      (pss_one (ps_ret (pe_lst (pa_cons (pv 1) (pa_cons (pe_op op_repS (pv 2) pe_int) (pa_cons (pe_op op_catS (pv 1) (pv 2)) (pa_cons (pe_call G_law_word (hr.mono (by decide)) rfl mg_law_word kp_law_word b_law_word .nil pass0 (pa_cons (pv 0) (pa_cons (pe_op op_add pe_int (pe_call G_law_draw (hr.mono (by decide)) rfl mg_law_draw kp_law_draw b_law_draw .nil pass0 (pa_cons (pv 0) (pa_cons pe_int pa_nil)))) pa_nil))) (pa_cons (pe_call G_law_solid (hr.mono (by decide)) rfl mg_law_solid kp_law_solid b_law_solid .nil pass0 (pa_cons (pv 0) pa_nil)) (pa_cons (pe_op op_catS (pe_op op_catS (pv 2) pe_str) (pv 1)) pa_nil))))))))))), ?_⟩
    obtain ⟨F, b, rfl, ok, bx, k⟩ := h
    walk_at "go"
    refine ⟨F, b, 26, rfl, ok, bx, by decide, fun j1 F1 H1 g1 bx1 hj1 => ?_⟩
    obtain ⟨c, hc, qc⟩ := lo26 j1 hj1
    refine r_ixS (n := j1) (by rw [lo26_len]; decide) rfl hc ?_
    walk_at "go"
    walk_at "ss"
    walk_at "go"
    refine ⟨F1, b, 10, rfl, g1.fh, bx1, by decide, fun j2 F2 H2 g2 bx2 hj2 => ?_⟩
    obtain ⟨d, hd, qd⟩ := dg10 j2 hj2
    refine r_ixS (n := j2) (by rw [dg10_len]; decide) rfl hd ?_
    walk_at "go"
    walk_at "ss"
    walk_at "go"
    refine ⟨d, rfl, rfl, ?_⟩
    walk_at "go"
    refine r_catSS (w := [c]) (u := [d]) (by simp) ?_
    walk_at "go"
    refine ⟨F2, b, 4, rfl, g2.fh, bx2, by decide, fun j3 F3 H3 g3 bx3 hj3 => ?_⟩
    walk_at "go"
    refine ⟨F3, b, 1 + j3, by simp, g3.fh, bx3, by omega, fun l F4 H4 g4 bx4 hl ⟨hl1, hl2, hl3⟩ => ?_⟩
    walk_at "go"
    refine ⟨F4, b, rfl, g4.fh, bx4, fun x F5 H5 g5 bx5 qx => ?_⟩
    walk_at "go"
    rw [dash_str]
    refine r_catSS (w := [d]) (u := [45]) (by simp) ?_
    walk_at "go"
    refine r_catSS (w := [d] ++ [45]) (u := [c]) (by simp) ?_
    walk_at "go"
    refine k_new g5.fh fun p F6 H6 g6 hp6 np6 => ?_
    have c45 : SolC 45 := by unfold SolC; decide
    refine k _ [[c], [d, d], [c, d], l, [x], [d, 45, c]] F6 H6 (((((g1.comp g2 bb).comp g3 bb).comp g4 bb).comp g5 bb).comp g6 side_nil) (bx5.grow g6 nil_not) ⟨⟨p, rfl, hp6⟩, rfl, fun w hw => ?_⟩
    simp only [List.mem_cons, List.not_mem_nil, or_false] at hw
    rcases hw with rfl | rfl | rfl | rfl | rfl | rfl
    · exact stW_of (by simp) (by simp) (by simp; exact qc)
    · exact stW_of (by simp) (by simp) (by simp; exact qd)
    · exact stW_of (by simp) (by simp) (by simp; exact ⟨qc, qd⟩)
    · exact ⟨by omega, ⟨fun z => by rw [z] at hl; simp at hl; omega, hl2, hl3⟩, hl1⟩
    · exact stW_of (by simp) (by simp) (by simp; exact qx)
    · exact stW_of (by simp) (by simp) (by simp; exact ⟨qd, c45, qc⟩)

def kindsOf (c : Nat) : List Kind := [.letter, .digit, .any, .ch c]
theorem kinds_at {c j : Nat} (h : j < 4) : ∃ d : Kind, ((kindsOf c).map fun d => V.str d.s)[j]? = some (.str d.s) := by
  have h : j < (kindsOf c).length := h
  exact ⟨(kindsOf c)[j], by rw [List.getElem?_map, List.getElem?_eq_getElem h]; rfl⟩
theorem st_head {w : List Nat} (h : StW w) : ∃ c, w[0]? = some c ∧ SolC c := by
  obtain ⟨h1, ⟨h2, h3, h4⟩, h5⟩ := h
  cases w with
  | nil => exact absurd rfl h2
  | cons c w => exact ⟨c, rfl, h5 c List.mem_cons_self, fun z => h3 (z ▸ List.mem_cons_self), fun z => h4 (z ▸ List.mem_cons_self)⟩
def sp_law_shape : Sp := fun vs H Q _ => ∃ (F : Hp) (b : Addr) (u : V) (ws : List (List Nat)), vs = [.ref b, u] ∧ Same F H ∧ Box F H b ∧ Stock F u ws ∧ ∀ (v : V) (s : Shape) (F' H' : Hp), Grow [b] F H F' H' → Box F' H' b → Rp F' v (encSh s) → SpOk s → Q v H'
abbrev N_law_shape : List Str := ["_law_box", "_law_stock", "_law_chars", "_law_shape_here", "_law_k", "_law_least", "_law_element"]
theorem sc_law_shape : FnScope N_law_shape ["_law_box", "_law_stock"] (defScope s_law_shape) := ⟨rfl, rfl, rfl, by decide +kernel, rfl, by decide +kernel, by decide +kernel⟩
theorem ok_law_shape (T : Txt K mg) : OkG P w K mg base 2 "_law_shape" ["_law_box", "_law_stock"] sp_law_shape := by
  have m_len : mg "len" = none := T.free 68 rfl
  have m_max : mg "max" = none := T.free 72 rfl
  have m_range : mg "range" = none := T.free 70 rfl
  obtain ⟨f_law_draw, fd_law_draw, G_law_draw, mg_law_draw, kp_law_draw, b_law_draw⟩ := ok_law_draw (P := P) (w := w) (base := base) T
  refine T.okG 72 61 rfl rfl (d := d_law_shape) sc_law_shape (fun _ _ _ _ _ _ us hl => match us, hl with | [_, _], _ => rfl) (fun vs H Q E h => ?_) (fun cdv A outer s H vs Q E hr h => ?_)
  · obtain ⟨_, _, _, _, rfl, _⟩ := h
    rfl
  · refine ⟨_, PSs.nox (pss_cons (ps_set (i := 2) sc_law_shape.nd rfl (Or.inl rfl) (pe_lst (pa_cons pe_str (pa_cons pe_str (pa_cons pe_str (pa_cons (pe_ix ix_str (pe_ix ix_list (pv 1) (pe_call G_law_draw (hr.mono (by decide)) rfl mg_law_draw kp_law_draw b_law_draw .nil pass0 (pa_cons (pv 0) (pa_cons (pe_callB cr_lenL (by rfl) m_len PySem.boot_len (pa_cons (pv 1) pa_nil)) pa_nil))) (fun _ _ => rfl)) pe_int (fun _ _ => rfl)) pa_nil))))))
      (pss_cons (ps_set (i := 3) sc_law_shape.nd rfl (Or.inl rfl) (pe_lst pa_nil))
      (pss_cons (ps_for PassesOwn.never rfl (pi_range1 (by rfl) m_range (pa_cons (pe_op op_add pe_int (pe_call G_law_draw (hr.mono (by decide)) rfl mg_law_draw kp_law_draw b_law_draw .nil pass0 (pa_cons (pv 0) (pa_cons pe_int pa_nil)))) pa_nil)) (pg_name (i := 4) sc_law_shape.nd rfl (Or.inl rfl))
        (pss_cons (ps_set (i := 5) sc_law_shape.nd rfl (Or.inl rfl) (pe_call G_law_draw (hr.mono (by decide)) rfl mg_law_draw kp_law_draw b_law_draw .nil pass0 (pa_cons (pv 0) (pa_cons pe_int pa_nil))))
        (pss_one (ps_expr (pe_bm PySem.F.plainAttrs_list PySem.F.slot_list_append PySem.F.type_list_append mt_append (pv 3) (pa_cons (pe_tup (pa_cons (pe_ix ix_list (pv 2) (pe_call G_law_draw (hr.mono (by decide)) rfl mg_law_draw kp_law_draw b_law_draw .nil pass0 (pa_cons (pv 0) (pa_cons pe_int pa_nil))) (fun _ _ => rfl)) (pa_cons (pv 5) (pa_cons (pe_op op_add (pv 5) (pe_call G_law_draw (hr.mono (by decide)) rfl mg_law_draw kp_law_draw b_law_draw .nil pass0 (pa_cons (pv 0) (pa_cons pe_int pa_nil)))) pa_nil)))) pa_nil))))))
      (Evl.pss_cut (ps_if (pt_cmpR op_eq (pe_callB (cr_max rfl) (by rfl) m_max (by decide +kernel) (pa_cons (pe_lc (own := [("_law_element", 6)]) (g := gName 6) (tt := tYes) rfl sc_law_shape.nd (pi_list (pv 3)) (blkOk_by (own := [("_law_element", 6)]) (N := N_law_shape) (sc := defScope s_law_shape) (by decide +kernel)) (fun _ _ _ _ _ => (pg_name (i := 6) sc_law_shape.nd rfl (Or.inl rfl))) (fun _ _ _ _ _ => pts_nil) (fun _ _ _ _ _ => (pe_ix (ixK_tup (K := K)) (pv 6) pe_int (fun _ _ => rfl)))) pa_nil)) pe_int (nomark _))
        (pss_one (ps_expr (pe_bm PySem.F.plainAttrs_list PySem.F.slot_list_append PySem.F.type_list_append mt_append (pv 3) (pa_cons (pe_tup (pa_cons pe_str (pa_cons pe_int (pa_cons (pe_op op_add pe_int (pe_call G_law_draw (hr.mono (by decide)) rfl mg_law_draw kp_law_draw b_law_draw .nil pass0 (pa_cons (pv 0) (pa_cons pe_int pa_nil)))) pa_nil)))) pa_nil))))
        pss_nil)
      (pss_one (ps_ret (pv 3))))))), ?_⟩
    obtain ⟨F, b, u, ws, rfl, ok, bx, ⟨⟨a, rfl, ha⟩, hwl, hws⟩, k⟩ := h
    walk_at "go"
    have lw : (strsV ws).length = 6 := by unfold strsV; rw [List.length_map, hwl]
    rw [lw]
    refine ⟨F, b, 6, rfl, ok, bx, by decide, fun j1 F1 H1 g1 bx1 hj1 => ?_⟩
    refine r_ixL (n := j1) (sql_fz g1.fh (g1.at ha)) rfl (strsV_at (by omega)) ?_
    obtain ⟨c, hc, qc⟩ := st_head (hws _ (List.getElem_mem (show j1 < ws.length by omega)))
    have hl4 := (hws _ (List.getElem_mem (show j1 < ws.length by omega))).1
    walk_at "go"
    refine r_ixSS (n := 0) (by omega) rfl hc ?_
    walk_at "go"
    refine k_new g1.fh fun q F2 H2 g2 hq2 nq2 => ?_
    have hq2 : F2 q = some (.lst ((kindsOf c).map fun d => V.str d.s)) := hq2
    have bx2 := bx1.grow g2 nil_not
    have G2 := g1.comp g2 side_nil
    walk_at "go"
    walk_at "ss"
    walk_at "go"
    refine k_mu g2.fh fun p F3 H3 g3 mp3 np3 => ?_
    have bx3 := bx2.grow g3 nil_not
    have G3 := G2.comp g3 side_nil
    have nbp : b ≠ p := bx2.ne np3
    have np0 : H p = none := (G2.back np3).resolve_left fun z => nbp (List.mem_singleton.mp z).symm
    have hq3 := g3.at hq2
    walk_at "go"
    walk_at "ss"
    walk_at "go"
    refine ⟨F3, b, 3, rfl, g3.fh, bx3, by decide, fun j4 F4 H4 g4 bx4 hj4 => ?_⟩
    have mp4 := g4.mu (one_not nbp.symm) mp3
    have G4 := G3.comp g4 bb
    walk_at "go"
    refine r_rng1E (n := 1 + j4) (by simp) (by omega) ?_
    refine loopR0 (fun i σ' H' => ∃ (F' : Hp) (zs : List V) (s : Shape) (y1 y2 : Option V), Grow [b] F H F' H' ∧ Box F' H' b ∧ F' q = some (.lst ((kindsOf c).map fun d => V.str d.s)) ∧ Mu F' H' p (.lst zs) ∧ Rps F' zs (s.map encE) ∧ s.length = i ∧ (∀ e ∈ s, ElOk e) ∧
        σ' = [some (.ref b), some (.ref a), some (.ref q), some (.ref p), y1, y2, none]) ⟨F4, [], [], none, none, G4, bx4, g4.at hq3, mp4, .nil, rfl, fun e he => (nomatch he), rfl⟩ ?_ ?_
    · rintro i σ' H5 hi ⟨F5, zs, s, y1, y2, G5, bx5, hq5, mp5, rz5, sl, so, rfl⟩
      walk_at "go"
      walk_at "ss"
      walk_at "go"
      refine ⟨F5, b, 3, rfl, G5.fh, bx5, by decide, fun j6 F6 H6 g6 bx6 hj6 => ?_⟩
      have mp6 := g6.mu (one_not nbp.symm) mp5
      walk_at "go"
      walk_at "ss"
      walk_at "go"
      refine ⟨F6, b, 4, rfl, g6.fh, bx6, by decide, fun j7 F7 H7 g7 bx7 hj7 => ?_⟩
      have mp7 := g7.mu (one_not nbp.symm) mp6
      obtain ⟨d, hd⟩ := kinds_at (c := c) hj7
      refine r_ixL (n := j7) (sql_fz g7.fh (g7.at (g6.at hq5))) rfl hd ?_
      walk_at "go"
      refine ⟨F7, b, 4, rfl, g7.fh, bx7, by decide, fun j8 F8 H8 g8 bx8 hj8 => ?_⟩
      have mp8 := g8.mu (one_not nbp.symm) mp7
      walk_at "go"
      refine k_new g8.fh fun pt F9 H9 g9 hp9 np9 => ?_
      have mp9 := g9.mu nil_not mp8
      have bx9 := bx8.grow g9 nil_not
      have rz9 := g9.rps (g8.rps (g7.rps (g6.rps rz5)))
      walk_at "go"
      refine r_append mp9.1 (by rw [rz9.len_map]; omega) (k_wr g9.fh mp9 fun Fa Ha ga mpa => ?_)
      walk_at "go"
      refine ⟨Fa, _, s ++ [(d, j6, j6 + j8)], _, _, (((((G5.comp g6 bb).comp g7 bb).comp g8 bb).comp g9 side_nil).comp ga (side_one (.inr np0))), bx9.grow ga (one_not nbp), ga.at (g9.at (g8.at (g7.at (g6.at hq5)))), mpa, ?_, by rw [List.length_append, sl]; rfl, fun e he => ?_, rfl⟩
      · rw [List.map_append]
        refine (ga.rps rz9).snoc (ga.rp (.tup hp9 (.cons (.str _) (.cons (.int _) (.cons ?_ .nil)))))
        rw [show ((j6 : Int) + (j8 : Int)) = ((j6 + j8 : Nat) : Int) by omega]
        exact .int _
      · rcases List.mem_append.mp he with z | z
        · exact so e z
        · rw [List.mem_singleton.mp z]
          exact ⟨show j6 < 10 by omega, show j6 + j8 < 10 by omega, show j6 ≤ j6 + j8 by omega⟩
    · rintro σ' H5 ⟨F5, zs, s, y1, y2, G5, bx5, hq5, mp5, rz5, sl, so, rfl⟩
      have gf := fz_mu G5.fh mp5
      have fz : (upd F5 p (.lst zs)) p = some (.lst zs) := upd_same
      have okf := gf.fh
      walk_at "go"
      refine r_cut (M := fun σ2 H6 => ∃ (F6 : Hp) (zs : List V) (s2 : Shape), Grow [b] F H F6 H6 ∧ Box F6 H6 b ∧ Mu F6 H6 p (.lst zs) ∧ Rps F6 zs (s2.map encE) ∧ SpOk s2 ∧ σ2 = [some (.ref b), some (.ref a), some (.ref q), some (.ref p), y1, y2, none]) ?_ ?_
      · walk_at "go"
        refine r_itL (sql_fz okf fz) fun Dl hD => ?_
        refine lcL_map (ds := s.map encE) (es := (s.map fun e : Elem => ((e.2.1 : Nat) : Int)).map PyData.int) okf hD fz (gf.rps rz5) (by simp) (by rw [List.length_map]; omega) ?_ ?_
        · intro j x d e F6 H6 Kc hd he rx g6 kc
          obtain ⟨el, hel2, rfl⟩ := map_at hd
          obtain ⟨z, hz, rfl⟩ := map_at he
          obtain ⟨el2, hel3, rfl⟩ := map_at hz
          rw [hel2] at hel3
          cases hel3
          obtain ⟨ae, rfl, hae⟩ := encE_inv rx
          have ok6 := g6.fh
          walk_at "go"
          refine ⟨rfl, ?_⟩
          walk_at "go"
          exact kc _ F6 H6 (Grow.refl ok6) (.int _)
        · intro F6 H6 g6 r6
          obtain ⟨ad, xd, ead, had, rxd⟩ := r6.lst_inv
          cases ead
          rw [rxd.ints_inv] at had
          have g7 := g6.forget gf.ff
          have bx7 := bx5.grow g7 nil_not
          have mp7 := g7.mu nil_not mp5
          have rz7 := g7.rps rz5
          have G7 := G5.comp g7 side_nil
          walk_at "go"
          refine r_max (K := K) (sql_fz g6.fh had) (by rw [List.length_map]; omega) fun m hm hmax => ?_
          walk_at "go"
          refine r_ite (fun c => ?_) (fun c => ?_)
          · walk_at "go"
            refine ⟨F5, b, 2, rfl, g7.fh, bx7, by decide, fun j8 F8 H8 g8 bx8 hj8 => ?_⟩
            have mp8 := g8.mu (one_not nbp.symm) mp7
            walk_at "go"
            refine k_new g8.fh fun pt F9 H9 g9 hp9 np9 => ?_
            have mp9 := g9.mu nil_not mp8
            have bx9 := bx8.grow g9 nil_not
            have rz9 := g9.rps (g8.rps rz7)
            walk_at "go"
            refine r_append mp9.1 (by rw [rz9.len_map]; omega) (k_wr g9.fh mp9 fun Fa Ha ga mpa => ?_)
            walk_at "go"
            refine ⟨Fa, _, s ++ [(.any, 1, 1 + j8)], (((G7.comp g8 bb).comp g9 side_nil).comp ga (side_one (.inr np0))), bx9.grow ga (one_not nbp), mpa, ?_, ⟨by rw [List.length_append, List.length_singleton]; omega, fun e he => ?_, _, List.mem_append_right _ (List.mem_singleton.mpr rfl), Nat.le_refl 1⟩, rfl⟩
            · rw [List.map_append]
              refine (ga.rps rz9).snoc (ga.rp (.tup hp9 (.cons (.str _) (.cons (.int _) (.cons ?_ .nil)))))
              rw [show ((1 : Int) + (j8 : Int)) = ((1 + j8 : Nat) : Int) by omega]
              exact .int _
            · rcases List.mem_append.mp he with z | z
              · exact so e z
              · rw [List.mem_singleton.mp z]
                exact ⟨show 1 < 10 by omega, show 1 + j8 < 10 by omega, show 1 ≤ 1 + j8 by omega⟩
          · have c := of_decide_eq_false c
            walk_at "go"
            obtain ⟨e, he, rfl⟩ := List.mem_map.mp hm
            exact ⟨F5, zs, s, G7, bx7, mp7, rz7, ⟨by omega, so, e, he, Nat.one_le_iff_ne_zero.mpr fun z => c (by rw [z]; rfl)⟩, rfl⟩
      · rintro σ2 H6 ⟨F6, zs6, s6, G6, bx6, mp6, rz6, ok6, rfl⟩
        walk_at "go"
        refine k_fz G6.fh mp6 fun F7 g7 hp7 => ?_
        exact k _ s6 F7 H6 (G6.comp g7 (side_one (.inr np0))) (bx6.grow g7 (one_not nbp)) (.lst hp7 (g7.rps rz6)) ok6

end
section
variable {P : Program} {w : World} {K : PySem.W.Frag} {mg : Str → Option Value} {base : Heap}

theorem okC_nil : okC [] := fun x hx => nomatch hx
theorem okC_app {a c : List Nat} (h1 : okC a) (h2 : okC c) : okC (a ++ c) := fun x hx => (List.mem_append.mp hx).elim (h1 x) (h2 x)
theorem empty_str : ("" : Str) = S [] := by decide +kernel
theorem xy_str : ("x y" : Str) = S [120, 32, 121] := by decide +kernel
theorem sp2_str : ("  " : Str) = S [32, 32] := by decide +kernel
theorem spnl_str : (" \n" : Str) = S [32, 10] := by decide +kernel
theorem okC_32 : okC [32] := fun x hx => by rw [List.mem_singleton.mp hx]; decide
theorem okC_10 : okC [10] := fun x hx => by rw [List.mem_singleton.mp hx]; decide
theorem okC_xy : okC [120, 32, 121] := by unfold okC; simp
def blanksL : List (List Nat) := [[32], [32], [32], [10], [10], [], [32, 32], [32, 10]]
theorem blanks_ok : ∀ w ∈ blanksL, w.length ≤ 2 ∧ okC w := by unfold blanksL okC; simp
def endsL : List (List Nat) := [[], [10], [32]]
theorem ends_ok : ∀ w ∈ endsL, w.length ≤ 1 ∧ okC w := by unfold endsL okC; simp
def CsOk (cs : List Chg) : Prop := (∀ c ∈ cs, c.2.length ≤ 8 ∧ okC c.2) ∧ (cs.map fun x => x.1).Nodup
def sp_law_changes : Sp := fun vs H Q _ => ∃ (F : Hp) (b : Addr) (u : V) (ws : List (List Nat)), vs = [.ref b, u] ∧ Same F H ∧ Box F H b ∧ Stock F u ws ∧ ∀ (v : V) (cs : List Chg) (F' H' : Hp), Grow [b] F H F' H' → Box F' H' b → Rp F' v (encCs cs) → cs.length ≤ 10 → CsOk cs → Q v H'
abbrev N_law_changes : List Str := ["_law_box", "_law_stock", "_law_chars", "_law_changes_here", "_law_k", "_law_char", "_law_other"]
theorem sc_law_changes : FnScope N_law_changes ["_law_box", "_law_stock"] (defScope s_law_changes) := ⟨rfl, rfl, rfl, by decide +kernel, rfl, by decide +kernel, by decide +kernel⟩
theorem ok_law_changes (T : Txt K mg) : OkG P w K mg base 4 "_law_changes" ["_law_box", "_law_stock"] sp_law_changes := by
  have m_range : mg "range" = none := T.free 70 rfl
  obtain ⟨f_law_draw, fd_law_draw, G_law_draw, mg_law_draw, kp_law_draw, b_law_draw⟩ := ok_law_draw (P := P) (w := w) (base := base) T
  obtain ⟨f_law_solid, fd_law_solid, G_law_solid, mg_law_solid, kp_law_solid, b_law_solid⟩ := ok_law_solid (P := P) (w := w) (base := base) T
  obtain ⟨f_law_text, fd_law_text, G_law_text, mg_law_text, kp_law_text, b_law_text⟩ := ok_law_text (P := P) (w := w) (base := base) T
  refine T.okG 74 63 rfl rfl (d := d_law_changes) sc_law_changes (fun _ _ _ _ _ _ us hl => match us, hl with | [_, _], _ => rfl) (fun vs H Q E h => ?_) (fun cdv A outer s H vs Q E hr h => ?_)
  · obtain ⟨_, _, _, _, rfl, _⟩ := h
    rfl
  · refine ⟨_, PSs.nox (pss_cons (ps_set (i := 2) sc_law_changes.nd rfl (Or.inl rfl) (pe_lst pa_nil))
      (pss_cons (ps_set (i := 3) sc_law_changes.nd rfl (Or.inl rfl) (pe_lst pa_nil))
      (pss_cons (ps_for PassesOwn.never rfl (pi_range1 (by rfl) m_range (pa_cons (pe_call G_law_draw (hr.mono (by decide)) rfl mg_law_draw kp_law_draw b_law_draw .nil pass0 (pa_cons (pv 0) (pa_cons pe_int pa_nil))) pa_nil)) (pg_name (i := 4) sc_law_changes.nd rfl (Or.inl rfl))
        (pss_cons (ps_set (i := 5) sc_law_changes.nd rfl (Or.inl rfl) (pe_ix ix_list (pe_lst (pa_cons (pe_ix ix_str (pe_ix ix_list (pv 1) (pe_call G_law_draw (hr.mono (by decide)) rfl mg_law_draw kp_law_draw b_law_draw .nil pass0 (pa_cons (pv 0) (pa_cons pe_int pa_nil))) (fun _ _ => rfl)) pe_int (fun _ _ => rfl)) (pa_cons pe_str (pa_cons pe_str (pa_cons (pe_call G_law_solid (hr.mono (by decide)) rfl mg_law_solid kp_law_solid b_law_solid .nil pass0 (pa_cons (pv 0) pa_nil)) pa_nil))))) (pe_call G_law_draw (hr.mono (by decide)) rfl mg_law_draw kp_law_draw b_law_draw .nil pass0 (pa_cons (pv 0) (pa_cons pe_int pa_nil))) (fun _ _ => rfl)))
        (pss_cons (ps_set (i := 6) sc_law_changes.nd rfl (Or.inl rfl) (pe_ix ix_list (pe_lst (pa_cons pe_str (pa_cons pe_str (pa_cons pe_str (pa_cons (pe_ix ix_list (pv 1) (pe_call G_law_draw (hr.mono (by decide)) rfl mg_law_draw kp_law_draw b_law_draw .nil pass0 (pa_cons (pv 0) (pa_cons pe_int pa_nil))) (fun _ _ => rfl)) (pa_cons pe_str (pa_cons (pe_call G_law_text (hr.mono (by decide)) rfl mg_law_text kp_law_text b_law_text .nil pass0 (pa_cons (pv 0) (pa_cons (pe_call G_law_draw (hr.mono (by decide)) rfl mg_law_draw kp_law_draw b_law_draw .nil pass0 (pa_cons (pv 0) (pa_cons pe_int pa_nil))) pa_nil))) pa_nil))))))) (pe_call G_law_draw (hr.mono (by decide)) rfl mg_law_draw kp_law_draw b_law_draw .nil pass0 (pa_cons (pv 0) (pa_cons pe_int pa_nil))) (fun _ _ => rfl)))
        (pss_one (ps_if (pt_cmpR op_notIn_seq (pv 5) (pv 2) (by rfl))
          (pss_cons (ps_expr (pe_bm PySem.F.plainAttrs_list PySem.F.slot_list_append PySem.F.type_list_append mt_append (pv 2) (pa_cons (pv 5) pa_nil)))
          (pss_one (ps_expr (pe_bm PySem.F.plainAttrs_list PySem.F.slot_list_append PySem.F.type_list_append mt_append (pv 3) (pa_cons (pe_tup (pa_cons (pv 5) (pa_cons (pv 6) pa_nil))) pa_nil)))))
          pss_nil)))))
      (pss_one (ps_ret (pv 3)))))), ?_⟩
    obtain ⟨F, b, u, ws, rfl, ok, bx, ⟨⟨a, rfl, ha⟩, hwl, hws⟩, k⟩ := h
    have wk : ∀ j, j < 6 → ∃ w : List Nat, (strsV ws)[j]? = some (.str (S w)) ∧ StW w := fun j hj => ⟨_, strsV_at (by omega), hws _ (List.getElem_mem (show j < ws.length by omega))⟩
    walk_at "go"
    refine k_mu ok fun p F1 H1 g1 mp1 np1 => ?_
    have bx1 := bx.grow g1 nil_not
    have nbp : b ≠ p := bx.ne np1
    walk_at "go"
    walk_at "ss"
    walk_at "go"
    refine k_mu g1.fh fun q F2 H2 g2 mq2 nq2 => ?_
    have bx2 := bx1.grow g2 nil_not
    have nbq : b ≠ q := bx1.ne nq2
    have pq : p ≠ q := mp1.ne nq2
    have mp2 := g2.mu nil_not mp1
    have G2 := g1.comp g2 side_nil
    have nq0 : H q = none := g1.back0 nq2
    walk_at "go"
    walk_at "ss"
    walk_at "go"
    refine ⟨F2, b, 4, rfl, g2.fh, bx2, by decide, fun j3 F3 H3 g3 bx3 hj3 => ?_⟩
    have mp3 := g3.mu (one_not nbp.symm) mp2
    have mq3 := g3.mu (one_not nbq.symm) mq2
    walk_at "go"
    refine r_rng1E (n := j3) rfl (by omega) ?_
    refine loopR0 (fun i σ' H' => ∃ (F' : Hp) (zs : List V) (cs : List Chg) (y1 y2 y3 : Option V), Grow [b] F H F' H' ∧ Box F' H' b ∧ Mu F' H' p (.lst ((cs.map fun c => [c.1]).map fun x => V.str (S x))) ∧ Mu F' H' q (.lst zs) ∧ Rps F' zs (cs.map encC) ∧ cs.length ≤ i ∧ CsOk cs ∧
        σ' = [some (.ref b), some (.ref a), some (.ref p), some (.ref q), y1, y2, y3]) ⟨F3, [], [], none, none, none, (G2.mono (by simp)).comp g3 bb, bx3, mp3, mq3, .nil, Nat.zero_le _, ⟨fun c hc => (nomatch hc), List.nodup_nil⟩, rfl⟩ ?_ ?_
    · rintro i σ' H4 hi ⟨F4, zs, cs, y1, y2, y3, G4, bx4, mp4, mq4, rz4, cl, co, rfl⟩
      walk_at "go"
      walk_at "ss"
      walk_at "go"
      refine ⟨F4, b, 6, rfl, G4.fh, bx4, by decide, fun j5 F5 H5 g5 bx5 hj5 => ?_⟩
      obtain ⟨w5, hw5, sw5⟩ := wk j5 hj5
      obtain ⟨c5, hc5, _⟩ := st_head sw5
      have lw5 := sw5.1
      refine r_ixL (n := j5) (sql_fz g5.fh (g5.at (G4.at ha))) rfl hw5 ?_
      walk_at "go"
      refine r_ixSS (n := 0) (by omega) rfl hc5 ?_
      walk_at "go"
      refine ⟨F5, b, rfl, g5.fh, bx5, fun x F6 H6 g6 bx6 qx => ?_⟩
      walk_at "go"
      rw [sp_str, nl_str]
      refine k_new g6.fh fun l7 F7 H7 g7 hl7 np7 => ?_
      have hl7 : F7 l7 = some (.lst (strsV [[c5], [32], [10], [x]])) := hl7
      have bx7 := bx6.grow g7 nil_not
      walk_at "go"
      refine ⟨F7, b, 4, rfl, g7.fh, bx7, by decide, fun j8 F8 H8 g8 bx8 hj8 => ?_⟩
      have hsel : ∃ ch : Nat, (strsV [[c5], [32], [10], [x]])[j8]? = some (.str (S [ch])) := by
        match j8, hj8 with
        | 0, _ => exact ⟨c5, rfl⟩
        | 1, _ => exact ⟨32, rfl⟩
        | 2, _ => exact ⟨10, rfl⟩
        | 3, _ => exact ⟨x, rfl⟩
      obtain ⟨ch, hch⟩ := hsel
      refine r_ixL (n := j8) (sql_fz g8.fh (g8.at hl7)) rfl hch ?_
      have G8 := ((((G4.comp g5 bb).comp g6 bb).comp g7 side_nil).comp g8 bb)
      have mp8 := g8.mu (one_not nbp.symm) (g7.mu nil_not (g6.mu (one_not nbp.symm) (g5.mu (one_not nbp.symm) mp4)))
      have mq8 := g8.mu (one_not nbq.symm) (g7.mu nil_not (g6.mu (one_not nbq.symm) (g5.mu (one_not nbq.symm) mq4)))
      have rz8 := g8.rps (g7.rps (g6.rps (g5.rps rz4)))
      walk_at "go"
      walk_at "ss"
      walk_at "go"
      refine ⟨F8, b, 6, rfl, g8.fh, bx8, by decide, fun j9 F9 H9 g9 bx9 hj9 => ?_⟩
      obtain ⟨w9, hw9, sw9⟩ := wk j9 hj9
      refine r_ixL (n := j9) (sql_fz g9.fh (g9.at (G8.at ha))) rfl hw9 ?_
      walk_at "go"
      refine ⟨F9, b, 5, rfl, g9.fh, bx9, by decide, fun ja Fa Ha ga bxa hja => ?_⟩
      walk_at "go"
      refine ⟨Fa, b, ja, rfl, ga.fh, bxa, by omega, fun tx Fb Hb gb bxb htx htx2 => ?_⟩
      walk_at "go"
      rw [empty_str, xy_str]
      refine k_new gb.fh fun lc Fc Hc gc hlc npc => ?_
      have hlc : Fc lc = some (.lst (strsV [[], [32], [10], w9, [120, 32, 121], tx])) := hlc
      have bxc := bxb.grow gc nil_not
      walk_at "go"
      refine ⟨Fc, b, 6, rfl, gc.fh, bxc, by decide, fun jd Fd Hd gd bxd hjd => ?_⟩
      have hsel2 : ∃ ot : List Nat, (strsV [[], [32], [10], w9, [120, 32, 121], tx])[jd]? = some (.str (S ot)) ∧ ot.length ≤ 8 ∧ okC ot := by
        match jd, hjd with
        | 0, _ => exact ⟨_, rfl, by decide, okC_nil⟩
        | 1, _ => exact ⟨_, rfl, by decide, okC_32⟩
        | 2, _ => exact ⟨_, rfl, by decide, okC_10⟩
        | 3, _ => exact ⟨_, rfl, by have := sw9.1; omega, sw9.2.2⟩
        | 4, _ => exact ⟨_, rfl, by decide, okC_xy⟩
        | 5, _ => exact ⟨_, rfl, by omega, htx2⟩
      obtain ⟨ot, hot, ol, oo⟩ := hsel2
      refine r_ixL (n := jd) (sql_fz gd.fh (gd.at hlc)) rfl hot ?_
      have Gd' := (((((G8.comp g9 bb).comp ga bb).comp gb bb).comp gc side_nil).comp gd bb)
      have mpd := gd.mu (one_not nbp.symm) (gc.mu nil_not (gb.mu (one_not nbp.symm) (ga.mu (one_not nbp.symm) (g9.mu (one_not nbp.symm) mp8))))
      have mqd := gd.mu (one_not nbq.symm) (gc.mu nil_not (gb.mu (one_not nbq.symm) (ga.mu (one_not nbq.symm) (g9.mu (one_not nbq.symm) mq8))))
      have rzd := gd.rps (gc.rps (gb.rps (ga.rps (g9.rps rz8))))
      walk_at "go"
      walk_at "ss"
      walk_at "go"
      refine r_notInL (sql_mu mpd) rfl (flat_strs _) ?_
      rw [inV_strs]
      walk_at "go"
      refine r_ite (fun c => ?_) (fun c => ?_)
      · have c : ¬ [ch] ∈ cs.map fun c => [c.1] := fun z => ne_t c z
        walk_at "go"
        refine r_append mpd.1 (by rw [List.length_map, List.length_map]; omega) (k_wr gd.fh mpd fun Fe He ge mpe => ?_)
        have bxe := bxd.grow ge (one_not nbp)
        have mqe := ge.mu (one_not pq.symm) mqd
        walk_at "go"
        refine k_new ge.fh fun pt Ff Hf gf hpf npf => ?_
        have bxf := bxe.grow gf nil_not
        have mqf := gf.mu nil_not mqe
        have mpf := gf.mu nil_not mpe
        have rzf := gf.rps (ge.rps rzd)
        walk_at "go"
        refine r_append mqf.1 (by rw [rzf.len_map]; omega) (k_wr gf.fh mqf fun Fg Hg gg mqg => ?_)
        walk_at "go"
        refine ⟨Fg, _, cs ++ [(ch, ot)], _, _, _, ((Gd'.comp ge (side_one (.inr np1))).comp gf side_nil).comp gg (side_one (.inr nq0)), bxf.grow gg (one_not nbq), ?_, mqg, ?_, by rw [List.length_append, List.length_singleton]; omega, ⟨fun c' hc' => ?_, ?_⟩, rfl⟩
        · rw [List.map_append, List.map_append]
          exact gg.mu (one_not pq) mpf
        · rw [List.map_append]
          exact (gg.rps rzf).snoc (gg.rp (.tup hpf (.cons (.str _) (.cons (.str _) .nil))))
        · rcases List.mem_append.mp hc' with z | z
          · exact co.1 c' z
          · rw [List.mem_singleton.mp z]
            exact ⟨ol, oo⟩
        · rw [List.map_append]
          refine L2.nd_snoc co.2 fun z => c ?_
          obtain ⟨c2, h2, e2⟩ := List.mem_map.mp z
          exact List.mem_map.mpr ⟨c2, h2, by rw [e2]⟩
      · walk_at "go"
        exact ⟨Fd, _, cs, _, _, _, Gd', bxd, mpd, mqd, rzd, by omega, co, rfl⟩
    · rintro σ' H4 ⟨F4, zs, cs, y1, y2, y3, G4, bx4, mp4, mq4, rz4, cl, co, rfl⟩
      walk_at "go"
      refine k_fz G4.fh mq4 fun F5 g5 hq5 => ?_
      exact k _ cs F5 H4 (G4.comp g5 (side_one (.inr nq0))) (bx4.grow g5 (one_not nbq)) (.lst hq5 (g5.rps rz4)) (by omega) co

def sp_law_page_text : Sp := fun vs H Q _ => ∃ (F : Hp) (b : Addr) (u : V) (ws : List (List Nat)), vs = [.ref b, u] ∧ Same F H ∧ Box F H b ∧ Stock F u ws ∧ ∀ (l : List Nat) (F' H' : Hp), Grow [b] F H F' H' → Box F' H' b → l.length ≤ 100 → okC l → Q (.str (S l)) H'
abbrev N_law_page_text : List Str := ["_law_box", "_law_stock", "_law_text_here", "_law_k"]
theorem sc_law_page_text : FnScope N_law_page_text ["_law_box", "_law_stock"] (defScope s_law_page_text) := ⟨rfl, rfl, rfl, by decide +kernel, rfl, by decide +kernel, by decide +kernel⟩
theorem ok_law_page_text (T : Txt K mg) : OkG P w K mg base 2 "_law_page_text" ["_law_box", "_law_stock"] sp_law_page_text := by
  have m_range : mg "range" = none := T.free 70 rfl
  obtain ⟨f_law_draw, fd_law_draw, G_law_draw, mg_law_draw, kp_law_draw, b_law_draw⟩ := ok_law_draw (P := P) (w := w) (base := base) T
  refine T.okG 76 65 rfl rfl (d := d_law_page_text) sc_law_page_text (fun _ _ _ _ _ _ us hl => match us, hl with | [_, _], _ => rfl) (fun vs H Q E h => ?_) (fun cdv A outer s H vs Q E hr h => ?_)
  · obtain ⟨_, _, _, _, rfl, _⟩ := h
    rfl
  · refine ⟨_, PSs.nox (pss_cons (ps_set (i := 2) sc_law_page_text.nd rfl (Or.inl rfl) pe_str)
      (pss_cons (ps_for PassesOwn.never rfl (pi_range1 (by rfl) m_range (pa_cons (pe_call G_law_draw (hr.mono (by decide)) rfl mg_law_draw kp_law_draw b_law_draw .nil pass0 (pa_cons (pv 0) (pa_cons pe_int pa_nil))) pa_nil)) (pg_name (i := 3) sc_law_page_text.nd rfl (Or.inl rfl))
        (pss_one (ps_set (i := 2) sc_law_page_text.nd rfl (Or.inl rfl) (pe_op op_catS (pe_op op_catS (pv 2) (pe_ix ix_list (pv 1) (pe_call G_law_draw (hr.mono (by decide)) rfl mg_law_draw kp_law_draw b_law_draw .nil pass0 (pa_cons (pv 0) (pa_cons pe_int pa_nil))) (fun _ _ => rfl))) (pe_ix ix_list (pe_lst (pa_cons pe_str (pa_cons pe_str (pa_cons pe_str (pa_cons pe_str (pa_cons pe_str (pa_cons pe_str (pa_cons pe_str (pa_cons pe_str pa_nil))))))))) (pe_call G_law_draw (hr.mono (by decide)) rfl mg_law_draw kp_law_draw b_law_draw .nil pass0 (pa_cons (pv 0) (pa_cons pe_int pa_nil))) (fun _ _ => rfl))))))
      (pss_one (ps_ret (pv 2))))), ?_⟩
    obtain ⟨F, b, u, ws, rfl, ok, bx, ⟨⟨a, rfl, ha⟩, hwl, hws⟩, k⟩ := h
    have wk : ∀ j, j < 6 → ∃ w : List Nat, (strsV ws)[j]? = some (.str (S w)) ∧ StW w := fun j hj => ⟨_, strsV_at (by omega), hws _ (List.getElem_mem (show j < ws.length by omega))⟩
    walk_at "go"
    walk_at "ss"
    walk_at "go"
    refine ⟨F, b, 13, rfl, ok, bx, by decide, fun j3 F3 H3 g3 bx3 hj3 => ?_⟩
    walk_at "go"
    refine r_rng1E (n := j3) rfl (by omega) ?_
    rw [empty_str]
    refine loopR0 (fun i σ' H' => ∃ (F' : Hp) (l : List Nat) (y : Option V), Grow [b] F H F' H' ∧ Box F' H' b ∧ l.length ≤ 6 * i ∧ okC l ∧ σ' = [some (.ref b), some (.ref a), some (.str (S l)), y])
      ⟨F3, [], none, g3, bx3, Nat.zero_le _, okC_nil, rfl⟩ ?_ ?_
    · rintro i σ' H4 hi ⟨F4, l, y, G4, bx4, hl, ho, rfl⟩
      walk_at "go"
      walk_at "ss"
      walk_at "go"
      refine ⟨F4, b, 6, rfl, G4.fh, bx4, by decide, fun j5 F5 H5 g5 bx5 hj5 => ?_⟩
      obtain ⟨w5, hw5, sw5⟩ := wk j5 hj5
      have lw5 := sw5.1
      refine r_ixL (n := j5) (sql_fz g5.fh (g5.at (G4.at ha))) rfl hw5 ?_
      refine r_catSS (by omega) ?_
      walk_at "go"
      rw [sp_str, nl_str, sp2_str, spnl_str]
      refine k_new g5.fh fun l7 F7 H7 g7 hl7 np7 => ?_
      have hl7 : F7 l7 = some (.lst (strsV blanksL)) := hl7
      have bx7 := bx5.grow g7 nil_not
      walk_at "go"
      refine ⟨F7, b, 8, rfl, g7.fh, bx7, by decide, fun j8 F8 H8 g8 bx8 hj8 => ?_⟩
      have hlen : j8 < blanksL.length := hj8
      obtain ⟨q1, q2⟩ := blanks_ok _ (List.getElem_mem hlen)
      refine r_ixL (n := j8) (sql_fz g8.fh (g8.at hl7)) rfl (strsV_at hlen) ?_
      refine r_catSS (by rw [List.length_append]; omega) ?_
      walk_at "go"
      exact ⟨F8, _, _, ((G4.comp g5 bb).comp g7 side_nil).comp g8 bb, bx8, by rw [List.length_append, List.length_append]; omega, okC_app (okC_app ho sw5.2.2) q2, rfl⟩
    · rintro σ' H4 ⟨F4, l, y, G4, bx4, hl, ho, rfl⟩
      walk_at "go"
      exact k l F4 H4 G4 bx4 (by omega) ho

def sp_law_texts : Sp := fun vs H Q _ => ∃ (F : Hp) (b : Addr) (u : V) (ws : List (List Nat)), vs = [.ref b, u] ∧ Same F H ∧ Box F H b ∧ Stock F u ws ∧ ∀ (v : V) (ts : List (List Nat)) (F' H' : Hp), Grow [b] F H F' H' → Box F' H' b → Rp F' v (encStrs ts) → ts.length ≤ 5 → (∀ t ∈ ts, t.length ≤ 200 ∧ okC t) → Q v H'
abbrev N_law_texts : List Str := ["_law_box", "_law_stock", "_law_texts_here", "_law_k"]
theorem sc_law_texts : FnScope N_law_texts ["_law_box", "_law_stock"] (defScope s_law_texts) := ⟨rfl, rfl, rfl, by decide +kernel, rfl, by decide +kernel, by decide +kernel⟩
theorem ok_law_texts (T : Txt K mg) : OkG P w K mg base 3 "_law_texts" ["_law_box", "_law_stock"] sp_law_texts := by
  have m_range : mg "range" = none := T.free 70 rfl
  obtain ⟨f_law_draw, fd_law_draw, G_law_draw, mg_law_draw, kp_law_draw, b_law_draw⟩ := ok_law_draw (P := P) (w := w) (base := base) T
  obtain ⟨f_law_page_text, fd_law_page_text, G_law_page_text, mg_law_page_text, kp_law_page_text, b_law_page_text⟩ := ok_law_page_text (P := P) (w := w) (base := base) T
  refine T.okG 77 66 rfl rfl (d := d_law_texts) sc_law_texts (fun _ _ _ _ _ _ us hl => match us, hl with | [_, _], _ => rfl) (fun vs H Q E h => ?_) (fun cdv A outer s H vs Q E hr h => ?_)
  · obtain ⟨_, _, _, _, rfl, _⟩ := h
    rfl
  · refine ⟨_, PSs.nox (pss_cons (ps_set (i := 2) sc_law_texts.nd rfl (Or.inl rfl) (pe_lst pa_nil))
      (pss_cons (ps_for PassesOwn.never rfl (pi_range1 (by rfl) m_range (pa_cons (pe_call G_law_draw (hr.mono (by decide)) rfl mg_law_draw kp_law_draw b_law_draw .nil pass0 (pa_cons (pv 0) (pa_cons pe_int pa_nil))) pa_nil)) (pg_name (i := 3) sc_law_texts.nd rfl (Or.inl rfl))
        (pss_one (ps_if (PW.pt (pw_and (pt_cmpR op_gt (pv 3) pe_int (nomark _)) (pw_and1 (pt_cmpR op_eq (pe_call G_law_draw (hr.mono (by decide)) rfl mg_law_draw kp_law_draw b_law_draw .nil pass0 (pa_cons (pv 0) (pa_cons pe_int pa_nil))) pe_int (nomark _)))))
          (pss_one (ps_expr (pe_bm PySem.F.plainAttrs_list PySem.F.slot_list_append PySem.F.type_list_append mt_append (pv 2) (pa_cons (pe_op op_catS (pe_op op_catS (pe_ix ix_list (pv 2) (pe_call G_law_draw (hr.mono (by decide)) rfl mg_law_draw kp_law_draw b_law_draw .nil pass0 (pa_cons (pv 0) (pa_cons (pv 3) pa_nil))) (fun _ _ => rfl)) (pe_ix ix_list (pe_lst (pa_cons pe_str (pa_cons pe_str (pa_cons pe_str pa_nil)))) (pe_call G_law_draw (hr.mono (by decide)) rfl mg_law_draw kp_law_draw b_law_draw .nil pass0 (pa_cons (pv 0) (pa_cons pe_int pa_nil))) (fun _ _ => rfl))) (pe_ix ix_list (pv 1) (pe_call G_law_draw (hr.mono (by decide)) rfl mg_law_draw kp_law_draw b_law_draw .nil pass0 (pa_cons (pv 0) (pa_cons pe_int pa_nil))) (fun _ _ => rfl))) pa_nil))))
          (pss_one (ps_expr (pe_bm PySem.F.plainAttrs_list PySem.F.slot_list_append PySem.F.type_list_append mt_append (pv 2) (pa_cons (pe_call G_law_page_text (hr.mono (by decide)) rfl mg_law_page_text kp_law_page_text b_law_page_text .nil pass0 (pa_cons (pv 0) (pa_cons (pv 1) pa_nil))) pa_nil)))))))
      (pss_one (ps_ret (pv 2))))), ?_⟩
    obtain ⟨F, b, u, ws, rfl, ok, bx, hst, k⟩ := h
    obtain ⟨⟨a, rfl, ha⟩, hwl, hws⟩ := id hst
    have wk : ∀ j, j < 6 → ∃ w : List Nat, (strsV ws)[j]? = some (.str (S w)) ∧ StW w := fun j hj => ⟨_, strsV_at (by omega), hws _ (List.getElem_mem (show j < ws.length by omega))⟩
    walk_at "go"
    refine k_mu ok fun p F1 H1 g1 mp1 np1 => ?_
    have bx1 := bx.grow g1 nil_not
    have nbp : b ≠ p := bx.ne np1
    walk_at "go"
    walk_at "ss"
    walk_at "go"
    refine ⟨F1, b, 6, rfl, g1.fh, bx1, by decide, fun j3 F3 H3 g3 bx3 hj3 => ?_⟩
    have mp3 := g3.mu (one_not nbp.symm) mp1
    walk_at "go"
    refine r_rng1E (n := j3) rfl (by omega) ?_
    refine loopR0 (fun i σ' H' => ∃ (F' : Hp) (ts : List (List Nat)) (y : Option V), Grow [b] F H F' H' ∧ Box F' H' b ∧ Mu F' H' p (.lst (strsV ts)) ∧ ts.length = i ∧ (∀ t ∈ ts, t.length ≤ 100 + 5 * i ∧ okC t) ∧ σ' = [some (.ref b), some (.ref a), some (.ref p), y])
      ⟨F3, [], none, (g1.mono (by simp)).comp g3 bb, bx3, mp3, rfl, fun t ht => (nomatch ht), rfl⟩ ?_ ?_
    · rintro i σ' H4 hi ⟨F4, ts, y, G4, bx4, mp4, hl, ho, rfl⟩
      have page : ∀ (F5 H5 : Hp), Grow [b] F4 H4 F5 H5 → Box F5 H5 b → Mu F5 H5 p (.lst (strsV ts)) → ∀ (l : List Nat) (F' H' : Hp), Grow [b] F5 H5 F' H' → Box F' H' b → l.length ≤ 100 + 5 * (i + 1) → okC l →
          ∀ (Q2 : Hp → Prop), (∀ (F6 H6 : Hp) (ts2 : List (List Nat)), Grow [b] F H F6 H6 → Box F6 H6 b → Mu F6 H6 p (.lst (strsV ts2)) → ts2.length = i + 1 → (∀ t ∈ ts2, t.length ≤ 100 + 5 * (i + 1) ∧ okC t) → Q2 H6) → rAppend (.ref p) [.str (S l)] H' (fun _ H => Q2 H) := by
        intro F5 H5 g5 bx5 mp5 l F6 H6 g6 bx6 hll hlo Q2 kq
        have mp6 := g6.mu (one_not nbp.symm) mp5
        refine r_append mp6.1 (by unfold strsV; rw [List.length_map]; omega) (k_wr g6.fh mp6 fun F7 H7 g7 mp7 => ?_)
        refine kq F7 H7 (ts ++ [l]) (((G4.comp g5 bb).comp g6 bb).comp g7 (side_one (.inr np1))) (bx6.grow g7 (one_not nbp)) ?_ (by rw [List.length_append, hl]; rfl) fun t ht => ?_
        · unfold strsV at mp7 ⊢
          rw [List.map_append]
          exact mp7
        · rcases List.mem_append.mp ht with z | z
          · exact ⟨by have := (ho t z).1; omega, (ho t z).2⟩
          · rw [List.mem_singleton.mp z]
            exact ⟨hll, hlo⟩
      walk_at "go"
      walk_at "ss"
      walk_at "go"
      refine r_ite (fun c => ?_) (fun c => ?_)
      · have c := of_decide_eq_true c
        walk_at "go"
        refine ⟨F4, b, 4, rfl, G4.fh, bx4, by decide, fun j5 F5 H5 g5 bx5 hj5 => ?_⟩
        have mp5 := g5.mu (one_not nbp.symm) mp4
        walk_at "go"
        refine r_ite (fun c2 => ?_) (fun c2 => ?_)
        · walk_at "go"
          refine ⟨F5, b, i, rfl, g5.fh, bx5, by omega, fun j6 F6 H6 g6 bx6 hj6 => ?_⟩
          have mp6 := g6.mu (one_not nbp.symm) mp5
          refine r_ixL (n := j6) (sql_mu mp6) rfl (strsV_at (by omega)) ?_
          have hto := ho _ (List.getElem_mem (show j6 < ts.length by omega))
          walk_at "go"
          rw [sp_str, nl_str, empty_str]
          refine k_new g6.fh fun l7 F7 H7 g7 hl7 np7 => ?_
          have hl7 : F7 l7 = some (.lst (strsV endsL)) := hl7
          have bx7 := bx6.grow g7 nil_not
          walk_at "go"
          refine ⟨F7, b, 3, rfl, g7.fh, bx7, by decide, fun j8 F8 H8 g8 bx8 hj8 => ?_⟩
          have hlen : j8 < endsL.length := hj8
          obtain ⟨q1, q2⟩ := ends_ok _ (List.getElem_mem hlen)
          refine r_ixL (n := j8) (sql_fz g8.fh (g8.at hl7)) rfl (strsV_at hlen) ?_
          refine r_catSS (by omega) ?_
          walk_at "go"
          refine ⟨F8, b, 6, rfl, g8.fh, bx8, by decide, fun j9 F9 H9 g9 bx9 hj9 => ?_⟩
          obtain ⟨w9, hw9, sw9⟩ := wk j9 hj9
          have lw9 := sw9.1
          refine r_ixL (n := j9) (sql_fz g9.fh (g9.at (g8.at (g7.at (g6.at (g5.at (G4.at ha))))))) rfl hw9 ?_
          refine r_catSS (by rw [List.length_append]; omega) ?_
          walk_at "go"
          refine page F5 H5 g5 bx5 mp5 _ F9 H9 (((g6.comp g7 side_nil).comp g8 bb).comp g9 bb) bx9 (by rw [List.length_append, List.length_append]; omega) (okC_app (okC_app hto.2 q2) sw9.2.2) _ fun F6 H6 ts2 G6 bx6 mp6 l6 o6 => ?_
          walk_at "go"
          exact ⟨F6, ts2, _, G6, bx6, mp6, l6, o6, rfl⟩
        · walk_at "go"
          refine ⟨F5, b, _, ws, rfl, g5.fh, bx5, (hst.grow G4).grow g5, fun l F6 H6 g6 bx6 hll hlo => ?_⟩
          walk_at "go"
          refine page F5 H5 g5 bx5 mp5 l F6 H6 g6 bx6 (by omega) hlo _ fun F6 H6 ts2 G6 bx6 mp6 l6 o6 => ?_
          walk_at "go"
          exact ⟨F6, ts2, _, G6, bx6, mp6, l6, o6, rfl⟩
      · walk_at "go"
        refine ⟨F4, b, _, ws, rfl, G4.fh, bx4, hst.grow G4, fun l F6 H6 g6 bx6 hll hlo => ?_⟩
        walk_at "go"
        refine page F4 H4 (Grow.refl G4.fh) bx4 mp4 l F6 H6 g6 bx6 (by omega) hlo _ fun F6 H6 ts2 G6 bx6 mp6 l6 o6 => ?_
        walk_at "go"
        exact ⟨F6, ts2, _, G6, bx6, mp6, l6, o6, rfl⟩
    · rintro σ' H4 ⟨F4, ts, y, G4, bx4, mp4, hl, ho, rfl⟩
      walk_at "go"
      refine k_fz G4.fh mp4 fun F5 g5 hp5 => ?_
      exact k _ ts F5 H4 (G4.comp g5 (side_one (.inr np1))) (bx4.grow g5 (one_not nbp)) (strs_mk hp5) (by omega) fun t ht => ⟨by have := (ho t ht).1; omega, (ho t ht).2⟩

end
section
variable {P : Program} {w : World} {K : PySem.W.Frag} {mg : Str → Option Value} {base : Heap}

theorem r_rng1C {i : Int} {n : Nat} {g : TG} {tt : TT} {te : TE} {vs : List Nat} {σ : L2.St} {H1 : Hp} {Qd : Addr → Hp → Prop} (e : i = (n : Int)) (h : n < 100000000) (q : ∀ D, H1 D = none → LcW (Itr 0 n) g tt te vs σ D (Qd D) H1) :
    ∃ j : Int, [V.int i] = [V.int j] ∧ -(2 ^ 62) ≤ j ∧ j < 2 ^ 62 ∧ ∀ D, H1 D = none → LcW (Itr 0 j.toNat) g tt te vs σ D (Qd D) H1 := by
  subst e
  exact ⟨_, rfl, by omega, by omega, q⟩
def AccW (D : Addr) (y : V) (H : Hp) (P : Hp → Prop) : Prop := ∃ acc, H D = some (.lst acc) ∧ acc.length < sizeLine ∧ P (upd H D (.lst (acc ++ [y])))
theorem lcR_gen {n : Nat} {g : TG} {te : TE} {vs : List Nat} {σ : L2.St} {H1 : Hp} {D : Addr} {Qd : Hp → Prop} (Pv : Nat → Hp → Prop) (h0 : Pv 0 (upd H1 D (.lst [])))
    (hs : ∀ (i : Nat) H, i < n → Pv i H → g (.int (i : Int)) (wipe σ vs) H fun σ2 H2 => wipe σ2 vs = wipe σ vs ∧ te σ2 H2 fun y H4 => AccW D y H4 (Pv (i + 1))) (hd : ∀ H, Pv n H → Qd H) :
    LcW (Itr 0 n) g tYes te vs σ D Qd H1 :=
  lc_range (lo := 0) Pv h0 (fun i H hi p => by rw [Int.zero_add]; exact hs i H hi p) hd
theorem k_acc {F H : Hp} {D : Addr} {acc : List V} {y : V} {P : Hp → Prop} (ok : Same F H) (m : Mu F H D (.lst acc)) (hl : acc.length < 16777216) (k : ∀ F' H', Grow [D] F H F' H' → Mu F' H' D (.lst (acc ++ [y])) → P H') :
    AccW D y H P := ⟨acc, m.1, sz_lt hl, k _ _ (mu_wr ok m) ⟨upd_same, m.2⟩⟩
theorem lcL_filterA {α : Type} (enc : α → PyData) {l : List α} (f : α → Bool) {σ : L2.St} {H H1 F : Hp} {tt : TT} {vs : List Nat} {D a : Addr} {xs : List V} {K : PySem.W.Frag} {Qd : Hp → Prop} {j : Nat} (ok : Same F H1) (hD : H1 D = none) (ha : F a = some (.lst xs)) (hr : Rps F xs (l.map enc)) (hz : l.length < 16777216)
    (hw : ∀ x, wipe ((wipe σ vs).set j (some x)) vs = wipe σ vs) (hj : ∀ x, ((wipe σ vs).set j (some x))[j]? = some (some x))
    (turn : ∀ (i : Nat) x d F' H' (Kt : Bool → Hp → Prop), l[i]? = some d → Rp F' x (enc d) → Grow [] F H1 F' H' → (∀ F4 H4, Grow [] F' H' F4 H4 → Kt (f d) H4) → tt ((wipe σ vs).set j (some x)) H' Kt)
    (q : ∀ F' H', Grow [] F H1 F' H' → Rp F' (.ref D) (.list ((l.filter f).map enc)) → Qd H') : LcW (Itl K a) (gName j) tt (tVar j) vs σ D Qd H1 := by
  refine lc_list (K := K) (a := a) (xs := xs) (fun i H' => ∃ (F' : Hp) (us : List V), Grow [] F H1 F' H' ∧ Mu F' H' D (.lst us) ∧ Rps F' us (((l.take i).filter f).map enc))
    ⟨F, [], mu_new ok hD, ⟨upd_same, free_in ok hD⟩, .nil⟩ (fun i H' _ ⟨F', us, G, _, _⟩ => sql_fz G.fh (G.at ha)) ?_ ?_
  · rintro i x H' hx ⟨F', us, G, m, r⟩
    obtain ⟨d, hd, rd⟩ := (G.rps hr).get_map hx
    refine ⟨hw x, turn i x d F' H' _ hd rd G fun F4 H4 g4 => ?_⟩
    have m4 := g4.mu nil_not m
    have r2 := g4.rps r
    refine r_ite (fun c => ?_) (fun c => ?_)
    · refine ⟨x, hj x, us, m4.1, ?_, F4, us ++ [x], ?_, ⟨upd_same, m4.2⟩, ?_⟩
      · have e := r.length
        have e2 := List.length_filter_le f (l.take i)
        rw [List.length_map] at e
        rw [List.length_take] at e2
        exact sz_lt (by omega)
      · have g5 := mu_wr (u := .lst (us ++ [x])) g4.fh m4
        exact (G.comp g4 side_nil).comp g5 (side_one (.inr hD))
      · rw [take_more hd, List.filter_append, List.filter_cons, if_pos c, List.map_append]
        exact r2.snoc (g4.rp rd)
    · refine ⟨F4, us, G.comp g4 side_nil, m4, ?_⟩
      rw [take_more hd, List.filter_append, List.filter_cons, if_neg (by rw [c]; decide), List.filter_nil, List.append_nil]
      exact r2
  · rintro H' ⟨F', us, G, m, r⟩
    rw [hr.len_map, List.take_length] at r
    exact q _ H' ((G.comp (fz_mu G.fh m) (side_one (.inr hD)))) (.lst upd_same (Rps.up (fz_mu G.fh m).ff _ r))
theorem strsV_snoc (l : List (List Nat)) (w : List Nat) : strsV (l ++ [w]) = strsV l ++ [.str (S w)] := by unfold strsV; rw [List.map_append]; rfl
theorem strsV_len (l : List (List Nat)) : (strsV l).length = l.length := by unfold strsV; rw [List.length_map]
def sp_law_cleaning_rules : Sp := fun vs H Q _ => ∃ (F : Hp) (b : Addr) (u : V) (ws : List (List Nat)), vs = [.ref b, u] ∧ Same F H ∧ Box F H b ∧ Stock F u ws ∧ ∀ (v : V) (R : Ru) (F' H' : Hp), Grow [b] F H F' H' → Box F' H' b → Rp F' v (encRul R) → RV R → Q v H'
abbrev N_law_cleaning_rules : List Str := ["_law_box", "_law_stock", "_law_mark", "_law_k", "_law_banned", "_law_drawn", "_law_hidden", "_law_shares", "_law_lines", "_law_first", "_law_shape_here"]
theorem sc_law_cleaning_rules : FnScope N_law_cleaning_rules ["_law_box", "_law_stock"] (defScope s_law_cleaning_rules) := ⟨rfl, rfl, rfl, by decide +kernel, rfl, by decide +kernel, by decide +kernel⟩
theorem ok_law_cleaning_rules (T : Txt K mg) : OkG P w K mg base 5 "_law_cleaning_rules" ["_law_box", "_law_stock"] sp_law_cleaning_rules := by
  have m_range : mg "range" = none := T.free 70 rfl
  obtain ⟨f_law_word, fd_law_word, G_law_word, mg_law_word, kp_law_word, b_law_word⟩ := ok_law_word (P := P) (w := w) (base := base) T
  obtain ⟨f_law_draw, fd_law_draw, G_law_draw, mg_law_draw, kp_law_draw, b_law_draw⟩ := ok_law_draw (P := P) (w := w) (base := base) T
  obtain ⟨f_law_shape, fd_law_shape, G_law_shape, mg_law_shape, kp_law_shape, b_law_shape⟩ := ok_law_shape (P := P) (w := w) (base := base) T
  obtain ⟨f_law_has, fd_law_has, G_law_has, mg_law_has, kp_law_has, b_law_has⟩ := ok_law_has (P := P) (w := w) (base := base) T
  obtain ⟨f_law_changes, fd_law_changes, G_law_changes, mg_law_changes, kp_law_changes, b_law_changes⟩ := ok_law_changes (P := P) (w := w) (base := base) T
  refine T.okG 75 64 rfl rfl (d := d_law_cleaning_rules) sc_law_cleaning_rules (fun _ _ _ _ _ _ us hl => match us, hl with | [_, _], _ => rfl) (fun vs H Q E h => ?_) (fun cdv A outer s H vs Q E hr h => ?_)
  · obtain ⟨_, _, _, _, rfl, _⟩ := h
    rfl
  · refine ⟨_, PSs.nox (pss_cons (ps_set (i := 2) sc_law_cleaning_rules.nd rfl (Or.inr rfl) (pe_call G_law_word (hr.mono (by decide)) rfl mg_law_word kp_law_word b_law_word .nil pass0 (pa_cons (pv 0) (pa_cons (pe_op op_add pe_int (pe_call G_law_draw (hr.mono (by decide)) rfl mg_law_draw kp_law_draw b_law_draw .nil pass0 (pa_cons (pv 0) (pa_cons pe_int pa_nil)))) pa_nil))))
      (pss_cons (ps_setLc (i := 4) (own := [("_law_k", 3)]) (g := gName 3) (tt := tYes) rfl sc_law_cleaning_rules.nd rfl rfl (sw_true rfl rfl rfl (by decide +kernel)) (pi_range1 (by rfl) m_range (pa_cons (pe_call G_law_draw (hr.mono (by decide)) rfl mg_law_draw kp_law_draw b_law_draw .nil pass0 (pa_cons (pv 0) (pa_cons pe_int pa_nil))) pa_nil)) (blkOk_by (own := [("_law_k", 3)]) (N := N_law_cleaning_rules) (sc := defScope s_law_cleaning_rules) (by decide +kernel)) (fun _ _ _ _ _ => (pg_name (i := 3) sc_law_cleaning_rules.nd rfl (Or.inl rfl))) (fun _ _ _ _ _ => pts_nil) (fun _ _ _ _ _ => (pe_ix (ixK_list (K := K)) (pv 1) (pe_call G_law_draw (hr.mono (by decide)) rfl mg_law_draw kp_law_draw b_law_draw .nil pass0 (pa_cons (pv 0) (pa_cons pe_int pa_nil))) (fun _ _ => rfl))))
      (Evl.pss_cut (ps_if (pt_cmpR op_eq (pe_call G_law_draw (hr.mono (by decide)) rfl mg_law_draw kp_law_draw b_law_draw .nil pass0 (pa_cons (pv 0) (pa_cons pe_int pa_nil))) pe_int (nomark _))
        (pss_one (ps_expr (pe_bm PySem.F.plainAttrs_list PySem.F.slot_list_append PySem.F.type_list_append mt_append (pv 4) (pa_cons (pv 2) pa_nil))))
        pss_nil)
      (pss_cons (ps_setLc (i := 5) (own := [("_law_k", 3)]) (g := gName 3) (tt := tYes) rfl sc_law_cleaning_rules.nd rfl rfl (sw_true rfl rfl rfl (by decide +kernel)) (pi_range1 (by rfl) m_range (pa_cons (pe_call G_law_draw (hr.mono (by decide)) rfl mg_law_draw kp_law_draw b_law_draw .nil pass0 (pa_cons (pv 0) (pa_cons pe_int pa_nil))) pa_nil)) (blkOk_by (own := [("_law_k", 3)]) (N := N_law_cleaning_rules) (sc := defScope s_law_cleaning_rules) (by decide +kernel)) (fun _ _ _ _ _ => (pg_name (i := 3) sc_law_cleaning_rules.nd rfl (Or.inl rfl))) (fun _ _ _ _ _ => pts_nil) (fun _ _ _ _ _ => (pe_call G_law_shape (hr.mono (by decide)) rfl mg_law_shape kp_law_shape b_law_shape .nil pass0 (pa_cons (pv 0) (pa_cons (pv 1) pa_nil)))))
      (pss_cons (ps_setLc (i := 6) (own := [("_law_shape_here", 10)]) (g := gName 10) rfl sc_law_cleaning_rules.nd rfl rfl (sw_true rfl rfl rfl (by decide +kernel)) (pi_list (pv 5)) (blkOk_by (own := [("_law_shape_here", 10)]) (N := N_law_cleaning_rules) (sc := defScope s_law_cleaning_rules) (by decide +kernel)) (fun _ _ _ _ _ => (pg_name (i := 10) sc_law_cleaning_rules.nd rfl (Or.inl rfl))) (fun _ _ _ _ _ => (pts_one (pt_not (pt_val (pe_call G_law_has (hr.mono (by decide)) rfl mg_law_has kp_law_has b_law_has .nil pass0 (pa_cons (pv 2) (pa_cons (pv 10) pa_nil))))))) (fun _ _ _ _ _ => (pv 10)))
      (pss_cons (ps_set (i := 7) sc_law_cleaning_rules.nd rfl (Or.inl rfl) (pe_lst pa_nil))
      (pss_cons (ps_for PassesOwn.never rfl (pi_range1 (by rfl) m_range (pa_cons (pe_call G_law_draw (hr.mono (by decide)) rfl mg_law_draw kp_law_draw b_law_draw .nil pass0 (pa_cons (pv 0) (pa_cons pe_int pa_nil))) pa_nil)) (pg_name (i := 3) sc_law_cleaning_rules.nd rfl (Or.inl rfl))
        (pss_one (ps_expr (pe_bm PySem.F.plainAttrs_list PySem.F.slot_list_append PySem.F.type_list_append mt_append (pv 7) (pa_cons (pe_tup (pa_cons (pe_call G_law_shape (hr.mono (by decide)) rfl mg_law_shape kp_law_shape b_law_shape .nil pass0 (pa_cons (pv 0) (pa_cons (pv 1) pa_nil))) (pa_cons (pe_call G_law_draw (hr.mono (by decide)) rfl mg_law_draw kp_law_draw b_law_draw .nil pass0 (pa_cons (pv 0) (pa_cons pe_int pa_nil))) (pa_cons (pe_op op_add pe_int (pe_call G_law_draw (hr.mono (by decide)) rfl mg_law_draw kp_law_draw b_law_draw .nil pass0 (pa_cons (pv 0) (pa_cons pe_int pa_nil)))) pa_nil)))) pa_nil)))))
      (pss_cons (ps_set (i := 8) sc_law_cleaning_rules.nd rfl (Or.inl rfl) (pe_lst (pa_cons (pe_call G_law_draw (hr.mono (by decide)) rfl mg_law_draw kp_law_draw b_law_draw .nil pass0 (pa_cons (pv 0) (pa_cons pe_int pa_nil))) (pa_cons (pe_call G_law_draw (hr.mono (by decide)) rfl mg_law_draw kp_law_draw b_law_draw .nil pass0 (pa_cons (pv 0) (pa_cons pe_int pa_nil))) pa_nil))))
      (pss_cons (ps_set (i := 9) sc_law_cleaning_rules.nd rfl (Or.inl rfl) (pe_op op_cat (pe_lst (pa_cons (pe_lst (pa_cons (pe_tup (pa_cons pe_str (pa_cons pe_int pa_nil))) pa_nil)) (pa_cons (pe_call G_law_changes (hr.mono (by decide)) rfl mg_law_changes kp_law_changes b_law_changes .nil pass0 (pa_cons (pv 0) (pa_cons (pv 1) pa_nil))) (pa_cons (pv 4) pa_nil)))) (pv 8)))
      (pss_one (ps_ret (pe_op op_cat (pv 9) (pe_lst (pa_cons (pv 6) (pa_cons (pv 2) (pa_cons (pe_op op_add pe_int (pe_call G_law_draw (hr.mono (by decide)) rfl mg_law_draw kp_law_draw b_law_draw .nil pass0 (pa_cons (pv 0) (pa_cons pe_int pa_nil)))) (pa_cons (pv 7) (pa_cons pe_int (pa_cons pe_int (pa_cons pe_int (pa_cons pe_int (pa_cons pe_int (pa_cons pe_int (pa_cons pe_int (pa_cons pe_int pa_nil))))))))))))))))))))))))), ?_⟩
    obtain ⟨F, b, u, ws, rfl, ok, bx, hst, k⟩ := h
    obtain ⟨⟨a, rfl, ha⟩, hwl, hws⟩ := id hst
    have wk : ∀ j, j < 6 → ∃ w : List Nat, (strsV ws)[j]? = some (.str (S w)) ∧ StW w := fun j hj => ⟨_, strsV_at (by omega), hws _ (List.getElem_mem (show j < ws.length by omega))⟩
    walk_at "go"
    refine ⟨F, b, 3, rfl, ok, bx, by decide, fun j1 F1 H1 g1 bx1 hj1 => ?_⟩
    walk_at "go"
    refine ⟨F1, b, 1 + j1, by simp, g1.fh, bx1, by omega, fun mk F2 H2 g2 bx2 hml ⟨hm1, hm2, hm3⟩ => ?_⟩
    have G2 := g1.comp g2 bb
    have mkW : wordC mk := ⟨fun z => by rw [z] at hml; simp at hml; omega, hm2, hm3⟩
    walk_at "go"
    walk_at "ss"
    walk_at "go"
    refine ⟨F2, b, 3, rfl, g2.fh, bx2, by decide, fun j3 F3 H3 g3 bx3 hj3 => ?_⟩
    have G3 := G2.comp g3 bb
    walk_at "go"
    refine r_rng1C (n := j3) rfl (by omega) fun D hD => ?_
    have nbD : b ≠ D := bx3.ne hD
    have nD0 : H D = none := (G3.back hD).resolve_left fun z => nbD (List.mem_singleton.mp z).symm
    have gD := mu_new (o := .lst []) G3.fh hD
    refine lcR_gen (fun i H' => ∃ (F' : Hp) (l : List (List Nat)), Grow [b] F H F' H' ∧ Box F' H' b ∧ Mu F' H' D (.lst (strsV l)) ∧ l.length = i ∧ ∀ w ∈ l, StW w) ⟨F3, [], G3.comp gD side_nil, bx3.grow gD nil_not, ⟨upd_same, free_in G3.fh hD⟩, rfl, fun w hw => (nomatch hw)⟩ ?_ ?_
    · rintro i H4 hi ⟨F4, l, G4, bx4, m4, hl, hlw⟩
      walk_at "go"
      refine ⟨rfl, ?_⟩
      walk_at "go"
      refine ⟨F4, b, 6, rfl, G4.fh, bx4, by decide, fun j5 F5 H5 g5 bx5 hj5 => ?_⟩
      obtain ⟨w5, hw5, sw5⟩ := wk j5 hj5
      have m5 := g5.mu (one_not nbD.symm) m4
      refine r_ixL (n := j5) (sql_fz g5.fh (g5.at (G4.at ha))) rfl hw5 ?_
      refine k_acc g5.fh m5 (by rw [strsV_len]; omega) fun F6 H6 g6 m6 => ?_
      rw [← strsV_snoc] at m6
      refine ⟨F6, _, (G4.comp g5 bb).comp g6 (side_one (.inr nD0)), bx5.grow g6 (one_not nbD), m6, by rw [List.length_append, hl]; rfl, fun w hw => ?_⟩
      rcases List.mem_append.mp hw with z | z
      · exact hlw w z
      · rw [List.mem_singleton.mp z]; exact sw5
    rintro H4 ⟨F4, bn, G4, bx4, m4, hbl, hbw⟩
    walk_at "go"
    walk_at "ss"
    refine r_cut (M := fun σ2 H5 => ∃ (F5 : Hp) (bn : List (List Nat)), Grow [b] F H F5 H5 ∧ Box F5 H5 b ∧ Mu F5 H5 D (.lst (strsV bn)) ∧ bn.length ≤ 10 ∧ (∀ w ∈ bn, w.length ≤ 8 ∧ wordC w) ∧ σ2 = [some (.ref b), some (.ref a), some (.str (S mk)), none, some (.ref D), none, none, none, none, none, none]) ?_ ?_
    · walk_at "go"
      refine ⟨F4, b, 6, rfl, G4.fh, bx4, by decide, fun j5 F5 H5 g5 bx5 hj5 => ?_⟩
      have m5 := g5.mu (one_not nbD.symm) m4
      have G5 := G4.comp g5 bb
      walk_at "go"
      refine r_ite (fun c => ?_) (fun c => ?_)
      · walk_at "go"
        refine r_append m5.1 (by rw [strsV_len]; omega) (k_wr g5.fh m5 fun F6 H6 g6 m6 => ?_)
        rw [← strsV_snoc] at m6
        walk_at "go"
        refine ⟨F6, _, G5.comp g6 (side_one (.inr nD0)), bx5.grow g6 (one_not nbD), m6, by rw [List.length_append, List.length_singleton]; omega, fun w hw => ?_, rfl⟩
        rcases List.mem_append.mp hw with z | z
        · exact ⟨by have := (hbw w z).1; omega, (hbw w z).2.1⟩
        · rw [List.mem_singleton.mp z]; exact ⟨by omega, mkW⟩
      · walk_at "go"
        exact ⟨F5, bn, G5, bx5, m5, by omega, fun w hw => ⟨by have := (hbw w hw).1; omega, (hbw w hw).2.1⟩, rfl⟩
    clear m4 hbl hbw bx4 G4
    rintro σ2 H5 ⟨F5, bn, G5, bx5, m5, hbl, hbw, rfl⟩
    refine k_fz G5.fh m5 fun F6 g6 hD6 => ?_
    have G6 := G5.comp g6 (side_one (.inr nD0))
    have bx6 := bx5.grow g6 (one_not nbD)
    walk_at "go"
    refine ⟨F6, b, 3, rfl, G6.fh, bx6, by decide, fun j7 F7 H7 g7 bx7 hj7 => ?_⟩
    have G7 := G6.comp g7 bb
    have hD7 := g7.at hD6
    walk_at "go"
    refine r_rng1C (n := j7) rfl (by omega) fun E1 hE => ?_
    have nbE : b ≠ E1 := bx7.ne hE
    have nE0 : H E1 = none := (G7.back hE).resolve_left fun z => nbE (List.mem_singleton.mp z).symm
    have gE := mu_new (o := .lst []) G7.fh hE
    refine lcR_gen (fun i H' => ∃ (F' : Hp) (zs : List V) (ss : List Shape), Grow [b] F H F' H' ∧ Box F' H' b ∧ F' D = some (.lst (strsV bn)) ∧ Mu F' H' E1 (.lst zs) ∧ Rps F' zs (ss.map encSh) ∧ ss.length = i ∧ ∀ s ∈ ss, SpOk s) ⟨F7, [], [], G7.comp gE side_nil, bx7.grow gE nil_not, hD7, ⟨upd_same, free_in G7.fh hE⟩, .nil, rfl, fun w hw => (nomatch hw)⟩ ?_ ?_
    · rintro i H8 hi ⟨F8, zs, ss, G8, bx8, hD8, m8, rz8, hl, hlw⟩
      walk_at "go"
      refine ⟨rfl, ?_⟩
      walk_at "go"
      refine ⟨F8, b, _, ws, rfl, G8.fh, bx8, hst.grow G8, fun v s F9 H9 g9 bx9 rv sv => ?_⟩
      have m9 := g9.mu (one_not nbE.symm) m8
      walk_at "go"
      refine k_acc g9.fh m9 (by rw [rz8.len_map]; omega) fun Fa Ha ga ma => ?_
      refine ⟨Fa, _, ss ++ [s], (G8.comp g9 bb).comp ga (side_one (.inr nE0)), bx9.grow ga (one_not nbE), ga.at (g9.at hD8), ma, ?_, by rw [List.length_append, hl]; rfl, fun w hw => ?_⟩
      · rw [List.map_append]
        exact (ga.rps (g9.rps rz8)).snoc (ga.rp rv)
      · rcases List.mem_append.mp hw with z | z
        · exact hlw w z
        · rw [List.mem_singleton.mp z]; exact sv
    rintro H8 ⟨F8, zs, ss, G8, bx8, hD8, m8, rz8, hl8, hlw8⟩
    walk_at "go"
    walk_at "ss"
    refine k_fz G8.fh m8 fun F9 g9 hE9 => ?_
    have G9 := G8.comp g9 (side_one (.inr nE0))
    have bx9 := bx8.grow g9 (one_not nbE)
    have rz9 := g9.rps rz8
    have hD9 := g9.at hD8
    have ok9 := G9.fh
    walk_at "go"
    refine r_itL (sql_fz ok9 hE9) fun D3 hD3 => ?_
    refine lcL_filterA encSh (l := ss) (fun s => !has mk s) (H := H) ok9 hD3 hE9 rz9 (by omega) (fun _ => rfl) (fun _ => rfl) ?_ ?_
    · intro j x s Fa Ha Kt hs rx ga kt
      walk_at "go"
      refine ⟨Fa, mk, x, s, rfl, ga.fh, rx, by omega, fun e he => Nat.le_trans (Nat.le_of_lt ((hlw8 s (List.mem_of_getElem? hs)).2.1 e he).1) (by decide), fun Fb Hb gb => ?_⟩
      walk_at "go"
      exact kt Fb Hb gb
    intro Fa Ha ga rhid
    have Ga := G9.comp ga side_nil
    have bxa := bx9.grow ga nil_not
    have hDa := ga.at hD9
    have hhid : ∀ s ∈ ss.filter fun s => !has mk s, SpOk s := fun s hs => hlw8 s (List.mem_filter.mp hs).1
    have hnone : hasAny mk (ss.filter fun s => !has mk s) = false := by
      unfold hasAny
      rw [List.any_eq_false]
      intro s hs
      have := (List.mem_filter.mp hs).2
      cases q : has mk s with
      | false => decide
      | true => rw [q] at this; cases this
    have hhl : (ss.filter fun s => !has mk s).length ≤ 10 := Nat.le_trans (List.length_filter_le _ _) (by omega)
    generalize (ss.filter fun s => !has mk s) = hid at rhid hhid hnone hhl
    walk_at "go"
    walk_at "ss"
    walk_at "go"
    refine k_mu ga.fh fun p Fb Hb gb mpb npb => ?_
    have Gb := Ga.comp gb side_nil
    have bxb := bxa.grow gb nil_not
    have nbp : b ≠ p := bxa.ne npb
    have np0 : H p = none := (Ga.back npb).resolve_left fun z => nbp (List.mem_singleton.mp z).symm
    have hDb := gb.at hDa
    have rhb := gb.rp rhid
    walk_at "go"
    walk_at "ss"
    walk_at "go"
    refine ⟨Fb, b, 3, rfl, gb.fh, bxb, by decide, fun jc Fc Hc gc bxc hjc => ?_⟩
    have mpc := gc.mu (one_not nbp.symm) mpb
    walk_at "go"
    refine r_rng1E (n := jc) rfl (by omega) ?_
    refine loopR0 (fun i σ' H' => ∃ (F' : Hp) (zs : List V) (l : List (Shape × Nat × Nat)) (y : Option V), Grow [b] F H F' H' ∧ Box F' H' b ∧ F' D = some (.lst (strsV bn)) ∧ Rp F' (.ref D3) (.list (hid.map encSh)) ∧ Mu F' H' p (.lst zs) ∧ Rps F' zs (l.map encShare) ∧ l.length = i ∧
        (∀ s ∈ l, SpOk s.1 ∧ s.2.1 < 10 ∧ s.2.2 < 10 ∧ 1 ≤ s.2.2) ∧ σ' = [some (.ref b), some (.ref a), some (.str (S mk)), y, some (.ref D), some (.ref E1), some (.ref D3), some (.ref p), none, none, none])
      ⟨Fc, [], [], none, Gb.comp gc bb, bxc, gc.at hDb, gc.rp rhb, mpc, .nil, rfl, fun s hs => (nomatch hs), rfl⟩ ?_ ?_
    · rintro i σ' Hd hi ⟨Fd, zd, l, y, Gd, bxd, hDd, rhd, mpd, rzd, hl, hlo, rfl⟩
      walk_at "go"
      walk_at "ss"
      walk_at "go"
      refine ⟨Fd, b, _, ws, rfl, Gd.fh, bxd, hst.grow Gd, fun v s Fe He ge bxe rv sv => ?_⟩
      have mpe := ge.mu (one_not nbp.symm) mpd
      walk_at "go"
      refine ⟨Fe, b, 5, rfl, ge.fh, bxe, by decide, fun jf Ff Hf gf bxf hjf => ?_⟩
      have mpf := gf.mu (one_not nbp.symm) mpe
      walk_at "go"
      refine ⟨Ff, b, 5, rfl, gf.fh, bxf, by decide, fun jg Fg Hg gg bxg hjg => ?_⟩
      have mpg := gg.mu (one_not nbp.symm) mpf
      walk_at "go"
      refine k_new gg.fh fun pt Fh Hh gh hph nph => ?_
      have mph := gh.mu nil_not mpg
      have bxh := bxg.grow gh nil_not
      have rzh := gh.rps (gg.rps (gf.rps (ge.rps rzd)))
      walk_at "go"
      refine r_append mph.1 (by rw [rzh.len_map]; omega) (k_wr gh.fh mph fun Fi Hi gi mpi => ?_)
      walk_at "go"
      refine ⟨Fi, _, l ++ [(s, jf, 1 + jg)], _, ((((Gd.comp ge bb).comp gf bb).comp gg bb).comp gh side_nil).comp gi (side_one (.inr np0)), bxh.grow gi (one_not nbp), gi.at (gh.at (gg.at (gf.at (ge.at hDd)))), gi.rp (gh.rp (gg.rp (gf.rp (ge.rp rhd)))), mpi, ?_, by rw [List.length_append, hl]; rfl, fun s' hs' => ?_, rfl⟩
      · rw [List.map_append]
        refine (gi.rps rzh).snoc (gi.rp (.tup hph (.cons (gh.rp (gg.rp (gf.rp rv))) (.cons (.int _) (.cons ?_ .nil)))))
        rw [show ((1 : Int) + (jg : Int)) = ((1 + jg : Nat) : Int) by omega]
        exact .int _
      · rcases List.mem_append.mp hs' with z | z
        · exact hlo s' z
        · rw [List.mem_singleton.mp z]
          exact ⟨sv, show jf < 10 by omega, show 1 + jg < 10 by omega, show 1 ≤ 1 + jg by omega⟩
    rintro σ' Hd ⟨Fd, zd, shs, y, Gd, bxd, hDd, rhd, mpd, rzd, hl, hlo, rfl⟩
    refine k_fz Gd.fh mpd fun Fe ge hpe => ?_
    have Ge := Gd.comp ge (side_one (.inr np0))
    have bxe := bxd.grow ge (one_not nbp)
    have rse : Rp Fe (.ref p) (encShares shs) := .lst hpe (ge.rps rzd)
    have hDe := ge.at hDd
    have rhe := ge.rp rhd
    walk_at "go"
    refine ⟨Fe, b, 3, rfl, Ge.fh, bxe, by decide, fun jf Ff Hf gf bxf hjf => ?_⟩
    walk_at "go"
    refine ⟨Ff, b, 4, rfl, gf.fh, bxf, by decide, fun jg Fg Hg gg bxg hjg => ?_⟩
    walk_at "go"
    refine k_new gg.fh fun ln Fh Hh gh hlnh nph => ?_
    have bxh := bxg.grow gh nil_not
    have Gh := ((Ge.comp gf bb).comp gg bb).comp gh side_nil
    walk_at "go"
    walk_at "ss"
    walk_at "go"
    refine k_new gh.fh fun st Fi Hi gi hsti npi => ?_
    have bxi := bxh.grow gi nil_not
    walk_at "go"
    refine k_new gi.fh fun sl Fj Hj gj hslj npj => ?_
    have bxj := bxi.grow gj nil_not
    have Gj := (Gh.comp gi side_nil).comp gj side_nil
    walk_at "go"
    refine ⟨Fj, b, _, ws, rfl, gj.fh, bxj, hst.grow Gj, fun vc cs Fk Hk gk bxk rck hcl hco => ?_⟩
    walk_at "go"
    refine k_new gk.fh fun f1 Fl Hl gl hf1 npl => ?_
    have bxl := bxk.grow gl nil_not
    walk_at "go"
    refine r_cat (gl.fh _ _ hf1) (gl.fh _ _ (gl.at (gk.at (gj.at (gi.at hlnh))))) (by show 3 + 2 ≤ 16777216; decide) (k_new gl.fh fun f2 Fm Hm gm hf2 npm => ?_)
    have bxm := bxl.grow gm nil_not
    have Gm := ((Gj.comp gk bb).comp gl side_nil).comp gm side_nil
    walk_at "go"
    walk_at "ss"
    walk_at "go"
    refine ⟨Fm, b, 4, rfl, gm.fh, bxm, by decide, fun jn Fn Hn gn bxn hjn => ?_⟩
    walk_at "go"
    refine k_new gn.fh fun f3 Fo Ho go_ hf3 npo => ?_
    have bxo := bxn.grow go_ nil_not
    walk_at "go"
    refine r_cat (go_.fh _ _ (go_.at (gn.at hf2))) (go_.fh _ _ hf3) (by show 5 + 12 ≤ 16777216; decide) (k_new go_.fh fun f4 Fp Hp' gp hf4 npp => ?_)
    have bxp := bxo.grow gp nil_not
    have Gp := ((Gm.comp gn bb).comp go_ side_nil).comp gp side_nil
    have u1 : Same Fe Fp := fun x o e => gp.at (go_.at (gn.at (gm.at (gl.at (gk.at (gj.at (gi.at (gh.at (gg.at (gf.at e))))))))))
    have u2 : Same Fk Fp := fun x o e => gp.at (go_.at (gn.at (gm.at (gl.at e))))
    have u3 : Same Fj Fp := fun x o e => u2 x o (gk.at e)
    refine k (.ref f4) ⟨cs, bn, jf, jg, hid, mk, 1 + jn, shs⟩ Fp Hp' Gp bxp (.lst hf4 ?_) ?_
    · refine .cons (.lst (u3 _ _ hslj) (.one (.tup (u3 _ _ (gj.at hsti)) (.cons (.str _) (.cons (.int _) .nil))))) (.cons (Rp.up u2 _ rck) (.cons (strs_mk (u1 _ _ hDe)) (.cons (.int _) (.cons (.int _) (.cons (Rp.up u1 _ rhe) (.cons (.str _) (.cons ?_ (.cons (Rp.up u1 _ rse)
        (.cons (.int _) (.cons (.int _) (.cons (.int _) (.cons (.int _) (.cons (.int _) (.cons (.int _) (.cons (.int _) (.cons (.int _) .nil))))))))))))))))
      show Rp Fp (.int (1 + (jn : Int))) (.int ((1 + jn : Nat) : Int))
      rw [show ((1 : Int) + (jn : Int)) = ((1 + jn : Nat) : Int) by omega]
      exact .int _
    · exact ⟨⟨hcl, hco.1, hco.2⟩, ⟨hbl, hbw⟩, show jf < 10 by omega, show jg < 10 by omega, ⟨hhl, hhid⟩, ⟨show mk.length ≤ 8 by omega, mkW, hm1⟩, hnone, ⟨show 1 + jn < 10 by omega, show 1 ≤ 1 + jn by omega⟩, ⟨show shs.length ≤ 10 by omega, hlo⟩⟩

end
section
variable {P : Program} {w : World} {K : PySem.W.Frag} {mg : Str → Option Value} {base : Heap}

def OkF (P : Program) (w : World) (K : PySem.W.Frag) (mg : Str → Option Value) (base : Heap) (k : Nat) (d : He.DefD) (x : Str) (ps : List Str) (sp : Sp) : Prop := ∃ fd, FunD K d.name d.qual d.params d.body d.scope [] [] (He.ga K x) fd ∧ FnOk P w K mg base CX0 k (He.ga K x) fd ps sp
theorem Txt.okF (T : Txt K mg) (i : Nat) {d : He.DefD} {x : Str} {N ps : List Str} {k : Nat} {sp : Sp} (hi : fn[i]? = some d) (S : FnScope N ps d.scope)
    (len : ∀ vs H Q E, sp vs H Q E → vs.length = ps.length)
    (hbody : ∀ (cdv : Value) (A : Around) (outer : List Env) (s : Shared) (H : Hp) (vs : List V) (Q : VK) (E : XK), Room k (A.deeper (envOfC d.qual d.scope s.heap.objs.size (He.ga K x) cdv)) → sp vs H Q E →
      ∃ t, PSs (cxOf CX0 P w K mg base N d.qual d.scope (He.ga K x) cdv A outer s H E) d.body t ∧ t { nx := fun _ H' => Q .non H', rt := Q } (start N vs) H)
    (hd : d.at_ = (x, none) ∧ d.dfl = [] ∧ d.kwd = [] := by exact ⟨rfl, rfl, rfl⟩) : OkF P w K mg base (k + 1) d x ps sp := by
  obtain ⟨fd, F⟩ := T.fn_ i hi
  obtain ⟨e1, e2, e3⟩ := hd
  have F2 : FunD K d.name d.qual d.params d.body d.scope [] [] (He.ga K x) fd := by
    have q := F
    unfold He.DefD.dvs He.DefD.kws at q
    rw [e1, e2, e3] at q
    exact q
  exact ⟨fd, F2, FunD.ok F2 S len hbody⟩
theorem RV.ru {R : Ru} (h : RV R) : RuOk R where
  ch := ⟨Nat.le_trans h.ch.1 (by decide), fun c hc => Nat.le_trans (h.ch.2.1 c hc).1 (by decide)⟩
  hid := fun s hs e he => Nat.le_trans (Nat.le_of_lt ((h.hid.2 s hs).2.1 e he).1) (by decide)
  shr := fun s hs => ⟨fun e he => Nat.le_trans (Nat.le_of_lt ((h.shr.2 s hs).1.2.1 e he).1) (by decide), Nat.le_trans (Nat.le_of_lt (h.shr.2 s hs).2.1) (by decide), Nat.le_trans (Nat.le_of_lt (h.shr.2 s hs).2.2.1) (by decide)⟩
  mrk := Nat.le_trans h.mrk.1 (by decide)
  ban := Nat.le_trans h.ban.1 (by decide)
theorem RV.hidS {R : Ru} (h : RV R) : ShsOk R.hidden := h.ru.hid
theorem okd_fate {n : Nat} (f : Fate) : OkD (n + 2) f.enc := by
  cases f with
  | short => exact .tup (by decide) fun d hd => by rw [List.mem_singleton.mp hd]; exact .str _ _
  | banned w =>
    exact .tup (by show 2 ≤ 10000000; decide) fun d hd => by
      rcases List.mem_cons.mp hd with e | hd
      · rw [e]; exact .str _ _
      · rw [List.mem_singleton.mp hd]; exact .str _ _
  | common k =>
    exact .tup (by show 2 ≤ 10000000; decide) fun d hd => by
      rcases List.mem_cons.mp hd with e | hd
      · rw [e]; exact .str _ _
      · rw [List.mem_singleton.mp hd]; exact .int _ _
  | kept => exact .tup (by decide) fun d hd => by rw [List.mem_singleton.mp hd]; exact .str _ _
theorem okd_reason {n : Nat} (r : Option Reason) : OkD (n + 2) (encR r) := by
  cases r with
  | none => exact .non _
  | some r =>
    cases r with
    | short => exact .tup (by decide) fun d hd => by rw [List.mem_singleton.mp hd]; exact .str _ _
    | share k =>
      exact .tup (by show 2 ≤ 10000000; decide) fun d hd => by
        rcases List.mem_cons.mp hd with e | hd
        · rw [e]; exact .str _ _
        · rw [List.mem_singleton.mp hd]; exact .int _ _
theorem okd_w {n : Nat} (x : Wd) : OkD (n + 2) (encW x) := .tup (by show 3 ≤ 10000000; decide) fun d hd => by
  rcases List.mem_cons.mp hd with e | hd
  · rw [e]; exact .str _ _
  · rcases List.mem_cons.mp hd with e | hd
    · rw [e]; exact .int _ _
    · rw [List.mem_singleton.mp hd]; exact .int _ _
theorem okd_row {n : Nat} {R : Ru} {docs : List (List Line)} {l : List (List Wd)} (h : l.length ≤ 1601 ∧ ∀ x ∈ l, x.length ≤ 1601 ∧ ∀ y ∈ x, y.1.length ≤ 1601) : OkD (n + 4) (encRow (rowOf R docs l)) := by
  refine .tup (by show 3 ≤ 10000000; decide) fun d hd => ?_
  rcases List.mem_cons.mp hd with e | hd
  · rw [e]; exact okd_reason _
  · rcases List.mem_cons.mp hd with e | hd
    · rw [e]
      refine .lst ?_ fun d hd => ?_
      · show (((plain l).map (fateOf R docs)).map Fate.enc).length ≤ 10000000
        unfold plain
        rw [List.length_map, List.length_map, List.length_map]
        omega
      · obtain ⟨f, _, rfl⟩ := List.mem_map.mp hd
        exact okd_fate f
    · rw [List.mem_singleton.mp hd]
      refine .lst ?_ fun d hd => ?_
      · rw [List.length_map]
        have := (leftW_ok (ls := l) (fs := (plain l).map (fateOf R docs)) h).1
        show (leftW (l.zip ((plain l).map (fateOf R docs)))).length ≤ 10000000
        omega
      · obtain ⟨f, _, rfl⟩ := List.mem_map.mp hd
        exact okd_w f
theorem okd_strs {n : Nat} {l : List (List Nat)} (h : l.length ≤ 10000000) : OkD (n + 2) (encStrs l) := .lst (by rw [List.length_map]; exact h) fun d hd => by
  obtain ⟨x, _, rfl⟩ := List.mem_map.mp hd
  exact .str _ _
theorem leftW_le {b : Nat} : ∀ {z : List (List Wd × Fate)}, (∀ y ∈ z, y.1.length ≤ b) → (leftW z).length ≤ b * z.length
  | [], _ => Nat.zero_le _
  | a :: z, h => by
    have i1 := leftW_le (z := z) fun y hy => h y (List.mem_cons_of_mem _ hy)
    have i2 := h a List.mem_cons_self
    unfold leftW at i1 ⊢
    rw [List.flatMap_cons, List.length_append, List.length_cons, Nat.mul_add]
    split
    · omega
    · show 0 + _ ≤ _
      omega
noncomputable def rowsD (R : Ru) (ts : List (List Nat)) : List PyData := (ts.map (lnOf R)).map fun l => encRow (rowOf R ((ts.map (lnOf R)).map plain) l)
theorem rows_eq (R : Ru) (ts : List (List Nat)) : (cleanR R ts).map encRow = rowsD R ts := by
  unfold cleanR rowsD
  rw [List.map_map]
  rfl
def sp_law (K : PySem.W.Frag) : Sp := fun vs H Q _ => ∃ (a : Addr) (ns : List Int), vs = [.ref a] ∧ SqL K H a (ns.map V.int) ∧ ∀ H', Q (.bl true) H'
abbrev N_law : List Str := ["_law_script", "_law_box", "_law_stock", "_law_drawn", "_law_texts_here", "_law_placed", "_law_bare_here", "_law_due", "_law_k", "_law_fates", "_law_words_here", "_law_j", "_law_rules", "_law_passed", "_law_text_here", "_law_lines", "_law_line", "_law_row"]
theorem sc_law : FnScope N_law ["_law_script"] (defScope s_law) := ⟨rfl, rfl, rfl, by decide +kernel, rfl, by decide +kernel, by decide +kernel⟩
theorem ok_law (T : Txt K mg) : OkF P w K mg base 11 d_law "law" ["_law_script"] (sp_law K) := by
  have m_len : mg "len" = none := T.free 68 rfl
  have m_list : mg "list" = none := T.free 74 rfl
  have m_range : mg "range" = none := T.free 70 rfl
  obtain ⟨f_law_digits, fd_law_digits, G_law_digits, mg_law_digits, kp_law_digits, b_law_digits⟩ := ok_law_digits (P := P) (w := w) (base := base) T
  obtain ⟨f_law_words, fd_law_words, G_law_words, mg_law_words, kp_law_words, b_law_words⟩ := ok_law_words (P := P) (w := w) (base := base) T
  obtain ⟨f_law_cleaning_rules, fd_law_cleaning_rules, G_law_cleaning_rules, mg_law_cleaning_rules, kp_law_cleaning_rules, b_law_cleaning_rules⟩ := ok_law_cleaning_rules (P := P) (w := w) (base := base) T
  obtain ⟨f_law_texts, fd_law_texts, G_law_texts, mg_law_texts, kp_law_texts, b_law_texts⟩ := ok_law_texts (P := P) (w := w) (base := base) T
  obtain ⟨f_law_lines_of, fd_law_lines_of, G_law_lines_of, mg_law_lines_of, kp_law_lines_of, b_law_lines_of⟩ := ok_law_lines_of (P := P) (w := w) (base := base) T
  obtain ⟨f_law_bare, fd_law_bare, G_law_bare, mg_law_bare, kp_law_bare, b_law_bare⟩ := ok_law_bare (P := P) (w := w) (base := base) T
  obtain ⟨f_law_fate, fd_law_fate, G_law_fate, mg_law_fate, kp_law_fate, b_law_fate⟩ := ok_law_fate (P := P) (w := w) (base := base) T
  obtain ⟨f_law_reason, fd_law_reason, G_law_reason, mg_law_reason, kp_law_reason, b_law_reason⟩ := ok_law_reason (P := P) (w := w) (base := base) T
  obtain ⟨f_parse_rules, fd_parse_rules, G_parse_rules, mg_parse_rules, kp_parse_rules, b_parse_rules⟩ := ok_parse_rules (P := P) (w := w) (base := base) T
  obtain ⟨f_law_normal, fd_law_normal, G_law_normal, mg_law_normal, kp_law_normal, b_law_normal⟩ := ok_law_normal (P := P) (w := w) (base := base) T
  obtain ⟨f_law_same, fd_law_same, G_law_same, mg_law_same, kp_law_same, b_law_same⟩ := ok_law_same (P := P) (w := w) (base := base) T
  obtain ⟨f_clean_documents, fd_clean_documents, G_clean_documents, mg_clean_documents, kp_clean_documents, b_clean_documents⟩ := ok_clean_documents (P := P) (w := w) (base := base) T
  refine T.okF 78 rfl (d := d_law) sc_law (fun vs H Q E h => ?_) (fun cdv A outer s H vs Q E hr h => ?_)
  · obtain ⟨_, _, rfl, _⟩ := h
    rfl
  · refine ⟨_, PSs.nox (pss_cons (ps_set (i := 1) sc_law.nd rfl (Or.inl rfl) (pe_lst (pa_cons (pe_call G_law_digits (hr.mono (by decide)) rfl mg_law_digits kp_law_digits b_law_digits .nil pass0 (pa_cons (pv 0) (pa_cons pe_int (pa_cons pe_int pa_nil)))) (pa_cons pe_int pa_nil))))
      (pss_cons (ps_set (i := 2) sc_law.nd rfl (Or.inl rfl) (pe_call G_law_words (hr.mono (by decide)) rfl mg_law_words kp_law_words b_law_words .nil pass0 (pa_cons (pv 1) pa_nil)))
      (pss_cons (ps_set (i := 3) sc_law.nd rfl (Or.inr rfl) (pe_call G_law_cleaning_rules (hr.mono (by decide)) rfl mg_law_cleaning_rules kp_law_cleaning_rules b_law_cleaning_rules .nil pass0 (pa_cons (pv 1) (pa_cons (pv 2) pa_nil))))
      (pss_cons (ps_set (i := 4) sc_law.nd rfl (Or.inl rfl) (pe_call G_law_texts (hr.mono (by decide)) rfl mg_law_texts kp_law_texts b_law_texts .nil pass0 (pa_cons (pv 1) (pa_cons (pv 2) pa_nil))))
      (pss_cons (ps_setLc (i := 5) (own := [("_law_text_here", 14)]) (g := gName 14) (tt := tYes) rfl sc_law.nd rfl rfl (sw_true rfl rfl rfl (by decide +kernel)) (pi_list (pv 4)) (blkOk_by (own := [("_law_text_here", 14)]) (N := N_law) (sc := defScope s_law) (by decide +kernel)) (fun _ _ _ _ _ => (pg_name (i := 14) sc_law.nd rfl (Or.inl rfl))) (fun _ _ _ _ _ => pts_nil) (fun _ _ _ _ _ => (pe_call G_law_lines_of (hr.mono (by decide)) rfl mg_law_lines_of kp_law_lines_of b_law_lines_of .nil pass0 (pa_cons (pv 14) (pa_cons (pe_ix (ixK_list (K := K)) (pv 3) pe_int (fun _ _ => rfl)) (pa_cons (pe_ix (ixK_list (K := K)) (pv 3) pe_int (fun _ _ => rfl)) (pa_cons (pe_ix (ixK_list (K := K)) (pv 3) pe_int (fun _ _ => rfl)) pa_nil)))))))
      (pss_cons (ps_set (i := 6) sc_law.nd rfl (Or.inr rfl) (pe_lc (own := [("_law_lines", 15)]) (g := gName 15) (tt := tYes) rfl sc_law.nd (pi_list (pv 5)) (blkOk_by (own := [("_law_lines", 15)]) (N := N_law) (sc := defScope s_law) (by decide +kernel)) (fun _ _ _ _ _ => (pg_name (i := 15) sc_law.nd rfl (Or.inl rfl))) (fun _ _ _ _ _ => pts_nil) (fun _ _ _ _ _ => (pe_call G_law_bare (hr.mono (by decide)) rfl mg_law_bare kp_law_bare b_law_bare .nil pass0 (pa_cons (pv 15) pa_nil)))))
      (pss_cons (ps_set (i := 7) sc_law.nd rfl (Or.inl rfl) (pe_lst pa_nil))
      (pss_cons (ps_for PassesOwn.never rfl (pi_range1 (by rfl) m_range (pa_cons (pe_callB cr_lenL (by rfl) m_len PySem.boot_len (pa_cons (pv 4) pa_nil)) pa_nil)) (pg_name (i := 8) sc_law.nd rfl (Or.inl rfl))
        (pss_cons (ps_setLc (i := 9) (own := [("_law_line", 16)]) (g := gName 16) (tt := tYes) rfl sc_law.nd rfl rfl (sw_true rfl rfl rfl (by decide +kernel)) (pi_list (pe_ix ix_list (pv 6) (pv 8) (fun _ _ => rfl))) (blkOk_by (own := [("_law_line", 16)]) (N := N_law) (sc := defScope s_law) (by decide +kernel)) (fun _ _ _ _ _ => (pg_name (i := 16) sc_law.nd rfl (Or.inl rfl))) (fun _ _ _ _ _ => pts_nil) (fun _ _ _ _ _ => (pe_call G_law_fate (hr.mono (by decide)) rfl mg_law_fate kp_law_fate b_law_fate .nil pass0 (pa_cons (pv 16) (pa_cons (pv 3) (pa_cons (pv 6) pa_nil))))))
        (pss_cons (ps_set (i := 10) sc_law.nd rfl (Or.inl rfl) (pe_lst pa_nil))
        (pss_cons (ps_for PassesOwn.never rfl (pi_range1 (by rfl) m_range (pa_cons (pe_callB cr_lenL (by rfl) m_len PySem.boot_len (pa_cons (pv 9) pa_nil)) pa_nil)) (pg_name (i := 11) sc_law.nd rfl (Or.inl rfl))
          (pss_one (ps_if (pt_cmpR op_eq (pe_ix ix_tup (pe_ix ix_list (pv 9) (pv 11) (fun _ _ => rfl)) pe_int (fun _ _ => rfl)) pe_str (nomark _))
            (pss_one (ps_set (i := 10) sc_law.nd rfl (Or.inl rfl) (pe_op op_cat (pv 10) (pe_ix ix_list (pe_ix ix_list (pv 5) (pv 8) (fun _ _ => rfl)) (pv 11) (fun _ _ => rfl)))))
            pss_nil)))
        (pss_one (ps_expr (pe_bm PySem.F.plainAttrs_list PySem.F.slot_list_append PySem.F.type_list_append mt_append (pv 7) (pa_cons (pe_tup (pa_cons (pe_call G_law_reason (hr.mono (by decide)) rfl mg_law_reason kp_law_reason b_law_reason .nil pass0 (pa_cons (pe_lc (own := [("_law_row", 17)]) (g := gName 17) (tt := tYes) rfl sc_law.nd (pi_list (pv 10)) (blkOk_by (own := [("_law_row", 17)]) (N := N_law) (sc := defScope s_law) (by decide +kernel)) (fun _ _ _ _ _ => (pg_name (i := 17) sc_law.nd rfl (Or.inl rfl))) (fun _ _ _ _ _ => pts_nil) (fun _ _ _ _ _ => (pe_ix (ixK_tup (K := K)) (pv 17) pe_int (fun _ _ => rfl)))) (pa_cons (pv 3) pa_nil))) (pa_cons (pv 9) (pa_cons (pv 10) pa_nil)))) pa_nil))))))))
      (pss_cons (ps_set (i := 12) sc_law.nd rfl (Or.inl rfl) (pe_call G_parse_rules (hr.mono (by decide)) rfl mg_parse_rules kp_parse_rules b_parse_rules .nil pass0 (pa_cons (pe_call G_law_normal (hr.mono (by decide)) rfl mg_law_normal kp_law_normal b_law_normal .nil pass0 (pa_cons (pv 3) pa_nil)) pa_nil)))
      (pss_cons (ps_set (i := 13) sc_law.nd rfl (Or.inl rfl) (pe_callTy cr_lstOf (by rfl) m_list (by decide +kernel) (pa_cons (pv 4) pa_nil)))
      (pss_cons (ps_if (PW.pt (pw_or (pt_not (pt_val (pe_call G_law_same (hr.mono (by decide)) rfl mg_law_same kp_law_same b_law_same .nil pass0 (pa_cons (pe_call G_clean_documents (hr.mono (by decide)) rfl mg_clean_documents kp_clean_documents b_clean_documents .nil pass0 (pa_cons (pv 13) (pa_cons (pv 12) pa_nil))) (pa_cons (pv 7) pa_nil))))) (pw_or1 (pt_not (pt_val (pe_call G_law_same (hr.mono (by decide)) rfl mg_law_same kp_law_same b_law_same .nil pass0 (pa_cons (pv 13) (pa_cons (pv 4) pa_nil))))))))
        (pss_one (ps_ret pe_bl))
        pss_nil)
      (pss_one (ps_ret (pe_call G_law_same (hr.mono (by decide)) rfl mg_law_same kp_law_same b_law_same .nil pass0 (pa_cons (pe_call G_clean_documents (hr.mono (by decide)) rfl mg_clean_documents kp_clean_documents b_clean_documents .nil pass0 (pa_cons (pv 13) (pa_cons (pv 12) pa_nil))) (pa_cons (pv 7) pa_nil)))))))))))))))), ?_⟩
    obtain ⟨a, ns, rfl, hS, k⟩ := h
    have ok : Same (fun _ => none) H := fun x o e => (nomatch e)
    walk_at "go"
    refine ⟨_, a, ns, rfl, ok, hS, fun dg ds F1 H1 g1 hdg => ?_⟩
    walk_at "go"
    refine k_mu g1.fh fun bx F2 H2 g2 m2 n2 => ?_
    have G2 := g1.comp g2 side_nil
    have nb0 : H bx = none := g1.back0 n2
    have sb : ∀ {P : Addr → Prop}, ∀ x ∈ [bx], x ∈ ([] : List Addr) ∨ H x = none := fun x hx => .inr (by rw [List.mem_singleton.mp hx]; exact nb0)
    have b2 : Box F2 H2 bx := ⟨dg, ds, 0, m2, g2.at hdg⟩
    walk_at "go"
    walk_at "ss"
    walk_at "go"
    refine ⟨F2, bx, rfl, g2.fh, b2, fun vst ws F3 H3 g3 b3 st3 => ?_⟩
    have G3 := G2.comp g3 (side_one (.inr nb0))
    walk_at "go"
    walk_at "ss"
    walk_at "go"
    refine ⟨F3, bx, vst, ws, rfl, g3.fh, b3, st3, fun vR R F4 H4 g4 b4 rR hR => ?_⟩
    have G4 := G3.comp g4 (side_one (.inr nb0))
    walk_at "go"
    walk_at "ss"
    walk_at "go"
    refine ⟨F4, bx, vst, ws, rfl, g4.fh, b4, st3.grow g4, fun vt ts F5 H5 g5 b5 rt htl hto => ?_⟩
    have G5 := G4.comp g5 (side_one (.inr nb0))
    have rR5 := g5.rp rR
    have ok5 := G5.fh
    obtain ⟨ar, xr, rfl, har, hrr, X⟩ := rul_inv rR5
    obtain ⟨at_, xt, rfl, hat, hrt⟩ := rt.lst_inv
    obtain ⟨x1, e1, r1⟩ := X.changes
    obtain ⟨x5, e5, r5⟩ := X.hidden
    have lok : ∀ t ∈ ts, (lnOf R t).length ≤ 1601 ∧ ∀ l ∈ lnOf R t, l.length ≤ 1601 ∧ ∀ x ∈ l, x.1.length ≤ 1601 := fun t ht => lnOf_ok (b := 8) hR.ru (fun c hc => (hR.ch.2.1 c hc).1) (hto t ht).1
    have lokC : ∀ t ∈ ts, ∀ l ∈ lnOf R t, ∀ y ∈ l, okC y.1 := fun t ht => lnOf_okC (fun c hc => (hR.ch.2.1 c hc).2) hR.mrk.2.2 (hto t ht).2
    walk_at "go"
    walk_at "ss"
    walk_at "go"
    refine r_itL (sql_fz ok5 hat) fun D1 hD1 => ?_
    refine lcL_map (ds := ts.map fun x => .str (S x)) (es := (ts.map (lnOf R)).map encLns) ok5 hD1 hat hrt (by simp) (by rw [List.length_map]; omega) ?_ ?_
    · intro j x d e F6 H6 Kc hd he rx g6 kc
      obtain ⟨t, ht, rfl⟩ := map_at hd
      obtain ⟨ln, hln, rfl⟩ := map_at he
      obtain ⟨t2, ht2, rfl⟩ := map_at hln
      rw [ht] at ht2
      cases ht2
      cases rx.str_inv
      have ok6 := g6.fh
      have har6 := g6.at har
      walk_at "go"
      refine ⟨rfl, ?_⟩
      walk_at "go"
      refine r_ixL (n := 1) (sql_fz ok6 har6) rfl e1 ?_
      walk_at "go"
      refine r_ixL (n := 5) (sql_fz ok6 har6) rfl e5 ?_
      walk_at "go"
      refine r_ixL (n := 6) (sql_fz ok6 har6) rfl X.mark ?_
      walk_at "go"
      exact ⟨F6, t, x1, x5, R.changes, R.hidden, R.mark, rfl, ok6, g6.rp r1, g6.rp r5, (hto t (List.mem_of_getElem? ht)).1, fun c hc => (hR.ch.2.1 c hc).1, hR.ch.2.2, hR.hidS, kc⟩
    intro F6 H6 g6 rpl
    have G6 := G5.comp g6 side_nil
    have ok6 := G6.fh
    obtain ⟨apl, xpl, epl, hpl, hrpl⟩ := rpl.lst_inv
    cases epl
    walk_at "go"
    walk_at "ss"
    walk_at "go"
    refine r_itL (sql_fz ok6 hpl) fun D2 hD2 => ?_
    refine lcL_map (ds := (ts.map (lnOf R)).map encLns) (es := ((ts.map (lnOf R)).map plain).map encDoc) ok6 hD2 hpl hrpl (by simp) (by rw [List.length_map, List.length_map]; omega) ?_ ?_
    · intro j x d e F7 H7 Kc hd he rx g7 kc
      obtain ⟨ln, hln, rfl⟩ := map_at hd
      obtain ⟨dc, hdc, rfl⟩ := map_at he
      obtain ⟨ln2, hln2, rfl⟩ := map_at hdc
      rw [hln] at hln2
      cases hln2
      obtain ⟨t, ht, rfl⟩ := map_at hln
      have lo := lok t (List.mem_of_getElem? ht)
      walk_at "go"
      refine ⟨rfl, ?_⟩
      walk_at "go"
      exact ⟨F7, x, _, rfl, g7.fh, rx, by have := lo.1; omega, fun l hl => by have := (lo.2 l hl).1; omega, kc⟩
    intro F7 H7 g7 rba
    have G7 := G6.comp g7 side_nil
    have ok7 := G7.fh
    obtain ⟨aba, xba, eba, hba, hrba⟩ := rba.lst_inv
    cases eba
    have rba : Rp F7 (.ref D2) (encDocs ((ts.map (lnOf R)).map plain)) := rba
    walk_at "go"
    walk_at "ss"
    walk_at "go"
    refine k_mu ok7 fun q F8 H8 g8 mq8 nq => ?_
    have G8 := G7.comp g8 side_nil
    have nq0 : H q = none := G7.back0 nq
    have ok8 := G8.fh
    have hat8 := g8.at (g7.at (g6.at hat))
    have hpl8 := g8.at (g7.at hpl)
    have hba8 := g8.at hba
    have rR8 := g8.rp (g7.rp (g6.rp rR5))
    have rt8 := g8.rp (g7.rp (g6.rp rt))
    have rba8 := g8.rp rba
    have hrpl8 := g8.rps (g7.rps hrpl)
    have hrba8 := g8.rps hrba
    walk_at "go"
    walk_at "ss"
    walk_at "go"
    have lxt : xt.length = ts.length := hrt.len_map
    rw [lxt]
    refine r_rng1E (n := ts.length) rfl (by omega) ?_
    refine loopR0 (fun i σ' H' => ∃ (F' : Hp) (us : List V) (y1 y2 y3 y4 : Option V), Grow [q] F8 H8 F' H' ∧ Mu F' H' q (.lst us) ∧ Rps F' us ((rowsD R ts).take i) ∧
        σ' = [some (.ref a), some (.ref bx), some vst, some (.ref ar), some (.ref at_), some (.ref D1), some (.ref D2), some (.ref q), y1, y2, y3, y4, none, none, none, none, none, none])
      ⟨F8, [], none, none, none, none, Grow.refl ok8, mq8, .nil, rfl⟩ ?_ ?_
    · rintro i σ' H9 hi ⟨F9, us, y1, y2, y3, y4, G9, mq9, rz9, rfl⟩
      have ok9 := G9.fh
      have hti : ts[i]? = some ts[i] := List.getElem?_eq_getElem hi
      have hl : (ts.map (lnOf R))[i]? = some (lnOf R ts[i]) := by rw [List.getElem?_map, hti]; rfl
      have hp : ((ts.map (lnOf R)).map plain)[i]? = some (plain (lnOf R ts[i])) := by rw [List.getElem?_map, hl]; rfl
      have lo := lok ts[i] (List.getElem_mem hi)
      have loC := lokC ts[i] (List.getElem_mem hi)
      have docC : ∀ d ∈ (ts.map (lnOf R)).map plain, ∀ l ∈ d, ∀ x ∈ l, okC x := fun d hd l hl x hx => by
        obtain ⟨ls, hls, rfl⟩ := List.mem_map.mp hd
        obtain ⟨t, ht, rfl⟩ := List.mem_map.mp hls
        obtain ⟨l2, hl2, rfl⟩ := List.mem_map.mp hl
        obtain ⟨w2, hw2, rfl⟩ := List.mem_map.mp hx
        exact lokC t ht l2 hl2 w2 hw2
      obtain ⟨zl, hzl, rzl⟩ := (G9.rps hrpl8).at_map hl
      obtain ⟨zp, hzp, rzp⟩ := (G9.rps hrba8).at_map hp
      obtain ⟨al, xl, rfl, hal, hrl⟩ := rzl.lst_inv
      obtain ⟨ap, xp, rfl, hap, hrp⟩ := rzp.lst_inv
      generalize hdocs : (ts.map (lnOf R)).map plain = docs at docC rba8
      have hdl : docs.length ≤ 1000 := by rw [← hdocs, List.length_map, List.length_map]; omega
      walk_at "go"
      walk_at "ss"
      walk_at "go"
      refine r_ixL (n := i) (sql_fz ok9 (G9.at hba8)) rfl hzp ?_
      refine r_itL (sql_fz ok9 hap) fun D3 hD3 => ?_
      have pll : (plain (lnOf R ts[i])).length = (lnOf R ts[i]).length := by unfold plain; rw [List.length_map]
      refine lcL_map (ds := (plain (lnOf R ts[i])).map encStrs) (es := ((plain (lnOf R ts[i])).map (fateOf R docs)).map Fate.enc) ok9 hD3 hap hrp (by simp) (by rw [List.length_map, pll]; have := lo.1; omega) ?_ ?_
      · intro j x d e Fa Ha Kc hd he rx ga kc
        obtain ⟨l, hl2, rfl⟩ := map_at hd
        obtain ⟨f, hf, rfl⟩ := map_at he
        obtain ⟨l2, hl3, rfl⟩ := map_at hf
        rw [hl2] at hl3
        cases hl3
        walk_at "go"
        refine ⟨rfl, ?_⟩
        walk_at "go"
        refine ⟨Fa, x, _, _, l, R, docs, rfl, ga.fh, rx, ga.rp (G9.rp rR8), ga.rp (G9.rp rba8), hdl, fun w hw => ?_, docC, kc⟩
        obtain ⟨l3, hl4, rfl⟩ := List.mem_map.mp (List.mem_of_getElem? hl2)
        obtain ⟨w2, hw2, rfl⟩ := List.mem_map.mp hw
        exact loC l3 hl4 w2 hw2
      intro Fa Ha ga rfa
      have Ga := G9.comp ga side_nil
      have oka := Ga.fh
      obtain ⟨afa, xfa, efa, hfa, hrfa⟩ := rfa.lst_inv
      cases efa
      have rfa : Rp Fa (.ref D3) (encFs ((plain (lnOf R ts[i])).map (fateOf R docs))) := rfa
      walk_at "go"
      walk_at "ss"
      walk_at "go"
      refine k_new oka fun w0 Fb Hb gb hw0 nw0 => ?_
      have Gb := Ga.comp gb side_nil
      have okb := Gb.fh
      have mqb := gb.mu nil_not (ga.mu nil_not mq9)
      have hfab := gb.at hfa
      have hrfab := gb.rps hrfa
      have halb := gb.at (ga.at hal)
      have hrlb := gb.rps (ga.rps hrl)
      have rzb := gb.rps (ga.rps rz9)
      walk_at "go"
      walk_at "ss"
      walk_at "go"
      have lfa : xfa.length = (lnOf R ts[i]).length := by rw [hrfa.len_map, List.length_map, pll]
      rw [lfa]
      have lo1 := lo.1
      refine r_rng1E (n := (lnOf R ts[i]).length) rfl (by omega) ?_
      have zlen : ((lnOf R ts[i]).zip ((plain (lnOf R ts[i])).map (fateOf R docs))).length = (lnOf R ts[i]).length := by rw [List.length_zip, List.length_map, pll, Nat.min_self]
      refine loopR0 (fun j σ' H' => ∃ (F' : Hp) (v : V) (y : Option V), Grow [] Fb Hb F' H' ∧ Rp F' v (.list ((leftW (((lnOf R ts[i]).zip ((plain (lnOf R ts[i])).map (fateOf R docs))).take j)).map encW)) ∧
          σ' = [some (.ref a), some (.ref bx), some vst, some (.ref ar), some (.ref at_), some (.ref D1), some (.ref D2), some (.ref q), some (.int (i : Int)), some (.ref D3), some v, y, none, none, none, none, none, none])
        ⟨Fb, .ref w0, _, Grow.refl okb, .lst hw0 .nil, rfl⟩ ?_ ?_
      · rintro j σ' Hc hj ⟨Fc, v, y, Gc, rv, rfl⟩
        have okc := Gc.fh
        have hlj : (lnOf R ts[i])[j]? = some (lnOf R ts[i])[j] := List.getElem?_eq_getElem hj
        have hjb : j < ((plain (lnOf R ts[i])).map (fateOf R docs)).length := by rw [List.length_map, pll]; exact hj
        obtain ⟨fj, hfj⟩ : ∃ fj, ((plain (lnOf R ts[i])).map (fateOf R docs))[j]? = some fj := ⟨_, List.getElem?_eq_getElem hjb⟩
        obtain ⟨xf, hxf, rxf⟩ := (Gc.rps hrfab).at_map hfj
        obtain ⟨aft, tf, rfl, haft, tag⟩ := Fate.tag_inv rxf
        obtain ⟨zx, hzx, rzx⟩ := (Gc.rps hrlb).at_map hlj
        obtain ⟨azx, vzx, rfl, hazx, hrzx⟩ := rzx.lst_inv
        obtain ⟨av, xv, rfl, hav, hrv⟩ := rv.lst_inv
        have hz : ((lnOf R ts[i]).zip ((plain (lnOf R ts[i])).map (fateOf R docs)))[j]? = some ((lnOf R ts[i])[j], fj) := by
          rw [List.getElem?_zip_eq_some]
          exact ⟨hlj, hfj⟩
        have lvz := hrzx.len_map
        have lo2 := (lo.2 _ (List.getElem_mem hj)).1
        walk_at "go"
        walk_at "ss"
        walk_at "go"
        refine r_ixL (n := j) (sql_fz okc (Gc.at hfab)) rfl hxf ?_
        walk_at "go"
        refine r_ixT (n := 0) (sqt_fz okc haft) rfl tag ?_
        walk_at "go"
        rw [Fate.is_kept]
        refine r_ite (fun c => ?_) (fun c => ?_)
        · have c := of_decide_eq_true c
          walk_at "go"
          refine r_ixL (n := i) (sql_fz okc (Gc.at (gb.at (ga.at (G9.at hpl8))))) rfl hzl ?_
          walk_at "go"
          refine r_ixL (n := j) (sql_fz okc (Gc.at halb)) rfl hzx ?_
          have lle : xv.length ≤ 1601 * j := by
            rw [hrv.len_map]
            have q := leftW_le (b := 1601) (z := ((lnOf R ts[i]).zip ((plain (lnOf R ts[i])).map (fateOf R docs))).take j) fun y hy => (lo.2 y.1 (List.of_mem_zip (List.mem_of_mem_take hy)).1).1
            rw [List.length_take] at q
            have := Nat.mul_le_mul_left 1601 (Nat.min_le_left j ((lnOf R ts[i]).zip ((plain (lnOf R ts[i])).map (fateOf R docs))).length)
            omega
          refine r_cat (okc _ _ hav) (okc _ _ hazx) (by omega) (k_new okc fun nv Fd Hd gd hnv nnv => ?_)
          walk_at "go"
          refine ⟨Fd, .ref nv, _, Gc.comp gd side_nil, .lst hnv ?_, rfl⟩
          rw [take_more hz, leftW_snoc, if_pos c, List.map_append]
          exact (gd.rps hrv).append (gd.rps hrzx)
        · have c := of_decide_eq_false c
          walk_at "go"
          refine ⟨Fc, _, _, Gc, ?_, rfl⟩
          rw [take_more hz, leftW_snoc, if_neg c, List.append_nil]
          exact .lst hav hrv
      rintro σ' Hc ⟨Fc, v, y, Gc, rv, rfl⟩
      rw [List.take_of_length_le (by rw [zlen]; exact Nat.le_refl _)] at rv
      have lwo := leftW_ok (ls := lnOf R ts[i]) (fs := (plain (lnOf R ts[i])).map (fateOf R docs)) lo
      have okc := Gc.fh
      have mqc := Gc.mu nil_not mqb
      have rfac := Gc.rp (gb.rp rfa)
      have rzc := Gc.rps rzb
      have erow : encRow (rowOf R docs (lnOf R ts[i])) = .tuple [encR (reasonOf R ((leftW ((lnOf R ts[i]).zip ((plain (lnOf R ts[i])).map (fateOf R docs)))).map fun x => x.1)), encFs ((plain (lnOf R ts[i])).map (fateOf R docs)), .list ((leftW ((lnOf R ts[i]).zip ((plain (lnOf R ts[i])).map (fateOf R docs)))).map encW)] := rfl
      generalize leftW ((lnOf R ts[i]).zip ((plain (lnOf R ts[i])).map (fateOf R docs))) = wds at rv lwo erow
      obtain ⟨av, xv, rfl, hav, hrv⟩ := rv.lst_inv
      walk_at "go"
      refine r_itL (sql_fz okc hav) fun D4 hD4 => ?_
      refine lcL_map (ds := wds.map encW) (es := (wds.map fun x => x.1).map fun x => .str (S x)) okc hD4 hav hrv (by simp) (by rw [List.length_map]; have := lwo.1; omega) ?_ ?_
      · intro j2 x2 d2 e2 Fd Hd Kc2 hd2 he2 rx2 gd kc2
        obtain ⟨wd, hwd, rfl⟩ := map_at hd2
        obtain ⟨x1, hx1, rfl⟩ := map_at he2
        obtain ⟨wd2, hwd2, rfl⟩ := map_at hx1
        rw [hwd] at hwd2
        cases hwd2
        obtain ⟨aw, rfl, haw⟩ := encW_inv rx2
        have okJ := gd.fh
        walk_at "go"
        refine ⟨rfl, ?_⟩
        walk_at "go"
        exact kc2 _ Fd Hd (Grow.refl okJ) (.str _)
      intro Fd Hd gd rwd
      have rwd : Rp Fd (.ref D4) (encStrs (wds.map fun x : Wd => x.1)) := rwd
      walk_at "go"
      refine ⟨Fd, _, _, wds.map (fun x : Wd => x.1), R, rfl, gd.fh, rwd, gd.rp (Gc.rp (gb.rp (ga.rp (G9.rp rR8)))), hR.ru, by have := hR.shr.1; omega, by rw [List.length_map]; have := lwo.1; omega, fun x hx => ?_, fun vr Fe He ge rvr => ?_⟩
      · obtain ⟨y, hy, rfl⟩ := List.mem_map.mp hx
        have := lwo.2 y hy
        omega
      walk_at "go"
      refine k_new ge.fh fun pt Ff Hf gf hpt npt => ?_
      have mqf := gf.mu nil_not (ge.mu nil_not (gd.mu nil_not mqc))
      have rzf := gf.rps (ge.rps (gd.rps rzc))
      have Gf := (((((Gb.comp Gc side_nil).comp gd side_nil).comp ge side_nil).comp gf side_nil))
      walk_at "go"
      refine r_append mqf.1 ?_ (k_wr gf.fh mqf fun Fg Hg gg mqg => ?_)
      · have e := rzf.length
        unfold rowsD at e
        rw [List.length_take, List.length_map, List.length_map] at e
        omega
      walk_at "go"
      refine ⟨Fg, _, _, _, _, _, Gf.comp gg (side_one (.inl (List.mem_singleton.mpr rfl))), mqg, ?_, rfl⟩
      have erd : (rowsD R ts)[i]? = some (encRow (rowOf R docs (lnOf R ts[i]))) := by
        unfold rowsD
        rw [List.getElem?_map, hl, hdocs]
        rfl
      rw [take_more erd, erow]
      exact (gg.rps rzf).snoc (gg.rp (.tup hpt (.cons (gf.rp rvr) (.cons (gf.rp (ge.rp (gd.rp rfac))) (.cons (gf.rp (ge.rp (gd.rp (.lst hav hrv)))) .nil)))))
    · rintro σ' H9 ⟨F9, us, y1, y2, y3, y4, G9, mq9, rz9, rfl⟩
      rw [List.take_of_length_le (by unfold rowsD; rw [List.length_map, List.length_map]; exact Nat.le_refl _)] at rz9
      refine k_fz G9.fh mq9 fun Fa ga hqa => ?_
      have Ga := G9.comp ga (side_one (.inl (List.mem_singleton.mpr rfl)))
      have rdue : Rp Fa (.ref q) (.list (rowsD R ts)) := .lst hqa (ga.rps rz9)
      have rRa := Ga.rp rR8
      have rta := Ga.rp rt8
      have hata := Ga.at hat8
      have oka := Ga.fh
      walk_at "go"
      refine ⟨Fa, _, R, rfl, oka, rRa, hR, fun Fb Hb gb => ?_⟩
      walk_at "go"
      refine ⟨Fb, tl (normS R), R, by rw [S_tl]; rfl, gb.fh, by rw [← len_tl]; exact norm_len hR, lex_norm hR, hR, fun vru Fc Hc gc hru => ?_⟩
      have okc := gc.fh
      have hatc := gc.at (gb.at hata)
      have rtc := gc.rp (gb.rp rta)
      have rduc := gc.rp (gb.rp rdue)
      walk_at "go"
      walk_at "ss"
      walk_at "go"
      refine r_lstOf (sql_fz okc hatc) (k_new okc fun pp Fd Hd gd hpp npp => ?_)
      have okd := gd.fh
      have rpd : Rp Fd (.ref pp) (encStrs ts) := by
        obtain ⟨a2, x2, ea, ha2, hr2⟩ := (gd.rp rtc).lst_inv
        cases ea
        have e := (gd.at hatc).symm.trans ha2
        cases e
        exact .lst hpp hr2
      have tok : TsOk ts := ⟨by omega, fun t ht => (hto t ht).1⟩
      have okr : OkD 7 (.list (rowsD R ts)) := by
        unfold rowsD
        refine .lst (by rw [List.length_map, List.length_map]; omega) fun d hd => ?_
        obtain ⟨l, hl, rfl⟩ := List.mem_map.mp hd
        obtain ⟨t, ht, rfl⟩ := List.mem_map.mp hl
        exact okd_row (lok t ht)
      have okt : OkD 7 (encStrs ts) := okd_strs (by omega)
      walk_at "go"
      walk_at "ss"
      walk_at "go"
      refine ⟨Fd, _, _, ts, R, rfl, okd, rpd, gd.ru hru, hR.ru, by have := hR.shr.1; omega, fun c hc => (hR.ch.2.1 c hc).1, tok, fun vc Fe He ge rvc => ?_⟩
      rw [rows_eq] at rvc
      walk_at "go"
      refine ⟨Fe, _, _, _, rfl, ge.fh, rvc, ge.rp (gd.rp rduc), okr, ?_⟩
      walk_at "go"
      refine r_iteF rfl ?_
      walk_at "go"
      refine ⟨Fe, _, _, _, rfl, ge.fh, ge.rp rpd, ge.rp (gd.rp rtc), okt, ?_⟩
      walk_at "go"
      refine r_iteF rfl ?_
      walk_at "go"
      refine ⟨Fe, _, _, ts, R, rfl, ge.fh, ge.rp rpd, ge.ru (gd.ru hru), hR.ru, by have := hR.shr.1; omega, fun c hc => (hR.ch.2.1 c hc).1, tok, fun vc2 Ff Hf gf rvc2 => ?_⟩
      rw [rows_eq] at rvc2
      walk_at "go"
      refine ⟨Ff, _, _, _, rfl, gf.fh, rvc2, gf.rp (ge.rp (gd.rp rduc)), okr, ?_⟩
      exact k Hf

end
end Ck
namespace Ck
open PySem PySem.Spec PyProof.Rows L2
abbrev R : PySem.W.OpenRow := PySem.W.OpenLaw.row rw
def ob (s : PySem.W.SharedT) : AlX := obsX 5 (HandSHeadRun.getT s)
theorem ob_eq (s : PySem.W.SharedT) : ob s = hk.obs s.abs := by
  have e : HandSHeadRun.getT s = s.abs.heap.get? := funext (HandSHeadRun.getT_eq s)
  show obsX 5 (HandSHeadRun.getT s) = obsX 5 s.abs.heap.get?
  rw [e]
def names0 : List PySem.Str := ["is_letter", "is_digit", "is_blank", "is_word", "place_of", "_name_at", "_number_at", "_quoted_at", "_sign_at", "read_signs", "is_of_kind", "_run_length"]
def names1 : List PySem.Str := ["_ends", "has_shape", "has_any_shape", "change_text", "split_lines", "_shown", "hide_words", "text_lines", "count_lines", "_first_banned", "_line_fate", "line_fates"]
def names2 : List PySem.Str := ["left_words", "drop_reason", "_plain_lines", "clean_documents", "_read_sources", "_read_changes", "_read_banned", "_read_lines", "_read_kind", "_read_element", "_read_shape", "_read_hidden"]
def names3 : List PySem.Str := ["_read_mark", "_read_shares", "_read_alike", "_read_count", "parse_rules", "_law_cell", "_law_digits", "_law_draw", "_law_same", "_law_any", "_law_solid", "_law_text"]
def names4 : List PySem.Str := ["_law_word", "_law_name", "_law_digit_text", "_law_quoted", "_law_move", "_law_blanks", "_law_kind_fits", "_law_has", "_law_element_text", "_law_shape_text", "_law_lines_text", "_law_normal"]
def names5 : List PySem.Str := ["_law_lines_of", "_law_shown", "_law_bare", "_law_fate", "_law_reason", "_law_shape", "_law_words", "_law_changes", "_law_cleaning_rules", "_law_page_text", "_law_texts", "CorpusError"]
def names6 : List PySem.Str := ["RulesFault", "Rules", "SignReader", "LETTERS", "DIGITS", "SYMBOLS", "NAME_MOST", "RESERVED", "KINDS", "UNEXPECTED"]
def loose : List PySem.Str := names0 ++ (names1 ++ (names2 ++ (names3 ++ (names4 ++ (names5 ++ (names6))))))
theorem run (w : World) : HandSHeadRun.RunEq R (PySem.W.view R.prog [90]) hk ob 6000 loose w := by
  intro os
  kernel_rfl
section
open PySem PySem.Spec PyProof.Rows L2
theorem facts {P : Program} {w : World} {K : PySem.W.Frag} {h : Heap} {mg : Str → Option Value} {f : Addr} (X : K.In h) (G : h.Ns mainGlobals mg) (hfa : mg ("law" : Str) = some (.ref f)) (c : SaysX K) :
    ∃ fd : FuncData, (∀ (s : Shared) (v : Value), BindsTo s fd ⟨[v], []⟩ [("_law_script", v)]) ∧ ∀ base : Heap, K.In base → base.Ns mainGlobals mg → FnOk P w K mg base CX0 11 f fd ["_law_script"] (sp_law K) := by
  have T : Txt K mg := ⟨h, X, G, c⟩
  obtain ⟨fd, F⟩ := T.fn_ 78 (d := d_law) rfl
  have F2 : FunD K d_law.name d_law.qual d_law.params d_law.body d_law.scope [] [] (He.ga K "law") fd := F
  have e := hfa.symm.trans (T.glo 67 (x := "law") rfl)
  cases e
  have b := FunD.bindsA (ps := ["_law_script"]) F2 fun _ _ _ _ _ _ us hl => match us, hl with | [_], _ => rfl
  refine ⟨fd, fun s v => b s [v] rfl, fun base _ _ => ?_⟩
  obtain ⟨fd2, F3, ok⟩ := ok_law (P := P) (w := w) (base := base) T
  obtain ⟨oc, od, dV, kV, doc, pm, an, cdv, ct, osl, e1, lk, _⟩ := F2.ex
  obtain ⟨oc2, od2, dV2, kV2, doc2, pm2, an2, cdv2, ct2, osl2, e2, lk2, _⟩ := F3.ex
  rw [lk] at lk2
  have e3 : fd = fd2 := by
    injection lk2 with q
    injection q with _ _ q _
    injection q
  rw [e3]
  exact ok
end
end Ck
open PySem PySem.W PySem.Calls PyProof.Rows
theorem PySem.Challenge.cw_corpuskeep_k16_whole_cleaning_holds : PySem.Challenge.rw_corpuskeep_k16_whole_cleaning.Holds := by
  w_on; o_law
  refine HandSHeadRun.head_any (r := OpenLaw.row PySem.Challenge.rw_corpuskeep_k16_whole_cleaning) (q := view (OpenLaw.row PySem.Challenge.rw_corpuskeep_k16_whole_cleaning).prog [90]) (H := Ck.hk) (ob := Ck.ob) (M := 6000) (loose := Ck.loose) (d := HandSHeadRun.topDef (OpenLaw.row PySem.Challenge.rw_corpuskeep_k16_whole_cleaning).prog 90) (kwd := []) Ck.ob_eq
    (by kernel_rfl) (fun s => by kernel_rfl) Ck.run (by kernel_rfl) (by kernel_rfl) (by kernel_rfl) (by rfl) (by first | assumption | decide +kernel) (by decide +kernel) ⟨rfl, rfl, rfl, rfl, rfl, by decide +kernel⟩ ?hw ?hc
  case hw => w_witness2
  case hc =>
    refine L2.walk_ofE (l := PySem.Challenge.rw_corpuskeep_k16_whole_cleaning) (n := 63) (k := 11) (x := "_law_script") (CX := L2.CX0) rfl (by decide) (by kernel_rfl) ⟨rfl, by decide, by decide⟩ ?F (fun _ _ _ _ z => z)
    intro w mg fa h Y G hmg0
    obtain ⟨K, KX, c⟩ := Y
    have hmg : mg ("law" : PySem.Str) = some (.ref fa) := by
      have e : (HandSHeadRun.topDef (OpenLaw.row PySem.Challenge.rw_corpuskeep_k16_whole_cleaning).prog 90).name = ("law" : PySem.Str) := by kernel_rfl
      rw [← e]
      exact hmg0
    obtain ⟨fd, hb, hF⟩ := Ck.facts (P := (PySem.Challenge.rw_corpuskeep_k16_whole_cleaning).prog) (w := w) KX G hmg c
    exact ⟨K, fd, Ck.sp_law K, KX, hb, fun H a ns hl _ hS => ⟨a, ns, rfl, hS, fun _ => rfl⟩, hF⟩
