import PyProof.Rows.All
import Wide.All
import OpenK.AllK
import Wide.FinOn
import HandS.ForMost
import HandS.Evl
import HandS.Style
import HandS.Wide
import HandS.Exc
import HandS.ExcOwn
import HandS.WordsExc
import HandS.Conv
import HandS.Sort
import HandS.SortInts
import HandS.Defaults
import HandS.IsInst
import HandS.EndBits
import HandS.HeadEnd
import HandS.Zip
import HandS.SortRule
import HandS.NoneIn
import HandS.Head0
import HandS.Head1
import HandS.Head2
import HandS.HeadHook1
import HandS.HeadHook2
import KE.KStateDown
import PySem.Challenge.RW_weeksums_k10_ranges_of_great_numbers
set_option Elab.async false
set_option linter.all false
set_option maxRecDepth 100000
set_option maxHeartbeats 4000000
/-! WK, part 1: worlds (a settled part and a heap), what values stand for, evaluations, loops, promises. -/
namespace WK
open PySem PySem.Spec PyProof.Rows L2

abbrev Ex := Evl.Ex
theorem exr (H : Hp) : Ex H H := Evl.Ex.refl H

/-- a world: S what is settled for good, H all that is tracked -/
structure Wd where
  S : Hp
  H : Hp
  ex : Ex S H
/-- only growth -/
structure Gr (w w' : Wd) : Prop where
  s : Ex w.S w'.S
  h : Ex w.H w'.H
  n : ∀ p, w.H p ≠ none → w.S p = none → w'.S p = none
theorem Gr.refl (w : Wd) : Gr w w := ⟨exr _, exr _, fun _ _ h => h⟩
theorem ex_ne {H H' : Hp} {p : Addr} (e : Ex H H') (h : H p ≠ none) : H' p ≠ none := by
  cases q : H p with
  | none => exact absurd q h
  | some o => rw [e p o q]; exact fun z => nomatch z
theorem Gr.trans {a b c : Wd} (x : Gr a b) (y : Gr b c) : Gr a c :=
  ⟨x.s.trans y.s, x.h.trans y.h, fun p h n => y.n p (ex_ne x.h h) (x.n p h n)⟩
/-- an own object: it may be changed -/
structure Own (w : Wd) (p : Addr) (o : HO) : Prop where
  s : w.S p = none
  h : w.H p = some o
theorem Own.ne {w : Wd} {p : Addr} {o : HO} (x : Own w p o) : w.H p ≠ none := by rw [x.h]; exact fun z => nomatch z
theorem Own.gr {w w' : Wd} {p : Addr} {o : HO} (x : Own w p o) (g : Gr w w') : Own w' p o := ⟨g.n p x.ne x.s, g.h p o x.h⟩
theorem fresh_s {w : Wd} {p : Addr} (h : w.H p = none) : w.S p = none := Evl.fresh_back w.ex h
theorem ex_upd {S : Hp} {p : Addr} {o : HO} (h : S p = none) : Ex S (upd S p o) := Evl.Ex.new h
theorem ex_upd2 {S H : Hp} {p : Addr} {o : HO} (e : Ex S H) : Ex (upd S p o) (upd H p o) := fun a u h => by
  by_cases q : a = p
  · subst q; rw [upd_same] at h ⊢; exact h
  · rw [upd_ne q] at h ⊢; exact e a u h
/-- a new own object -/
def Wd.new (w : Wd) (p : Addr) (o : HO) (h : w.H p = none) : Wd := ⟨w.S, upd w.H p o, fun a u e => Evl.Ex.new h a u (w.ex a u e)⟩
theorem gr_new {w : Wd} {p : Addr} {o : HO} (h : w.H p = none) : Gr w (w.new p o h) := ⟨exr _, Evl.Ex.new h, fun _ _ n => n⟩
theorem own_new {w : Wd} {p : Addr} {o : HO} (h : w.H p = none) : Own (w.new p o h) p o := ⟨fresh_s (w := w) h, upd_same⟩
/-- a new settled object -/
def Wd.put (w : Wd) (p : Addr) (o : HO) : Wd := ⟨upd w.S p o, upd w.H p o, ex_upd2 w.ex⟩
theorem gr_put {w : Wd} {p : Addr} {o : HO} (h : w.H p = none) : Gr w (w.put p o) :=
  ⟨ex_upd (fresh_s h), Evl.Ex.new h, fun q hq n => by
    show upd w.S p o q = none
    rw [upd_ne (show q ≠ p from fun z => hq (z ▸ h))]; exact n⟩
theorem put_s {w : Wd} {p : Addr} {o : HO} : (w.put p o).S p = some o := upd_same
/-- an own object is settled -/
def Wd.fix (w : Wd) (p : Addr) (o : HO) (h : w.H p = some o) : Wd := ⟨upd w.S p o, w.H, fun a u e => by
  by_cases q : a = p
  · subst q; rw [upd_same] at e; rw [h]; exact e
  · rw [upd_ne q] at e; exact w.ex a u e⟩
/-- what a change of the object at p leaves -/
structure Mt (p : Addr) (w w' : Wd) : Prop where
  s : Ex w.S w'.S
  gr : ∀ w0, Gr w0 w → w0.H p = none → Gr w0 w'
  own : ∀ q o, q ≠ p → Own w q o → Own w' q o
  dom : ∀ q, w.H q ≠ none → w'.H q ≠ none
theorem mt_fix {w : Wd} {p : Addr} {o : HO} (x : Own w p o) : Mt p w (w.fix p o x.h) :=
  ⟨ex_upd x.s, fun w0 g n => ⟨g.s.trans (ex_upd x.s), g.h, fun q h m => by
      show upd w.S p o q = none
      rw [upd_ne (show q ≠ p from fun z => h (z ▸ n))]; exact g.n q h m⟩,
   fun q u ne y => ⟨by show upd w.S p o q = none; rw [upd_ne ne]; exact y.s, y.h⟩, fun _ h => h⟩
theorem fix_s {w : Wd} {p : Addr} {o : HO} (h : w.H p = some o) : (w.fix p o h).S p = some o := upd_same
def Wd.set (w : Wd) (p : Addr) (o : HO) (h : w.S p = none) : Wd := ⟨w.S, upd w.H p o, fun a u e => Evl.Ex.mut w.ex h a u e⟩
theorem mt_set {w : Wd} {p : Addr} {o : HO} (h : w.S p = none) : Mt p w (w.set p o h) :=
  ⟨exr _, fun w0 g n => ⟨g.s, Evl.Ex.mut g.h n, g.n⟩, fun q u ne y => ⟨y.s, by show upd w.H p o q = some u; rw [upd_ne ne]; exact y.h⟩,
   fun q hq => by
    show upd w.H p o q ≠ none
    by_cases z : q = p
    · subst z; rw [upd_same]; exact fun z => nomatch z
    · rw [upd_ne z]; exact hq⟩
theorem own_set {w : Wd} {p : Addr} {o : HO} (h : w.S p = none) : Own (w.set p o h) p o := ⟨h, upd_same⟩
theorem Mt.trans {p : Addr} {a b c : Wd} (x : Mt p a b) (y : Mt p b c) : Mt p a c :=
  ⟨x.s.trans y.s, fun w0 g n => y.gr w0 (x.gr w0 g n) n, fun q o ne h => y.own q o ne (x.own q o ne h), fun q h => y.dom q (x.dom q h)⟩
theorem Gr.mt {p : Addr} {a b : Wd} (g : Gr a b) (h : a.H p ≠ none) : Mt p a b :=
  ⟨g.s, fun w0 x n => x.trans g, fun q o _ x => x.gr g, fun q h => ex_ne g.h h⟩
theorem Own.apart {w : Wd} {p q : Addr} {o : HO} (x : Own w p o) (h : w.H q = none) : q ≠ p := fun z => by rw [z, x.h] at h; cases h
theorem fr_back {w w' : Wd} {p : Addr} (g : Gr w w') (h : w'.H p = none) : w.H p = none := Evl.fresh_back g.h h

/-! ### what values stand for -/
structure Rep (α : Type) where
  r : PySem.W.Frag → Hp → V → α → Prop
  m : ∀ {K H H' v a}, Ex H H' → r K H v a → r K H' v a
theorem paired_mono {α : Type} {F G : V → α → Prop} {xs : List V} {l : List α} (h : Paired F xs l) (f : ∀ v a, F v a → G v a) : Paired G xs l := Paired.mapP h f
namespace Rep
def int : Rep Int := ⟨fun _ _ v a => v = .int a, fun _ h => h⟩
def bl : Rep Bool := ⟨fun _ _ v a => v = .bl a, fun _ h => h⟩
def str : Rep Str := ⟨fun _ _ v a => v = .str a, fun _ h => h⟩
def non : Rep Unit := ⟨fun _ _ v _ => v = .non, fun _ h => h⟩
def list {α : Type} (e : Rep α) : Rep (List α) := ⟨fun K H v l => ∃ a xs, v = .ref a ∧ SqL K H a xs ∧ Paired (e.r K H) xs l,
  fun x h => by obtain ⟨a, xs, e1, h1, h2⟩ := h; exact ⟨a, xs, e1, Evl.ex_l x h1, paired_mono h2 fun _ _ q => e.m x q⟩⟩
def pair {α β : Type} (e : Rep α) (f : Rep β) : Rep (α × β) := ⟨fun K H v l => ∃ a x y, v = .ref a ∧ SqT K H a [x, y] ∧ e.r K H x l.1 ∧ f.r K H y l.2,
  fun x h => by obtain ⟨a, u, v, e1, h1, h2, h3⟩ := h; exact ⟨a, u, v, e1, Evl.ex_t x h1, e.m x h2, f.m x h3⟩⟩
def opt {α : Type} (e : Rep α) : Rep (Option α) := ⟨fun K H v l => match l with
  | none => v = .non
  | some a => e.r K H v a, fun {K H H' v l} x h => by cases l with
    | none => exact h
    | some a => exact e.m x h⟩
abbrev lints : Rep (List Int) := list int
/-- a scalar: told without the heap -/
def Flat {α : Type} (e : Rep α) : Prop := ∀ K H H' v a, e.r K H v a → e.r K H' v a
theorem flat_int : Flat int := fun _ _ _ _ _ h => h
theorem flat_bl : Flat bl := fun _ _ _ _ _ h => h
theorem flat_str : Flat str := fun _ _ _ _ _ h => h
theorem flat_non : Flat non := fun _ _ _ _ _ h => h
end Rep
theorem paired_len {α : Type} {F : V → α → Prop} {xs : List V} {l : List α} (h : Paired F xs l) : xs.length = l.length := Paired.length h
theorem paired_get {α : Type} {F : V → α → Prop} : ∀ {xs : List V} {l : List α} {i : Nat} {a : α}, Paired F xs l → l[i]? = some a → ∃ v, xs[i]? = some v ∧ F v a
  | _, _, _, _, .nil, e => by simp at e
  | _, _, 0, _, .cons r _, e => by simp at e; subst e; exact ⟨_, rfl, r⟩
  | _, _, i + 1, a, .cons _ t, e => by
    obtain ⟨u, h1, h2⟩ := paired_get (i := i) (a := a) t (by simpa using e)
    exact ⟨u, by simpa using h1, h2⟩
theorem paired_get' {α : Type} {F : V → α → Prop} : ∀ {xs : List V} {l : List α} {i : Nat} {v : V}, Paired F xs l → xs[i]? = some v → ∃ a, l[i]? = some a ∧ F v a
  | _, _, _, _, .nil, e => by simp at e
  | _, _, 0, _, .cons r _, e => by simp at e; subst e; exact ⟨_, rfl, r⟩
  | _, _, i + 1, a, .cons _ t, e => by
    obtain ⟨u, h1, h2⟩ := paired_get' (i := i) t (by simpa using e)
    exact ⟨u, by simpa using h1, h2⟩
theorem paired_ints {xs : List V} {l : List Int} (h : Paired (fun v (a : Int) => v = .int a) xs l) : xs = l.map V.int := by
  induction h with
  | nil => rfl
  | cons r _ ih => rw [List.map_cons, r, ih]
theorem ints_paired (l : List Int) : Paired (fun v (a : Int) => v = .int a) (l.map V.int) l := by
  induction l with
  | nil => exact .nil
  | cons a r ih => exact .cons rfl ih
theorem paired_bls {xs : List V} {l : List Bool} (h : Paired (fun v (a : Bool) => v = .bl a) xs l) : xs = l.map V.bl := by
  induction h with
  | nil => rfl
  | cons r _ ih => rw [List.map_cons, r, ih]
theorem paired_set {α : Type} {F : V → α → Prop} {v : V} {a : α} (r : F v a) : ∀ {xs : List V} {l : List α} (i : Nat), Paired F xs l → Paired F (xs.set i v) (l.set i a)
  | _, _, _, .nil => .nil
  | _, _, 0, .cons _ t => .cons r t
  | _, _, i + 1, .cons q t => .cons q (paired_set r i t)
theorem paired_app {α : Type} {F : V → α → Prop} : ∀ {xs ys : List V} {l m : List α}, Paired F xs l → Paired F ys m → Paired F (xs ++ ys) (l ++ m)
  | _, _, _, _, .nil, s => s
  | _, _, _, _, .cons r t, s => .cons r (paired_app t s)
theorem paired_drop {α : Type} {F : V → α → Prop} : ∀ {xs : List V} {l : List α} (n : Nat), Paired F xs l → Paired F (xs.drop n) (l.drop n)
  | _, _, 0, r => r
  | _, _, _ + 1, .nil => .nil
  | _, _, n + 1, .cons _ t => paired_drop n t
theorem paired_take {α : Type} {F : V → α → Prop} : ∀ {xs : List V} {l : List α} (n : Nat), Paired F xs l → Paired F (xs.take n) (l.take n)
  | _, _, 0, _ => .nil
  | _, _, _ + 1, .nil => .nil
  | _, _, n + 1, .cons r t => .cons r (paired_take n t)
theorem paired_rev {α : Type} {F : V → α → Prop} {xs : List V} {l : List α} (h : Paired F xs l) : Paired F xs.reverse l.reverse := by
  induction h with
  | nil => exact .nil
  | cons r t ih => rw [List.reverse_cons, List.reverse_cons]; exact paired_app ih (.cons r .nil)
theorem paired_rep {α : Type} {F : V → α → Prop} {v : V} {a : α} (r : F v a) : ∀ n, Paired F (List.replicate n v) (List.replicate n a)
  | 0 => .nil
  | n + 1 => .cons r (paired_rep r n)

/-- an own list -/
def OwnL {α : Type} (K : PySem.W.Frag) (w : Wd) (p : Addr) (e : Rep α) (l : List α) : Prop := ∃ xs, Own w p (.lst xs) ∧ Paired (e.r K w.S) xs l
theorem OwnL.gr {α : Type} {K : PySem.W.Frag} {w w' : Wd} {p : Addr} {e : Rep α} {l : List α} (h : OwnL K w p e l) (g : Gr w w') : OwnL K w' p e l := by
  obtain ⟨xs, a, b⟩ := h
  exact ⟨xs, a.gr g, paired_mono b fun _ _ q => e.m g.s q⟩
theorem OwnL.mt {α : Type} {K : PySem.W.Frag} {w w' : Wd} {p q : Addr} {e : Rep α} {l : List α} (h : OwnL K w q e l) (g : Mt p w w') (ne : q ≠ p) : OwnL K w' q e l := by
  obtain ⟨xs, a, b⟩ := h
  exact ⟨xs, g.own _ _ ne a, paired_mono b fun _ _ q => e.m g.s q⟩
theorem OwnL.ne {α : Type} {K : PySem.W.Frag} {w : Wd} {p : Addr} {e : Rep α} {l : List α} (h : OwnL K w p e l) : w.H p ≠ none := by obtain ⟨xs, a, b⟩ := h; exact a.ne
theorem OwnL.apart {α : Type} {K : PySem.W.Frag} {w : Wd} {p q : Addr} {e : Rep α} {l : List α} (h : OwnL K w p e l) (z : w.H q = none) : q ≠ p := fun x => h.ne (x ▸ z)
/-- settled: a list as a value -/
theorem OwnL.fix {α : Type} {K : PySem.W.Frag} {w : Wd} {p : Addr} {e : Rep α} {l : List α} (h : OwnL K w p e l) : ∃ w', w'.H = w.H ∧ Mt p w w' ∧ (Rep.list e).r K w'.S (.ref p) l := by
  obtain ⟨xs, a, b⟩ := h
  exact ⟨w.fix p _ a.h, rfl, mt_fix a, p, xs, rfl, SqL.of (fix_s a.h), paired_mono b fun _ _ q => e.m (mt_fix a).s q⟩

/-! ### evaluations -/
section
variable (K : PySem.W.Frag)
def EvD {α : Type} (te : TE) (σ : L2.St) (w : Wd) (r : Rep α) (a : α) : Prop := ∀ w1, Gr w w1 → ∀ Q : VK, (∀ v w2, Gr w1 w2 → r.r K w2.S v a → Q v w2.H) → te σ w1.H Q
def EvN {α : Type} (te : TE) (σ : L2.St) (w : Wd) (e : Rep α) (l : List α) : Prop := ∀ w1, Gr w w1 → ∀ Q : VK, (∀ p w2, Gr w1 w2 → w1.H p = none → OwnL K w2 p e l → Q (.ref p) w2.H) → te σ w1.H Q
def EvT (_K : PySem.W.Frag) (t : TT) (σ : L2.St) (w : Wd) (b : Bool) : Prop := ∀ w1, Gr w w1 → ∀ Q : Bool → Hp → Prop, (∀ w2, Gr w1 w2 → Q b w2.H) → t σ w1.H Q
def EvO (_K : PySem.W.Frag) (t : TO) (σ : L2.St) (w : Wd) (o : Option Int) : Prop := ∀ w1, Gr w w1 → ∀ Q : Option Int → Hp → Prop, (∀ w2, Gr w1 w2 → Q o w2.H) → t σ w1.H Q
end
section
variable {K : PySem.W.Frag} {σ : L2.St} {w w' : Wd} {ta tb tc te : TE} {t u : TT} {α β γ δ : Type} {r : Rep α} {rb : Rep β} {a : α}
theorem EvD.gr (h : EvD K te σ w r a) (g : Gr w w') : EvD K te σ w' r a := fun w1 x => h w1 (g.trans x)
theorem EvN.gr {l : List α} (h : EvN K te σ w r l) (g : Gr w w') : EvN K te σ w' r l := fun w1 x => h w1 (g.trans x)
theorem EvT.gr {b : Bool} (h : EvT K t σ w b) (g : Gr w w') : EvT K t σ w' b := fun w1 x => h w1 (g.trans x)
theorem EvD.run (h : EvD K te σ w r a) {Q : VK} (k : ∀ v w2, Gr w w2 → r.r K w2.S v a → Q v w2.H) : te σ w.H Q := h w (Gr.refl w) Q k
theorem EvN.run {l : List α} (h : EvN K te σ w r l) {Q : VK} (k : ∀ p w2, Gr w w2 → w.H p = none → OwnL K w2 p r l → Q (.ref p) w2.H) : te σ w.H Q := h w (Gr.refl w) Q k
theorem EvT.run {b : Bool} (h : EvT K t σ w b) {Q : Bool → Hp → Prop} (k : ∀ w2, Gr w w2 → Q b w2.H) : t σ w.H Q := h w (Gr.refl w) Q k
theorem EvN.d {l : List α} (h : EvN K te σ w r l) : EvD K te σ w (Rep.list r) l := fun w1 x Q q => h w1 x _ fun p w2 g n o => by
  obtain ⟨w3, e, m, rr⟩ := o.fix
  rw [← e]
  exact q _ w3 (m.gr w1 g n) rr
theorem EvD.eq {b : α} (h : EvD K te σ w r a) (e : a = b) : EvD K te σ w r b := e ▸ h
theorem EvN.eq {l l' : List α} (h : EvN K te σ w r l) (e : l = l') : EvN K te σ w r l' := e ▸ h
theorem EvT.eq {b c : Bool} (h : EvT K t σ w b) (e : b = c) : EvT K t σ w c := e ▸ h
theorem ev_var {i : Nat} {v : V} (h : σ[i]? = some (some v)) (hr : r.r K w.S v a) : EvD K (tVar i) σ w r a := fun w1 g Q q => ⟨v, h, q v w1 (Gr.refl _) (r.m g.s hr)⟩
theorem ev_int {i : Int} : EvD K (tC (.int i)) σ w Rep.int i := fun w1 _ Q q => q _ w1 (Gr.refl _) rfl
theorem ev_bl {b : Bool} : EvD K (tC (.bl b)) σ w Rep.bl b := fun w1 _ Q q => q _ w1 (Gr.refl _) rfl
theorem ev_str {b : Str} : EvD K (tC (.str b)) σ w Rep.str b := fun w1 _ Q q => q _ w1 (Gr.refl _) rfl
theorem ev_non : EvD K (tC .non) σ w Rep.non () := fun w1 _ Q q => q _ w1 (Gr.refl _) rfl
theorem ev_none : EvD K (tC .non) σ w (Rep.opt r) none := fun w1 _ Q q => q _ w1 (Gr.refl _) rfl
theorem ev_some (h : EvD K te σ w r a) : EvD K te σ w (Rep.opt r) (some a) := fun w1 g Q q => h w1 g Q fun v w2 g2 x => q v w2 g2 x
/-- two ints -/
theorem ev_I0 {f : Int → Int → V} {x y : Int} {rr : Rep γ} {z : γ} (ha : EvD K ta σ w Rep.int x) (hb : EvD K tb σ w Rep.int y) (hz : ∀ H, rr.r K H (f x y) z) : EvD K (tOp (rI0 f) ta tb) σ w rr z := fun w1 g Q q =>
  ha w1 g _ fun v w2 g2 e => hb w2 (g.trans g2) _ fun v' w3 g3 e' => ⟨x, y, e, e', q _ w3 (g2.trans g3) (hz _)⟩
theorem ev_add {x y : Int} (ha : EvD K ta σ w Rep.int x) (hb : EvD K tb σ w Rep.int y) : EvD K (tOp (rI0 fun i j => .int (i + j)) ta tb) σ w Rep.int (x + y) := ev_I0 ha hb fun _ => rfl
theorem ev_sub {x y : Int} (ha : EvD K ta σ w Rep.int x) (hb : EvD K tb σ w Rep.int y) : EvD K (tOp (rI0 fun i j => .int (i - j)) ta tb) σ w Rep.int (x - y) := ev_I0 ha hb fun _ => rfl
theorem ev_lt {x y : Int} (ha : EvD K ta σ w Rep.int x) (hb : EvD K tb σ w Rep.int y) : EvD K (tOp (rI0 fun i j => .bl (decide (i < j))) ta tb) σ w Rep.bl (decide (x < y)) := ev_I0 ha hb fun _ => rfl
theorem ev_le {x y : Int} (ha : EvD K ta σ w Rep.int x) (hb : EvD K tb σ w Rep.int y) : EvD K (tOp (rI0 fun i j => .bl (decide (i ≤ j))) ta tb) σ w Rep.bl (decide (x ≤ y)) := ev_I0 ha hb fun _ => rfl
theorem ev_I {C : Int → Int → Prop} {f : Int → Int → V} {x y : Int} {rr : Rep γ} {z : γ} (ha : EvD K ta σ w Rep.int x) (hb : EvD K tb σ w Rep.int y) (hc : C x y) (hz : ∀ H, rr.r K H (f x y) z) : EvD K (tOp (rI C f) ta tb) σ w rr z := fun w1 g Q q =>
  ha w1 g _ fun v w2 g2 e => hb w2 (g.trans g2) _ fun v' w3 g3 e' => ⟨x, y, e, e', hc, q _ w3 (g2.trans g3) (hz _)⟩
theorem ev_Ii {C : Int → Int → Prop} {f : Int → Int → Int} {x y : Int} (ha : EvD K ta σ w Rep.int x) (hb : EvD K tb σ w Rep.int y) (hc : C x y) : EvD K (tOp (rI C fun i j => .int (f i j)) ta tb) σ w Rep.int (f x y) := ev_I ha hb hc fun _ => rfl
theorem ev_neg {x : Int} (ha : EvD K ta σ w Rep.int x) : EvD K (tUn (rU fun i => .int (-i)) ta) σ w Rep.int (-x) := fun w1 g Q q => ha w1 g _ fun v w2 g2 e => ⟨x, e, q _ w2 g2 rfl⟩
/-- == of ints, texts, bools, None -/
theorem ev_eqI {x y : Int} (ha : EvD K ta σ w Rep.int x) (hb : EvD K tb σ w Rep.int y) : EvD K (tOp rEq ta tb) σ w Rep.bl (decide (x = y)) := fun w1 g Q q =>
  ha w1 g _ fun v w2 g2 e => hb w2 (g.trans g2) _ fun v' w3 g3 e' => by
    cases e; cases e'
    refine ⟨rfl, ?_⟩
    have z : decide (V.int x = V.int y) = decide (x = y) := by
      by_cases h : x = y
      · subst h; simp
      · rw [decide_eq_false h, decide_eq_false (fun z => h (V.int.inj z))]
    rw [z]
    exact q _ w3 (g2.trans g3) rfl
theorem ev_neI {x y : Int} (ha : EvD K ta σ w Rep.int x) (hb : EvD K tb σ w Rep.int y) : EvD K (tOp rNe ta tb) σ w Rep.bl (!decide (x = y)) := fun w1 g Q q =>
  ha w1 g _ fun v w2 g2 e => hb w2 (g.trans g2) _ fun v' w3 g3 e' => by
    cases e; cases e'
    refine ⟨rfl, ?_⟩
    have z : decide (V.int x = V.int y) = decide (x = y) := by
      by_cases h : x = y
      · subst h; simp
      · rw [decide_eq_false h, decide_eq_false (fun z => h (V.int.inj z))]
    rw [z]
    exact q _ w3 (g2.trans g3) rfl
theorem ev_eqS {x y : Str} (ha : EvD K ta σ w Rep.str x) (hb : EvD K tb σ w Rep.str y) : EvD K (tOp rEq ta tb) σ w Rep.bl (decide (x = y)) := fun w1 g Q q =>
  ha w1 g _ fun v w2 g2 e => hb w2 (g.trans g2) _ fun v' w3 g3 e' => by
    cases e; cases e'
    refine ⟨rfl, ?_⟩
    have z : decide (V.str x = V.str y) = decide (x = y) := by
      by_cases h : x = y
      · subst h; simp
      · rw [decide_eq_false h, decide_eq_false (fun z => h (V.str.inj z))]
    rw [z]
    exact q _ w3 (g2.trans g3) rfl
theorem ev_neS {x y : Str} (ha : EvD K ta σ w Rep.str x) (hb : EvD K tb σ w Rep.str y) : EvD K (tOp rNe ta tb) σ w Rep.bl (!decide (x = y)) := fun w1 g Q q =>
  ha w1 g _ fun v w2 g2 e => hb w2 (g.trans g2) _ fun v' w3 g3 e' => by
    cases e; cases e'
    refine ⟨rfl, ?_⟩
    have z : decide (V.str x = V.str y) = decide (x = y) := by
      by_cases h : x = y
      · subst h; simp
      · rw [decide_eq_false h, decide_eq_false (fun z => h (V.str.inj z))]
    rw [z]
    exact q _ w3 (g2.trans g3) rfl
/-- x is None, x is not None, of what may be None -/
def Rep.NN (r : Rep α) : Prop := ∀ K H v a, r.r K H v a → v ≠ .non
theorem ev_isN {o : Option α} (hn : r.NN) (ha : EvD K ta σ w (Rep.opt r) o) : EvD K (tOp (fun x y H Q => y = .non ∧ Q (.bl (decide (x = .non))) H) ta (tC .non)) σ w Rep.bl o.isNone := fun w1 g Q q =>
  ha w1 g _ fun v w2 g2 e => ⟨rfl, by
    cases o with
    | none => cases (show v = .non from e); exact q _ w2 g2 rfl
    | some a => rw [decide_eq_false (hn _ _ _ _ e)]; exact q _ w2 g2 rfl⟩
theorem ev_notN {o : Option α} (hn : r.NN) (ha : EvD K ta σ w (Rep.opt r) o) : EvD K (tOp (fun x y H Q => y = .non ∧ Q (.bl (!decide (x = .non))) H) ta (tC .non)) σ w Rep.bl o.isSome := fun w1 g Q q =>
  ha w1 g _ fun v w2 g2 e => ⟨rfl, by
    cases o with
    | none => cases (show v = .non from e); exact q _ w2 g2 rfl
    | some a => rw [decide_eq_false (hn _ _ _ _ e)]; exact q _ w2 g2 rfl⟩
theorem nn_list {r : Rep α} : (Rep.list r).NN := fun _ _ _ _ h e => by obtain ⟨_, _, z, _⟩ := h; rw [z] at e; cases e
theorem nn_pair {r : Rep α} {s : Rep β} : (Rep.pair r s).NN := fun _ _ _ _ h e => by obtain ⟨_, _, _, z, _⟩ := h; rw [z] at e; cases e
theorem nn_int : Rep.int.NN := fun _ _ _ _ h e => by rw [h] at e; cases e
theorem nn_bl : Rep.bl.NN := fun _ _ _ _ h e => by rw [h] at e; cases e
theorem nn_str : Rep.str.NN := fun _ _ _ _ h e => by rw [h] at e; cases e
/-! tests -/
theorem et_test {b : Bool} (h : EvD K te σ w Rep.bl b) : EvT K (tTest te) σ w b := fun w1 g Q q => h w1 g _ fun v w2 g2 e => ⟨b, e, q w2 g2⟩
theorem et_B {b : Bool} (h : EvD K te σ w Rep.bl b) : EvT K (tB te) σ w b := fun w1 g Q q => h w1 g _ fun v w2 g2 e => ⟨b, e, q w2 g2⟩
theorem et_not {b : Bool} (h : EvT K t σ w b) : EvT K (tNot t) σ w (!b) := fun w1 g Q q => h w1 g _ fun w2 g2 => q w2 g2
theorem et_and {a b : Bool} (h1 : EvT K t σ w a) (h2 : a = true → EvT K u σ w b) : EvT K (tAnd t u) σ w (a && b) := fun w1 g Q q => h1 w1 g _ fun w2 g2 => by
  cases a with
  | true => exact h2 rfl w2 (g.trans g2) Q fun w3 g3 => q w3 (g2.trans g3)
  | false => exact q w2 g2
theorem et_or {a b : Bool} (h1 : EvT K t σ w a) (h2 : a = false → EvT K u σ w b) : EvT K (tOr t u) σ w (a || b) := fun w1 g Q q => h1 w1 g _ fun w2 g2 => by
  cases a with
  | true => exact q w2 g2
  | false => exact h2 rfl w2 (g.trans g2) Q fun w3 g3 => q w3 (g2.trans g3)
theorem et_yes : EvT K tYes σ w true := fun w1 _ Q q => q w1 (Gr.refl _)
theorem ev_andV {a b : Bool} (h1 : EvD K ta σ w Rep.bl a) (h2 : a = true → EvD K tb σ w Rep.bl b) : EvD K (tAndV ta tb) σ w Rep.bl (a && b) := fun w1 g Q q => h1 w1 g _ fun v w2 g2 e => ⟨a, e, by
  cases a with
  | true => exact h2 rfl w2 (g.trans g2) Q fun v w3 g3 x => q v w3 (g2.trans g3) x
  | false => exact q _ w2 g2 rfl⟩
theorem ev_orV {a b : Bool} (h1 : EvD K ta σ w Rep.bl a) (h2 : a = false → EvD K tb σ w Rep.bl b) : EvD K (tOrV ta tb) σ w Rep.bl (a || b) := fun w1 g Q q => h1 w1 g _ fun v w2 g2 e => ⟨a, e, by
  cases a with
  | true => exact q _ w2 g2 rfl
  | false => exact h2 rfl w2 (g.trans g2) Q fun v w3 g3 x => q v w3 (g2.trans g3) x⟩
theorem ev_notV {a : Bool} (h1 : EvD K ta σ w Rep.bl a) : EvD K (tNotV ta) σ w Rep.bl (!a) := fun w1 g Q q => h1 w1 g _ fun v w2 g2 e => ⟨a, e, q _ w2 g2 rfl⟩
theorem ev_if {b : Bool} {x : α} (h : EvT K t σ w b) (h1 : b = true → EvD K ta σ w r x) (h2 : b = false → EvD K tb σ w r x) : EvD K (tIf t ta tb) σ w r x := fun w1 g Q q => h w1 g _ fun w2 g2 => by
  cases b with
  | true => exact h1 rfl w2 (g.trans g2) Q fun v w3 g3 x => q v w3 (g2.trans g3) x
  | false => exact h2 rfl w2 (g.trans g2) Q fun v w3 g3 x => q v w3 (g2.trans g3) x
theorem ev_ifV {b : Bool} {x y : α} (h : EvT K t σ w b) (h1 : b = true → EvD K ta σ w r x) (h2 : b = false → EvD K tb σ w r y) : EvD K (tIf t ta tb) σ w r (if b = true then x else y) :=
  ev_if h (fun e => (h1 e).eq (by rw [e, if_pos rfl])) (fun e => (h2 e).eq (by rw [e, if_neg (by decide)]))
/-- a chain of two comparisons, as a value, as a test -/
theorem ev_chain {rr rr' : R2} {x y z : Int} {p q : Bool} (ha : EvD K ta σ w Rep.int x) (hb : EvD K tb σ w Rep.int y) (hc : EvD K tc σ w Rep.int z)
    (h1 : ∀ H Q, Q (.bl p) H → rr (.int x) (.int y) H Q) (h2 : ∀ H Q, Q (.bl q) H → rr' (.int y) (.int z) H Q) : EvD K (tChain rr rr' ta tb tc) σ w Rep.bl (p && q) := fun w1 g Q k =>
  ha w1 g _ fun v w2 g2 e => hb w2 (g.trans g2) _ fun v' w3 g3 e' => by
    cases e; cases e'
    refine h1 _ _ ⟨p, rfl, ?_⟩
    cases p with
    | true =>
      exact hc w3 ((g.trans g2).trans g3) _ fun v2 w4 g4 e2 => by
        cases e2
        exact h2 _ _ (k _ w4 ((g2.trans g3).trans g4) rfl)
    | false => exact k _ w3 (g2.trans g3) rfl
end
end WK

/-! WK, part 2: lists, tuples, loops, comprehensions. -/
namespace WK
open PySem PySem.Spec PyProof.Rows L2

theorem sz5 {n : Nat} (h : n ≤ 100000) : n ≤ sizeLine := Nat.le_trans h (by decide)
theorem sz5' {n : Nat} (h : n < 100000) : n < sizeLine := Nat.lt_of_lt_of_le h (by decide)
section
variable {K : PySem.W.Frag} {σ : L2.St} {w w' : Wd} {ta tb tc te tl : TE} {t u : TT} {α β γ δ : Type} {r : Rep α} {rb : Rep β} {rc : Rep γ} {a : α} {e : Rep α} {l : List α}

/-- an own list read as if it were settled, for a scalar -/
theorem peek_run {p : Addr} {xs : List V} {w w1 : Wd} (o : Own w p (.lst xs)) (g : Gr w w1) : Gr (w.fix p _ o.h) (w1.fix p _ (o.gr g).h) :=
  ⟨ex_upd2 g.s, g.h, fun q hq hn => by
    show upd w1.S p _ q = none
    by_cases z : q = p
    · subst z; have : upd w.S q (.lst xs) q = none := hn; rw [upd_same] at this; cases this
    · rw [upd_ne z]; have : upd w.S p (.lst xs) q = none := hn; rw [upd_ne z] at this; exact g.n q hq this⟩
def Wd.off (w : Wd) (p : Addr) : Wd := ⟨fun q => if q = p then none else w.S q, w.H, fun a u h => by
  have h : (if a = p then none else w.S a) = some u := h
  by_cases z : a = p
  · rw [if_pos z] at h; cases h
  · rw [if_neg z] at h; exact w.ex a u h⟩
theorem off_gr {p : Addr} {xs : List V} {w1 w2 : Wd} (o : Own w1 p (.lst xs)) (g : Gr (w1.fix p _ o.h) w2) : Gr w1 (w2.off p) :=
  ⟨fun a u h => by
    have z : a ≠ p := fun q => by rw [q, o.s] at h; cases h
    show (if a = p then none else w2.S a) = some u
    rw [if_neg z]
    exact g.s a u (by show upd w1.S p _ a = some u; rw [upd_ne z]; exact h), g.h, fun q hq hn => by
    show (if q = p then none else w2.S q) = none
    by_cases z : q = p
    · rw [if_pos z]
    · rw [if_neg z]; exact g.n q hq (by show upd w1.S p _ q = none; rw [upd_ne z]; exact hn)⟩
theorem ev_peek {p : Addr} (o : OwnL K w p e l) (hf : rb.Flat) {b : β} (h : ∀ w', Mt p w w' → (Rep.list e).r K w'.S (.ref p) l → EvD K te σ w' rb b) : EvD K te σ w rb b := fun w1 g Q q => by
  obtain ⟨xs, ow, hp⟩ := o
  have h1 := h (w.fix p _ ow.h) (mt_fix ow) ⟨p, xs, rfl, SqL.of (fix_s ow.h), paired_mono hp fun _ _ x => e.m (mt_fix ow).s x⟩
  exact h1 (w1.fix p _ (ow.gr g).h) (peek_run ow g) Q fun v w2 g2 x => q v (w2.off p) (off_gr (ow.gr g) g2) (hf _ _ _ _ _ x)
theorem et_peek {p : Addr} (o : OwnL K w p e l) {b : Bool} (h : ∀ w', Mt p w w' → (Rep.list e).r K w'.S (.ref p) l → EvT K t σ w' b) : EvT K t σ w b := fun w1 g Q q => by
  obtain ⟨xs, ow, hp⟩ := o
  have h1 := h (w.fix p _ ow.h) (mt_fix ow) ⟨p, xs, rfl, SqL.of (fix_s ow.h), paired_mono hp fun _ _ x => e.m (mt_fix ow).s x⟩
  exact h1 (w1.fix p _ (ow.gr g).h) (peek_run ow g) Q fun w2 g2 => q (w2.off p) (off_gr (ow.gr g) g2)

/-! ### displays -/
/-- arguments: a list of values, each standing for what it stands for -/
def EvA (K : PySem.W.Frag) (ta : TA) (σ : L2.St) (w : Wd) (P : Hp → List V → Prop) : Prop := ∀ w1, Gr w w1 → ∀ Q : List V → Hp → Prop, (∀ vs w2, Gr w1 w2 → P w2.S vs → Q vs w2.H) → ta σ w1.H Q
theorem ea_nil : EvA K tNil σ w (fun _ vs => vs = []) := fun w1 _ Q q => q _ w1 (Gr.refl _) rfl
theorem ea_cons {tr : TA} {P : Hp → List V → Prop} (h : EvD K te σ w r a) (hr : EvA K tr σ w P) : EvA K (tCons te tr) σ w (fun S vs => ∃ v r', vs = v :: r' ∧ r.r K S v a ∧ P S r') := fun w1 g Q q =>
  h w1 g _ fun v w2 g2 x => hr w2 (g.trans g2) _ fun r' w3 g3 y => q _ w3 (g2.trans g3) ⟨v, r', rfl, r.m g3.s x, y⟩
/-- items of one kind -/
def EvL (K : PySem.W.Frag) (ta : TA) (σ : L2.St) (w : Wd) (e : Rep α) (l : List α) : Prop := EvA K ta σ w (fun S vs => Paired (e.r K S) vs l)
theorem el_nil : EvL K tNil σ w e [] := fun w1 _ Q q => q _ w1 (Gr.refl _) .nil
theorem el_cons {tr : TA} (h : EvD K te σ w e a) (hr : EvL K tr σ w e l) : EvL K (tCons te tr) σ w e (a :: l) := fun w1 g Q q =>
  h w1 g _ fun v w2 g2 x => hr w2 (g.trans g2) _ fun r' w3 g3 y => q _ w3 (g2.trans g3) (.cons (e.m g3.s x) y)
theorem en_lst {tr : TA} (h : EvL K tr σ w e l) (hz : l.length ≤ 100000 := by first | decide | simp) : EvN K (tLst tr) σ w e l := fun w1 g Q q =>
  h w1 g _ fun vs w2 g2 x => ⟨by rw [paired_len x]; exact sz5 hz, fun p hp => q p (w2.new p _ hp) (g2.trans (gr_new hp)) (fr_back g2 hp) ⟨vs, own_new hp, paired_mono x fun _ _ z => z⟩⟩
theorem ev_pair {b : β} (h : EvD K ta σ w r a) (h2 : EvD K tb σ w rb b) : EvD K (tTup (tCons ta (tCons tb tNil))) σ w (Rep.pair r rb) (a, b) := fun w1 g Q q =>
  h w1 g _ fun v w2 g2 x => h2 w2 (g.trans g2) _ fun v' w3 g3 y => ⟨by show 2 ≤ sizeLine; decide, fun p hp =>
    q _ (w3.put p _) ((g2.trans g3).trans (gr_put hp)) ⟨p, v, v', rfl, SqT.of put_s, r.m (g3.s.trans (gr_put hp).s) x, rb.m (gr_put hp).s y⟩⟩
/-! ### reading -/
theorem ev_len (h : EvD K ta σ w (Rep.list e) l) : EvD K (tCB (Evl.rLenS K) (tCons ta tNil)) σ w Rep.int (l.length : Int) := fun w1 g Q q =>
  h w1 g _ fun v w2 g2 x => by
    obtain ⟨a, xs, rfl, hs, hp⟩ := x
    refine ⟨a, xs, rfl, .inl (Evl.ex_l w2.ex hs), q _ w2 g2 ?_⟩
    rw [paired_len hp]; exact rfl
theorem ev_ix {i : Int} {x : α} (h : EvD K ta σ w (Rep.list e) l) (hi : EvD K tb σ w Rep.int i) (hx : atI l i = some x) : EvD K (tOp (rIxL K) ta tb) σ w e x := fun w1 g Q q =>
  h w1 g _ fun v w2 g2 z => hi w2 (g.trans g2) _ fun v' w3 g3 z' => by
    cases z'
    obtain ⟨a, xs, rfl, hs, hp⟩ := z
    unfold atI at hx
    obtain ⟨j, hj, hx⟩ := Option.bind_eq_some_iff.mp hx
    obtain ⟨v, hv, hr⟩ := paired_get hp hx
    refine ⟨a, xs, i, v, rfl, rfl, Evl.ex_l (g3.s.trans w3.ex) hs, ?_, q v w3 (g2.trans g3) (e.m g3.s hr)⟩
    unfold atI
    rw [paired_len hp, hj]
    exact hv
theorem atI_of {x : α} {j : Nat} (h : l[j]? = some x) : atI l (j : Int) = some x := by
  have hj := (List.getElem?_eq_some_iff.mp h).1
  unfold atI
  rw [Evl.ixN_nat hj]
  exact h
theorem atI_int {x : α} {i : Int} (h0 : 0 ≤ i) (h : l[i.toNat]? = some x) : atI l i = some x := by
  have := atI_of h
  rwa [Int.toNat_of_nonneg h0] at this
theorem atI_neg {x : α} {j : Nat} (hj : 0 < j) (h : l[l.length - j]? = some x) (hl : j ≤ l.length) : atI l (-(j : Int)) = some x := by
  unfold atI ixN
  rw [if_neg (by omega), if_pos (by omega)]
  have : (-(j : Int) + (l.length : Int)).toNat = l.length - j := by omega
  rw [this]
  exact h
theorem ev_fst {x : α × β} (h : EvD K ta σ w (Rep.pair r rb) x) (hi : EvD K tb σ w Rep.int 0) : EvD K (tOp (rIxT K) ta tb) σ w r x.1 := fun w1 g Q q =>
  h w1 g _ fun v w2 g2 z => hi w2 (g.trans g2) _ fun v' w3 g3 z' => by
    cases z'
    obtain ⟨a, u, v, rfl, hs, h1, h2⟩ := z
    exact ⟨a, [u, v], 0, u, rfl, rfl, Evl.ex_t (g3.s.trans w3.ex) hs, rfl, q u w3 (g2.trans g3) (r.m g3.s h1)⟩
theorem ev_snd {x : α × β} (h : EvD K ta σ w (Rep.pair r rb) x) (hi : EvD K tb σ w Rep.int 1) : EvD K (tOp (rIxT K) ta tb) σ w rb x.2 := fun w1 g Q q =>
  h w1 g _ fun v w2 g2 z => hi w2 (g.trans g2) _ fun v' w3 g3 z' => by
    cases z'
    obtain ⟨a, u, v, rfl, hs, h1, h2⟩ := z
    exact ⟨a, [u, v], 1, v, rfl, rfl, Evl.ex_t (g3.s.trans w3.ex) hs, rfl, q v w3 (g2.trans g3) (rb.m g3.s h2)⟩
/-- slices -/
theorem eo_none : EvO K tNoPart σ w none := fun w1 _ Q q => q w1 (Gr.refl _)
theorem eo_some {i : Int} (h : EvD K te σ w Rep.int i) : EvO K (tPart te) σ w (some i) := fun w1 g Q q => h w1 g _ fun v w2 g2 x => ⟨i, x, q w2 g2⟩
def cut (l : List α) (lo hi : Option Int) : List α := (l.drop (HT.sIx l.length 0 lo)).take (HT.sIx l.length l.length hi - HT.sIx l.length 0 lo)
theorem paired_cut {F : V → α → Prop} {xs : List V} (h : Paired F xs l) (lo hi : Option Int) : Paired F (cutV xs lo hi) (cut l lo hi) := by
  unfold cutV cut
  rw [paired_len h]
  exact paired_take _ (paired_drop _ h)
theorem en_sl {tlo thi : TO} {lo hi : Option Int} (h : EvD K te σ w (Rep.list e) l) (h1 : EvO K tlo σ w lo) (h2 : EvO K thi σ w hi) : EvN K (tSl (rSlL K) te tlo thi) σ w e (cut l lo hi) := fun w1 g Q q =>
  h w1 g _ fun v w2 g2 x => h1 w2 (g.trans g2) _ fun w3 g3 => h2 w3 ((g.trans g2).trans g3) _ fun w4 g4 => by
    obtain ⟨a, xs, rfl, hs, hp⟩ := x
    refine ⟨a, xs, rfl, Evl.ex_l ((g3.s.trans g4.s).trans w4.ex) hs, fun p np => ?_⟩
    exact q p (w4.new p _ np) (((g2.trans g3).trans g4).trans (gr_new np)) (fr_back ((g2.trans g3).trans g4) np) ⟨_, own_new np, paired_cut (paired_mono hp fun _ _ z => e.m (g3.s.trans g4.s) z) lo hi⟩
theorem cut_to {n : Nat} (h : n ≤ l.length) : cut l none (some (n : Int)) = l.take n := by
  unfold cut
  rw [HT.sIx_none, HT.sIx_nat, Nat.min_eq_left h]; simp
theorem cut_from {n : Nat} : cut l (some (n : Int)) none = l.drop n := by
  unfold cut
  rw [HT.sIx_none, HT.sIx_nat]
  by_cases h : n ≤ l.length
  · rw [Nat.min_eq_left h]; exact List.take_of_length_le (by simp)
  · rw [Nat.min_eq_right (by omega), List.drop_length, List.drop_of_length_le (show l.length ≤ n by omega), List.take_nil]
theorem cut_ft {n m : Nat} (h : m ≤ l.length) : cut l (some (n : Int)) (some (m : Int)) = (l.drop n).take (m - n) := by
  unfold cut
  rw [HT.sIx_nat, HT.sIx_nat, Nat.min_eq_left h]
  by_cases hn : n ≤ l.length
  · rw [Nat.min_eq_left hn]
  · rw [Nat.min_eq_right (by omega), List.drop_of_length_le (Nat.le_refl _), List.drop_of_length_le (by omega)]; simp
theorem cut_all : cut l none none = l := by unfold cut; rw [HT.sIx_none, HT.sIx_none]; simp
theorem en_rev (h : EvD K te σ w (Rep.list e) l) : EvN K (tRevL K te) σ w e l.reverse := fun w1 g Q q =>
  h w1 g _ fun v w2 g2 x => by
    obtain ⟨a, xs, rfl, hs, hp⟩ := x
    exact ⟨a, xs, rfl, Evl.ex_l w2.ex hs, fun p np => q p (w2.new p _ np) (g2.trans (gr_new np)) (fr_back g2 np) ⟨_, own_new np, paired_rev hp⟩⟩
/-- list(xs) -/
theorem en_list (h : EvD K te σ w (Rep.list e) l) : EvN K (tCB (Evl.rListS K) (tCons te tNil)) σ w e l := fun w1 g Q q =>
  h w1 g _ fun v w2 g2 x => by
    obtain ⟨a, xs, rfl, hs, hp⟩ := x
    exact ⟨a, xs, rfl, .inl (Evl.ex_l w2.ex hs), fun p np => q p (w2.new p _ np) (g2.trans (gr_new np)) (fr_back g2 np) ⟨_, own_new np, hp⟩⟩
/-- xs + ys -/
theorem en_cat {m : List α} (h : EvN K ta σ w e l) (h2 : EvN K tb σ w e m) (hz : l.length + m.length ≤ 100000) : EvN K (tOp rCat ta tb) σ w e (l ++ m) := fun w1 g Q q =>
  h w1 g _ fun p w2 g2 n2 o2 => h2 w2 (g.trans g2) _ fun p' w3 g3 n3 o3 => by
    obtain ⟨xs, ox, hx⟩ := o2.gr g3
    obtain ⟨ys, oy, hy⟩ := o3
    refine ⟨p, p', xs, ys, rfl, rfl, ox.h, oy.h, by rw [paired_len hx, paired_len hy]; exact sz5 hz, fun d nd => ?_⟩
    exact q d (w3.new d _ nd) ((g2.trans g3).trans (gr_new nd)) (fr_back (g2.trans g3) nd) ⟨_, own_new nd, paired_app hx hy⟩
/-- [x] * n -/
theorem en_rep {k : Int} (h : EvN K ta σ w e l) (h2 : EvD K tb σ w Rep.int k) (h0 : 0 ≤ k ∧ l.length * k.toNat ≤ 100000 ∧ k ≤ 100000) : EvN K (tOp rRep ta tb) σ w e ((List.replicate k.toNat l).flatten) := fun w1 g Q q =>
  h w1 g _ fun p w2 g2 n2 o2 => h2 w2 (g.trans g2) _ fun v w3 g3 hk => by
    cases hk
    obtain ⟨xs, ox, hx⟩ := o2.gr g3
    refine ⟨p, k, xs, rfl, rfl, ox.h, by omega, by omega, by rw [paired_len hx]; exact sz5 h0.2.1, fun d nd => ?_⟩
    refine q d (w3.new d _ nd) ((g2.trans g3).trans (gr_new nd)) (fr_back (g2.trans g3) nd) ⟨_, own_new nd, ?_⟩
    have : ∀ n, Paired (e.r K w3.S) (List.flatten (List.replicate n xs)) (List.flatten (List.replicate n l)) := by
      intro n
      induction n with
      | zero => exact .nil
      | succ n ih => rw [List.replicate_succ, List.replicate_succ, List.flatten_cons, List.flatten_cons]; exact paired_app hx ih
    exact this _
/-! ### built-in functions of lists -/
theorem lints_at {v : V} {l : List Int} {S : Hp} (h : (Rep.list Rep.int).r K S v l) : ∃ a, v = .ref a ∧ SqL K S a (l.map V.int) := by
  obtain ⟨a, xs, rfl, hs, hp⟩ := h
  rw [paired_ints hp] at hs
  exact ⟨a, rfl, hs⟩
theorem lbls_at {v : V} {l : List Bool} {S : Hp} (h : (Rep.list Rep.bl).r K S v l) : ∃ a, v = .ref a ∧ SqL K S a (l.map V.bl) := by
  obtain ⟨a, xs, rfl, hs, hp⟩ := h
  rw [paired_bls hp] at hs
  exact ⟨a, rfl, hs⟩
theorem ev_sum {l : List Int} (h : EvD K ta σ w (Rep.list Rep.int) l) : EvD K (tCB (rSum K) (tCons ta tNil)) σ w Rep.int l.sum := fun w1 g Q q =>
  h w1 g _ fun v w2 g2 x => by
    obtain ⟨a, rfl, hs⟩ := lints_at x
    exact ⟨a, l, rfl, Evl.ex_l w2.ex hs, q _ w2 g2 rfl⟩
def maxL (l : List Int) : Int := l.foldl (fun a b => if a < b then b else a) (l.headD 0)
def minL (l : List Int) : Int := l.foldl (fun a b => if b < a then b else a) (l.headD 0)
theorem foldl_max : ∀ (l : List Int) (a : Int), (∀ y ∈ a :: l, y ≤ l.foldl (fun a b => if a < b then b else a) a) ∧ l.foldl (fun a b => if a < b then b else a) a ∈ a :: l
  | [], a => ⟨fun y h => by simp at h; simp [h], by simp⟩
  | b :: r, a => by
    obtain ⟨h1, h2⟩ := foldl_max r (if a < b then b else a)
    simp only [List.foldl_cons]
    refine ⟨fun y hy => ?_, ?_⟩
    · have hm := h1 (if a < b then b else a) List.mem_cons_self
      rcases List.mem_cons.mp hy with e | hy
      · subst e; split at hm <;> (rename_i hh; simp only [hh, if_true, if_false] ; omega)
      · rcases List.mem_cons.mp hy with e | hy
        · subst e; split at hm <;> (rename_i hh; simp only [hh, if_true, if_false] ; omega)
        · exact h1 y (List.mem_cons_of_mem _ hy)
    · rcases List.mem_cons.mp h2 with e | h
      · rw [e]; split <;> simp
      · exact List.mem_cons_of_mem _ (List.mem_cons_of_mem _ h)
theorem foldl_min : ∀ (l : List Int) (a : Int), (∀ y ∈ a :: l, l.foldl (fun a b => if b < a then b else a) a ≤ y) ∧ l.foldl (fun a b => if b < a then b else a) a ∈ a :: l
  | [], a => ⟨fun y h => by simp at h; simp [h], by simp⟩
  | b :: r, a => by
    obtain ⟨h1, h2⟩ := foldl_min r (if b < a then b else a)
    simp only [List.foldl_cons]
    refine ⟨fun y hy => ?_, ?_⟩
    · have hm := h1 (if b < a then b else a) List.mem_cons_self
      rcases List.mem_cons.mp hy with e | hy
      · subst e; split at hm <;> (rename_i hh; simp only [hh, if_true, if_false] ; omega)
      · rcases List.mem_cons.mp hy with e | hy
        · subst e; split at hm <;> (rename_i hh; simp only [hh, if_true, if_false] ; omega)
        · exact h1 y (List.mem_cons_of_mem _ hy)
    · rcases List.mem_cons.mp h2 with e | h
      · rw [e]; split <;> simp
      · exact List.mem_cons_of_mem _ (List.mem_cons_of_mem _ h)
theorem maxL_spec {l : List Int} (h : l ≠ []) : maxL l ∈ l ∧ ∀ y ∈ l, y ≤ maxL l := by
  cases l with
  | nil => exact absurd rfl h
  | cons a r =>
    have := foldl_max r a
    unfold maxL
    simp only [List.headD_cons, List.foldl_cons, Int.lt_irrefl, if_false]
    exact ⟨this.2, this.1⟩
theorem minL_spec {l : List Int} (h : l ≠ []) : minL l ∈ l ∧ ∀ y ∈ l, minL l ≤ y := by
  cases l with
  | nil => exact absurd rfl h
  | cons a r =>
    have := foldl_min r a
    unfold minL
    simp only [List.headD_cons, List.foldl_cons, Int.lt_irrefl, if_false]
    exact ⟨this.2, this.1⟩
theorem maxL_uniq {l : List Int} {m : Int} (h : m ∈ l) (h2 : ∀ y ∈ l, y ≤ m) : m = maxL l := by
  have hn : l ≠ [] := fun z => by rw [z] at h; cases h
  obtain ⟨a, b⟩ := maxL_spec hn
  exact Int.le_antisymm (b m h) (h2 _ a)
theorem minL_uniq {l : List Int} {m : Int} (h : m ∈ l) (h2 : ∀ y ∈ l, m ≤ y) : m = minL l := by
  have hn : l ≠ [] := fun z => by rw [z] at h; cases h
  obtain ⟨a, b⟩ := minL_spec hn
  exact Int.le_antisymm (h2 _ a) (b m h)
theorem ev_maxL {l : List Int} (h : EvD K ta σ w (Rep.list Rep.int) l) (hn : l ≠ []) : EvD K (tCB (rMax K) (tCons ta tNil)) σ w Rep.int (maxL l) := fun w1 g Q q =>
  h w1 g _ fun v w2 g2 x => by
    obtain ⟨a, rfl, hs⟩ := lints_at x
    exact ⟨a, l, rfl, Evl.ex_l w2.ex hs, List.length_pos_iff.mpr hn, fun m hm hle => q _ w2 g2 (by rw [maxL_uniq hm hle]; rfl)⟩
theorem ev_minL {l : List Int} (h : EvD K ta σ w (Rep.list Rep.int) l) (hn : l ≠ []) : EvD K (tCB (rMin K) (tCons ta tNil)) σ w Rep.int (minL l) := fun w1 g Q q =>
  h w1 g _ fun v w2 g2 x => by
    obtain ⟨a, rfl, hs⟩ := lints_at x
    exact ⟨a, l, rfl, Evl.ex_l w2.ex hs, List.length_pos_iff.mpr hn, fun m hm hle => q _ w2 g2 (by rw [minL_uniq hm hle]; rfl)⟩
theorem ev_all {l : List Bool} (h : EvD K ta σ w (Rep.list Rep.bl) l) : EvD K (tCB (rAll K) (tCons ta tNil)) σ w Rep.bl (l.all id) := fun w1 g Q q =>
  h w1 g _ fun v w2 g2 x => by
    obtain ⟨a, rfl, hs⟩ := lbls_at x
    exact ⟨a, l, rfl, Evl.ex_l w2.ex hs, q _ w2 g2 rfl⟩
theorem ev_any {l : List Bool} (h : EvD K ta σ w (Rep.list Rep.bl) l) : EvD K (tCB (rAny K) (tCons ta tNil)) σ w Rep.bl (l.any id) := fun w1 g Q q =>
  h w1 g _ fun v w2 g2 x => by
    obtain ⟨a, rfl, hs⟩ := lbls_at x
    exact ⟨a, l, rfl, Evl.ex_l w2.ex hs, q _ w2 g2 rfl⟩
theorem ev_max2 {i j : Int} (ha : EvD K ta σ w Rep.int i) (hb : EvD K tb σ w Rep.int j) : EvD K (tCB (fun xs H Q => ∃ i j, xs = [.int i, .int j] ∧ Q (.int (if j > i then j else i)) H) (tCons ta (tCons tb tNil))) σ w Rep.int (max i j) := fun w1 g Q q =>
  ha w1 g _ fun v w2 g2 e => hb w2 (g.trans g2) _ fun v' w3 g3 e' => ⟨i, j, by rw [e, e'], q _ w3 (g2.trans g3) (by show V.int _ = V.int _; congr 1; split <;> omega)⟩
theorem ev_min2 {i j : Int} (ha : EvD K ta σ w Rep.int i) (hb : EvD K tb σ w Rep.int j) : EvD K (tCB (fun xs H Q => ∃ i j, xs = [.int i, .int j] ∧ Q (.int (if j < i then j else i)) H) (tCons ta (tCons tb tNil))) σ w Rep.int (min i j) := fun w1 g Q q =>
  ha w1 g _ fun v w2 g2 e => hb w2 (g.trans g2) _ fun v' w3 g3 e' => ⟨i, j, by rw [e, e'], q _ w3 (g2.trans g3) (by show V.int _ = V.int _; congr 1; split <;> omega)⟩
theorem ev_abs {i : Int} (ha : EvD K ta σ w Rep.int i) : EvD K (tCB (fun xs H Q => ∃ i, xs = [.int i] ∧ Q (.int (if i < 0 then -i else i)) H) (tCons ta tNil)) σ w Rep.int (i.natAbs : Int) := fun w1 g Q q =>
  ha w1 g _ fun v w2 g2 e => ⟨i, by rw [e], q _ w2 g2 (by show V.int _ = V.int _; congr 1; split <;> omega)⟩
theorem ev_intI {i : Int} (ha : EvD K ta σ w Rep.int i) : EvD K (tCB (fun xs H Q => (∃ i, xs = [.int i] ∧ Q (.int i) H) ∨ ∃ k, xs = [.bl k] ∧ Q (.int (if k then 1 else 0)) H) (tCons ta tNil)) σ w Rep.int i := fun w1 g Q q =>
  ha w1 g _ fun v w2 g2 e => .inl ⟨i, by rw [e], q _ w2 g2 rfl⟩
theorem ev_intB {b : Bool} (ha : EvD K ta σ w Rep.bl b) : EvD K (tCB (fun xs H Q => (∃ i, xs = [.int i] ∧ Q (.int i) H) ∨ ∃ k, xs = [.bl k] ∧ Q (.int (if k then 1 else 0)) H) (tCons ta tNil)) σ w Rep.int (if b = true then 1 else 0) := fun w1 g Q q =>
  ha w1 g _ fun v w2 g2 e => .inr ⟨b, by rw [e], q _ w2 g2 rfl⟩

/-! ### what is walked -/
def Walks (K : PySem.W.Frag) (J : It) (w : Wd) (e : Rep α) (l : List α) : Prop := ∀ w', Ex w.S w'.S → ∀ i,
  (∀ a, l[i]? = some a → J.go i w'.H ∧ ∀ x H', J.yld i w'.H x H' → ∃ w2 : Wd, w2.H = H' ∧ Gr w' w2 ∧ e.r K w2.S x a) ∧ (l.length ≤ i → J.stop i w'.H)
def EvI (K : PySem.W.Frag) (wi : TI) (σ : L2.St) (w : Wd) (e : Rep α) (l : List α) : Prop := ∀ w1, Gr w w1 → ∀ R : It → Hp → Prop, (∀ J w2, Gr w1 w2 → Walks K J w2 e l → R J w2.H) → wi σ w1.H R
theorem ei_list (h : EvD K tl σ w (Rep.list e) l) : EvI K (iList K tl) σ w e l := fun w1 g R q =>
  h w1 g _ fun v w2 g2 x => by
    obtain ⟨a, xs, rfl, hs, hp⟩ := x
    refine ⟨a, rfl, ⟨xs, Evl.ex_l w2.ex hs⟩, q _ w2 g2 fun w3 x3 i => ⟨fun b hb => ?_, fun hi => ⟨xs, Evl.ex_l (x3.trans w3.ex) hs, by rw [paired_len hp]; exact hi⟩⟩⟩
    obtain ⟨v, hv, hr⟩ := paired_get hp hb
    refine ⟨⟨xs, v, Evl.ex_l (x3.trans w3.ex) hs, hv⟩, fun x H' hy => ?_⟩
    obtain ⟨rfl, f⟩ := hy
    have := f xs (Evl.ex_l (x3.trans w3.ex) hs)
    rw [hv] at this
    cases this
    exact ⟨w3, rfl, Gr.refl _, e.m x3 hr⟩
/-- lo, lo + 1, .. below hi -/
def irange (lo hi : Int) : List Int := (List.range (hi - lo).toNat).map fun (i : Nat) => lo + (i : Int)
theorem irange_get {lo hi : Int} {i : Nat} (h : lo + (i : Int) < hi) : (irange lo hi)[i]? = some (lo + (i : Int)) := by
  unfold irange
  rw [List.getElem?_map, List.getElem?_range (by omega)]; rfl
theorem irange_get' {lo hi a : Int} {i : Nat} (h : (irange lo hi)[i]? = some a) : a = lo + (i : Int) ∧ lo + (i : Int) < hi := by
  unfold irange at h
  rw [List.getElem?_map] at h
  cases q : (List.range (hi - lo).toNat)[i]? with
  | none => rw [q] at h; cases h
  | some j =>
    rw [q] at h
    have := List.getElem?_eq_some_iff.mp q
    obtain ⟨h1, h2⟩ := this
    rw [List.getElem_range] at h2
    rw [List.length_range] at h1
    cases h
    subst h2
    exact ⟨rfl, by omega⟩
theorem irange_len {lo hi : Int} : (irange lo hi).length = (hi - lo).toNat := by unfold irange; simp
theorem irange_mem {lo hi a : Int} : a ∈ irange lo hi ↔ lo ≤ a ∧ a < hi := by
  unfold irange
  simp only [List.mem_map, List.mem_range]
  constructor
  · rintro ⟨i, h, rfl⟩; omega
  · intro h; exact ⟨(a - lo).toNat, by omega, by omega⟩
theorem walks_rng (lo : Int) (n : Nat) (hi : Int) (hn : n = (hi - lo).toNat) : Walks K (Itr lo n) w Rep.int (irange lo hi) := fun w' _ i => ⟨fun a ha => by
    obtain ⟨rfl, h⟩ := irange_get' ha
    refine ⟨by show i < n; omega, fun x H' hy => ?_⟩
    obtain ⟨rfl, rfl⟩ := hy
    exact ⟨w', rfl, Gr.refl _, rfl⟩, fun hi => by rw [irange_len] at hi; show n ≤ i; omega⟩
theorem ei_range1 {n : Int} (h : EvD K te σ w Rep.int n) (hn : -100000 ≤ n ∧ n ≤ 100000) : EvI K (iRng1 (tCons te tNil)) σ w Rep.int (irange 0 n) := fun w1 g R q =>
  h w1 g _ fun v w2 g2 x => ⟨n, by rw [x], by omega, by omega, q _ w2 g2 (walks_rng 0 n.toNat n (by omega))⟩
theorem ei_range2 {lo n : Int} (h : EvD K ta σ w Rep.int lo) (h2 : EvD K tb σ w Rep.int n) (hn : -100000 ≤ lo ∧ lo ≤ 100000 ∧ -100000 ≤ n ∧ n ≤ 100000) : EvI K (iRng2 (tCons ta (tCons tb tNil))) σ w Rep.int (irange lo n) := fun w1 g R q =>
  h w1 g _ fun v w2 g2 x => h2 w2 (g.trans g2) _ fun v' w3 g3 x' => ⟨lo, n, by rw [x, x'], ⟨by omega, by omega, by omega, by omega⟩, q _ w3 (g2.trans g3) (walks_rng lo _ n rfl)⟩
/-- lo, lo + c, .. below hi -/
def srange (lo hi c : Int) : List Int := (List.range ((hi - lo + c - 1) / c).toNat).map fun (i : Nat) => lo + (i : Int) * c
theorem srange_get' {lo hi c a : Int} {i : Nat} (h : (srange lo hi c)[i]? = some a) : a = lo + (i : Int) * c ∧ i < ((hi - lo + c - 1) / c).toNat := by
  unfold srange at h
  rw [List.getElem?_map] at h
  cases q : (List.range ((hi - lo + c - 1) / c).toNat)[i]? with
  | none => rw [q] at h; cases h
  | some j =>
    rw [q] at h
    obtain ⟨h1, h2⟩ := List.getElem?_eq_some_iff.mp q
    rw [List.getElem_range] at h2
    rw [List.length_range] at h1
    cases h
    subst h2
    exact ⟨rfl, h1⟩
theorem srange_len {lo hi c : Int} : (srange lo hi c).length = ((hi - lo + c - 1) / c).toNat := by unfold srange; simp
theorem ei_range3 {lo hi c : Int} (h : EvD K ta σ w Rep.int lo) (h2 : EvD K tb σ w Rep.int hi) (h3 : EvD K tc σ w Rep.int c) (hc : RgC lo hi c ((hi - lo + c - 1) / c).toNat) : EvI K (iRng3 (tCons ta (tCons tb (tCons tc tNil)))) σ w Rep.int (srange lo hi c) := fun w1 g R q =>
  h w1 g _ fun v w2 g2 x => h2 w2 (g.trans g2) _ fun v' w3 g3 x' => h3 w3 ((g.trans g2).trans g3) _ fun v'' w4 g4 x'' =>
    ⟨lo, hi, c, _, by rw [x, x', x''], hc, q _ w4 ((g2.trans g3).trans g4) fun w' _ i => ⟨fun a ha => by
      obtain ⟨rfl, h⟩ := srange_get' ha
      refine ⟨h, fun x H' hy => ?_⟩
      obtain ⟨rfl, rfl⟩ := hy
      exact ⟨w', rfl, Gr.refl _, rfl⟩, fun hi => by rw [srange_len] at hi; exact hi⟩⟩
/-- enumerate -/
def enumI (l : List α) : List (Int × α) := l.zipIdx.map fun p => ((p.2 : Int), p.1)
theorem enumI_get {i : Nat} : (enumI l)[i]? = (l[i]?).map fun a => ((i : Int), a) := by
  unfold enumI
  rw [List.getElem?_map, List.getElem?_zipIdx]
  cases l[i]? <;> simp
theorem enumI_len : (enumI l).length = l.length := by unfold enumI; simp
theorem ei_enum (h : EvD K te σ w (Rep.list e) l) : EvI K (iEnum K (tCons te tNil)) σ w (Rep.pair Rep.int e) (enumI l) := fun w1 g R q =>
  h w1 g _ fun v w2 g2 x => by
    obtain ⟨a, xs, rfl, hs, hp⟩ := x
    refine ⟨a, xs, rfl, Evl.ex_l w2.ex hs, q _ w2 g2 fun w3 x3 i => ⟨fun b hb => ?_, fun hi => ⟨xs, Evl.ex_l (x3.trans w3.ex) hs, by rw [paired_len hp]; rw [enumI_len] at hi; exact hi⟩⟩⟩
    rw [enumI_get] at hb
    cases hl : l[i]? with
    | none => rw [hl] at hb; cases hb
    | some c =>
      rw [hl] at hb
      cases hb
      obtain ⟨v, hv, hr⟩ := paired_get hp hl
      refine ⟨⟨xs, v, Evl.ex_l (x3.trans w3.ex) hs, hv⟩, fun x H' hy => ?_⟩
      obtain ⟨T, y, rfl, nT, rfl, f⟩ := hy
      have := f xs (Evl.ex_l (x3.trans w3.ex) hs)
      rw [hv] at this
      cases this
      exact ⟨w3.put T _, rfl, gr_put nT, T, _, _, rfl, SqT.of put_s, rfl, e.m (x3.trans (gr_put nT).s) hr⟩
theorem ei_zip {m : List β} (h : EvD K ta σ w (Rep.list e) l) (h2 : EvD K tb σ w (Rep.list rb) m) : EvI K (iZip K (tCons ta (tCons tb tNil))) σ w (Rep.pair e rb) (l.zip m) := fun w1 g R q =>
  h w1 g _ fun v w2 g2 x => h2 w2 (g.trans g2) _ fun v' w3 g3 x' => by
    obtain ⟨a, xs, rfl, hs, hp⟩ := x
    obtain ⟨b, ys, rfl, hs', hp'⟩ := x'
    refine ⟨a, b, xs, ys, rfl, Evl.ex_l (g3.s.trans w3.ex) hs, Evl.ex_l w3.ex hs', q _ w3 (g2.trans g3) fun w4 x4 i => ⟨fun c hc => ?_, fun hi => ⟨xs, ys, Evl.ex_l ((g3.s.trans x4).trans w4.ex) hs, Evl.ex_l (x4.trans w4.ex) hs', by
      rw [paired_len hp, paired_len hp']; rw [List.length_zip] at hi; omega⟩⟩⟩
    obtain ⟨c1, c2⟩ := c
    obtain ⟨h1, h2⟩ := List.getElem?_zip_eq_some.mp hc
    obtain ⟨v, hv, hr⟩ := paired_get hp h1
    obtain ⟨v', hv', hr'⟩ := paired_get hp' h2
    refine ⟨⟨xs, ys, v, v', Evl.ex_l ((g3.s.trans x4).trans w4.ex) hs, Evl.ex_l (x4.trans w4.ex) hs', hv, hv'⟩, fun x H' hy => ?_⟩
    obtain ⟨T, y, z, rfl, nT, rfl, f, f'⟩ := hy
    have q1 := f xs (Evl.ex_l ((g3.s.trans x4).trans w4.ex) hs)
    have q2 := f' ys (Evl.ex_l (x4.trans w4.ex) hs')
    rw [hv] at q1
    rw [hv'] at q2
    cases q1; cases q2
    exact ⟨w4.put T _, rfl, gr_put nT, T, _, _, rfl, SqT.of put_s, e.m ((g3.s.trans x4).trans (gr_put nT).s) hr, rb.m (x4.trans (gr_put nT).s) hr'⟩
/-- a target of two names -/
theorem g_pair {n : Nat} {i j : Nat} {x : α × β} {v : V} {Q : L2.St → Hp → Prop} (h : (Rep.pair r rb).r K w.S v x) (hn : n = 2) (k : ∀ v1 v2, r.r K w.S v1 x.1 → rb.r K w.S v2 x.2 → Q ((σ.set i (some v1)).set j (some v2)) w.H) : gTup K n (gCons (gName i) (gCons (gName j) gNil)) v σ w.H Q := by
  obtain ⟨a, u, z, rfl, hs, h1, h2⟩ := h
  exact ⟨a, [u, z], rfl, Evl.ex_t w.ex hs, hn.symm, u, [z], rfl, z, [], rfl, rfl, k u z h1 h2⟩
theorem en_given (hL : l.length ≤ 100000) {wi : TI} {g : TG} {vs : List Nat} {e' : Rep β} (f : α → Bool) (gg : α → β) (h : EvI K wi σ w e l)
    (hb : ∀ a v w', a ∈ l → Gr w w' → e.r K w'.S v a → ∀ Q : L2.St → Hp → Prop, (∀ σ2 w2, Gr w' w2 → wipe σ2 vs = wipe σ vs → EvT K t σ2 w2 (f a) → (f a = true → EvD K te σ2 w2 e' (gg a)) → Q σ2 w2.H) → g v (wipe σ vs) w'.H Q) :
    EvN K (tLc wi g t te vs) σ w e' ((l.filter f).map gg) := fun w1 g1 Q q => h w1 g1 _ fun J w2 g2 hJ Dl hD => by
  refine ⟨fun i m H => m = l.length - i ∧ i ≤ l.length ∧ ∃ w' : Wd, w'.H = H ∧ Gr w2 w' ∧ OwnL K w' Dl e' (((l.take i).filter f).map gg), ⟨l.length, by simp, Nat.zero_le _, w2.new Dl _ hD, rfl, gr_new hD, [], own_new hD, .nil⟩, ?_⟩
  rintro i m H ⟨rfl, hi, w', rfl, g3, o⟩
  obtain ⟨j1, j2⟩ := hJ w' g3.s i
  by_cases hlt : i < l.length
  · have hget : l[i]? = some l[i] := by simp [hlt]
    obtain ⟨hgo, hy⟩ := j1 _ hget
    have htk : l.take (i + 1) = l.take i ++ [l[i]] := by rw [List.take_add_one, hget]; rfl
    refine .inr ⟨hgo, fun H => ∃ w4 : Wd, w4.H = H ∧ Gr w2 w4 ∧ OwnL K w4 Dl e' (((l.take (i + 1)).filter f).map gg), fun H' hN => ⟨l.length - (i + 1), by omega, rfl, hlt, hN⟩, fun x H' hx => ?_⟩
    obtain ⟨w4, rfl, g4, hr⟩ := hy x H' hx
    refine hb _ x w4 (List.getElem_mem hlt) ((g1.trans g2).trans (g3.trans g4)) hr _ fun σ2 w5 g5 hw ht he => ⟨hw, ht.run fun w6 g6 => ?_⟩
    have o6 := o.gr ((g4.trans g5).trans g6)
    have g26 : Gr w2 w6 := ((g3.trans g4).trans g5).trans g6
    cases hf : f l[i] with
    | true =>
      refine (he hf).gr g6 |>.run fun v w7 g7 hv => ?_
      obtain ⟨xs, ow, hp⟩ := o6.gr g7
      have hle : (List.filter f (List.take i l)).length ≤ i := Nat.le_trans (List.length_filter_le _ _) (by rw [List.length_take]; omega)
      refine ⟨xs, ow.h, ?_, w7.set Dl _ ow.s, rfl, (mt_set ow.s).gr w2 (g26.trans g7) hD, xs ++ [v], own_set ow.s, ?_⟩
      · rw [paired_len hp, List.length_map]
        exact sz5' (by omega)
      · rw [htk, List.filter_append, List.map_append, List.filter_cons, if_pos hf]
        exact paired_app hp (.cons hv .nil)
    | false =>
      refine ⟨w6, rfl, g26, ?_⟩
      rw [htk, List.filter_append, List.map_append, List.filter_cons, if_neg (by rw [hf]; decide)]
      simpa using o6
  · have e0 : i = l.length := by omega
    subst e0
    rw [List.take_length] at o
    exact .inl ⟨j2 (Nat.le_refl _), q Dl w' (g2.trans g3) (fr_back g2 hD) o⟩
/-- [e for x in ..] -/
theorem en_lc (hL : l.length ≤ 100000) {wi : TI} {j : Nat} {vs : List Nat} {e' : Rep β} (gg : α → β) (h : EvI K wi σ w e l) (hw : ∀ x, wipe ((wipe σ vs).set j (some x)) vs = wipe σ vs)
    (hb : ∀ a v w', a ∈ l → Gr w w' → e.r K w'.S v a → EvD K te ((wipe σ vs).set j (some v)) w' e' (gg a)) :
    EvN K (tLc wi (gName j) tYes te vs) σ w e' (l.map gg) := by
  have := en_given (t := tYes) (te := te) hL (g := gName j) (vs := vs) (e' := e') (fun _ => true) gg h fun a v w' ha g1 hr Q q => q _ w' (Gr.refl _) (hw v) et_yes fun _ => hb a v w' ha g1 hr
  rw [List.filter_eq_self.mpr fun _ _ => rfl] at this
  exact this
theorem en_lcIf (hL : l.length ≤ 100000) {wi : TI} {j : Nat} {vs : List Nat} {e' : Rep β} (f : α → Bool) (gg : α → β) (h : EvI K wi σ w e l) (hw : ∀ x, wipe ((wipe σ vs).set j (some x)) vs = wipe σ vs)
    (ht : ∀ a v w', a ∈ l → Gr w w' → e.r K w'.S v a → EvT K t ((wipe σ vs).set j (some v)) w' (f a))
    (hb : ∀ a v w', a ∈ l → f a = true → Gr w w' → e.r K w'.S v a → EvD K te ((wipe σ vs).set j (some v)) w' e' (gg a)) :
    EvN K (tLc wi (gName j) t te vs) σ w e' ((l.filter f).map gg) :=
  en_given hL f gg h fun a v w' ha g1 hr Q q => q _ w' (Gr.refl _) (hw v) (ht a v w' ha g1 hr) fun hf => hb a v w' ha hf g1 hr
/-- [e for x, y in ..] -/
theorem en_lc2 {l : List (α × γ)} (hL : l.length ≤ 100000) {wi : TI} {i j n : Nat} {vs : List Nat} {e' : Rep β} (gg : α × γ → β) (h : EvI K wi σ w (Rep.pair e rc) l) (hw : ∀ x y, wipe (((wipe σ vs).set i (some x)).set j (some y)) vs = wipe σ vs) (hn : n = 2)
    (hb : ∀ a v v' w', a ∈ l → Gr w w' → e.r K w'.S v a.1 → rc.r K w'.S v' a.2 → EvD K te (((wipe σ vs).set i (some v)).set j (some v')) w' e' (gg a)) :
    EvN K (tLc wi (gTup K n (gCons (gName i) (gCons (gName j) gNil))) tYes te vs) σ w e' (l.map gg) := by
  have := en_given (t := tYes) (te := te) hL (g := gTup K n (gCons (gName i) (gCons (gName j) gNil))) (vs := vs) (e' := e') (fun _ => true) gg h fun a v w' ha g1 hr Q q => g_pair hr hn fun v1 v2 h1 h2 => q _ w' (Gr.refl _) (hw v1 v2) et_yes fun _ => hb a v1 v2 w' ha g1 h1 h2
  rw [List.filter_eq_self.mpr fun _ _ => rfl] at this
  exact this
theorem en_lc2If {l : List (α × γ)} (hL : l.length ≤ 100000) {wi : TI} {i j n : Nat} {vs : List Nat} {e' : Rep β} (f : α × γ → Bool) (gg : α × γ → β) (h : EvI K wi σ w (Rep.pair e rc) l) (hw : ∀ x y, wipe (((wipe σ vs).set i (some x)).set j (some y)) vs = wipe σ vs) (hn : n = 2)
    (ht : ∀ a v v' w', a ∈ l → Gr w w' → e.r K w'.S v a.1 → rc.r K w'.S v' a.2 → EvT K t (((wipe σ vs).set i (some v)).set j (some v')) w' (f a))
    (hb : ∀ a v v' w', a ∈ l → f a = true → Gr w w' → e.r K w'.S v a.1 → rc.r K w'.S v' a.2 → EvD K te (((wipe σ vs).set i (some v)).set j (some v')) w' e' (gg a)) :
    EvN K (tLc wi (gTup K n (gCons (gName i) (gCons (gName j) gNil))) t te vs) σ w e' ((l.filter f).map gg) :=
  en_given hL f gg h fun a v w' ha g1 hr Q q => g_pair hr hn fun v1 v2 h1 h2 => q _ w' (Gr.refl _) (hw v1 v2) (ht a v1 v2 w' ha g1 h1 h2) fun hf => hb a v1 v2 w' ha hf g1 h1 h2

/-! ### statements -/
variable {D : Ends} {tu tw tz : TS} {g : TG}
theorem q_asg {i : Nat} (h : EvD K te σ w r a) (k : ∀ v w', Gr w w' → r.r K w'.S v a → tz D (σ.set i (some v)) w'.H) : tSeq (tAsg te (gName i)) tz D σ w.H := h.run k
theorem s_asg {i : Nat} (h : EvD K te σ w r a) (k : ∀ v w', Gr w w' → r.r K w'.S v a → D.nx (σ.set i (some v)) w'.H) : tAsg te (gName i) D σ w.H := h.run k
theorem q_asgN {i : Nat} (h : EvN K te σ w e l) (k : ∀ p w', Gr w w' → w.H p = none → OwnL K w' p e l → tz D (σ.set i (some (.ref p))) w'.H) : tSeq (tAsg te (gName i)) tz D σ w.H := h.run k
theorem s_asgN {i : Nat} (h : EvN K te σ w e l) (k : ∀ p w', Gr w w' → w.H p = none → OwnL K w' p e l → D.nx (σ.set i (some (.ref p))) w'.H) : tAsg te (gName i) D σ w.H := h.run k
theorem s_ret (h : EvD K te σ w r a) (k : ∀ v w', Gr w w' → r.r K w'.S v a → D.rt v w'.H) : tRet te D σ w.H := h.run k
theorem s_retN (h : EvN K te σ w e l) (k : ∀ p w', Gr w w' → w.H p = none → OwnL K w' p e l → D.rt (.ref p) w'.H) : tRet te D σ w.H := h.run k
/-- the name of an own list is returned -/
theorem s_retO {i : Nat} {p : Addr} (h : σ[i]? = some (some (.ref p))) (k : D.rt (.ref p) w.H) : tRet (tVar i) D σ w.H := ⟨_, h, k⟩
theorem q_if {b : Bool} (h : EvT K t σ w b) (h1 : b = true → ∀ w', Gr w w' → tu { D with nx := tz D } σ w'.H) (h2 : b = false → ∀ w', Gr w w' → tw { D with nx := tz D } σ w'.H) : tSeq (tIfS t tu tw) tz D σ w.H := h.run fun w' g => by
  cases b with
  | true => exact h1 rfl w' g
  | false => exact h2 rfl w' g
theorem s_if {b : Bool} (h : EvT K t σ w b) (h1 : b = true → ∀ w', Gr w w' → tu D σ w'.H) (h2 : b = false → ∀ w', Gr w w' → tw D σ w'.H) : tIfS t tu tw D σ w.H := h.run fun w' g => by
  cases b with
  | true => exact h1 rfl w' g
  | false => exact h2 rfl w' g
theorem q_when {b : Bool} (h : EvT K t σ w b) (h1 : b = true → ∀ w', Gr w w' → tu { D with nx := tz D } σ w'.H) (h2 : b = false → ∀ w', Gr w w' → tz D σ w'.H) : tSeq (tIfS t tu tNext) tz D σ w.H := q_if h h1 h2
theorem s_when {b : Bool} (h : EvT K t σ w b) (h1 : b = true → ∀ w', Gr w w' → tu D σ w'.H) (h2 : b = false → ∀ w', Gr w w' → D.nx σ w'.H) : tIfS t tu tNext D σ w.H := s_if h h1 h2
theorem q_drop (h : EvD K te σ w r a) (k : ∀ w', Gr w w' → tz D σ w'.H) : tSeq (tDrop te) tz D σ w.H := h.run fun _ w' g _ => k w' g
theorem s_drop (h : EvD K te σ w r a) (k : ∀ w', Gr w w' → D.nx σ w'.H) : tDrop te D σ w.H := h.run fun _ w' g _ => k w' g
theorem q_aug {i : Nat} {f : Int → Int → Int} {x y : Int} (hx : σ[i]? = some (some (.int x))) (h : EvD K te σ w Rep.int y) (k : ∀ w', Gr w w' → tz D (σ.set i (some (.int (f x y)))) w'.H) : tSeq (tAug i te (ipI f)) tz D σ w.H :=
  ⟨.int x, hx, h.run fun v w' g e => ⟨x, y, rfl, e, k w' g⟩⟩
theorem s_aug {i : Nat} {f : Int → Int → Int} {x y : Int} (hx : σ[i]? = some (some (.int x))) (h : EvD K te σ w Rep.int y) (k : ∀ w', Gr w w' → D.nx (σ.set i (some (.int (f x y)))) w'.H) : tAug i te (ipI f) D σ w.H :=
  ⟨.int x, hx, h.run fun v w' g e => ⟨x, y, rfl, e, k w' g⟩⟩
/-- a, b = e, e' -/
theorem q_par {i j : Nat} {b : β} (h : EvD K ta σ w r a) (h2 : EvD K tb σ w rb b) (k : ∀ v v' w', Gr w w' → r.r K w'.S v a → rb.r K w'.S v' b → tz D ((σ.set i (some v)).set j (some v')) w'.H) : tSeq (tPar i j (tCons ta (tCons tb tNil))) tz D σ w.H :=
  h w (Gr.refl _) _ fun v w2 g2 x => h2 w2 g2 _ fun v' w3 g3 y => ⟨v, v', rfl, k v v' w3 (g2.trans g3) (r.m g3.s x) y⟩
theorem q_parN {i j : Nat} (h : EvD K ta σ w r a) (h2 : EvN K tb σ w e l) (k : ∀ v p w', Gr w w' → r.r K w'.S v a → w.H p = none → OwnL K w' p e l → tz D ((σ.set i (some v)).set j (some (.ref p))) w'.H) : tSeq (tPar i j (tCons ta (tCons tb tNil))) tz D σ w.H :=
  h w (Gr.refl _) _ fun v w2 g2 x => h2 w2 g2 _ fun p w3 g3 n y => ⟨v, .ref p, rfl, k v p w3 (g2.trans g3) (r.m g3.s x) (fr_back g2 n) y⟩
theorem q_parNN {i j : Nat} {m : List β} (h : EvN K ta σ w e l) (h2 : EvN K tb σ w rb m) (k : ∀ p p' w', Gr w w' → w.H p = none → w.H p' = none → p ≠ p' → OwnL K w' p e l → OwnL K w' p' rb m → tz D ((σ.set i (some (.ref p))).set j (some (.ref p'))) w'.H) : tSeq (tPar i j (tCons ta (tCons tb tNil))) tz D σ w.H :=
  h w (Gr.refl _) _ fun p w2 g2 n o => h2 w2 g2 _ fun p' w3 g3 n' y => ⟨.ref p, .ref p', rfl, k p p' w3 (g2.trans g3) n (fr_back g2 n') (fun z => o.apart n' z.symm) (o.gr g3) y⟩
theorem q_parNV {i j : Nat} {b : β} (h : EvN K ta σ w e l) (h2 : EvD K tb σ w rb b) (k : ∀ p v w', Gr w w' → w.H p = none → OwnL K w' p e l → rb.r K w'.S v b → tz D ((σ.set i (some (.ref p))).set j (some v)) w'.H) : tSeq (tPar i j (tCons ta (tCons tb tNil))) tz D σ w.H :=
  h w (Gr.refl _) _ fun p w2 g2 n o => h2 w2 g2 _ fun v w3 g3 y => ⟨.ref p, v, rfl, k p v w3 (g2.trans g3) n (o.gr g3) y⟩
/-- a, b = e, e a pair -/
theorem q_unpack {i j n : Nat} {x : α × β} (h : EvD K te σ w (Rep.pair r rb) x) (hn : n = 2) (k : ∀ v v' w', Gr w w' → r.r K w'.S v x.1 → rb.r K w'.S v' x.2 → tz D ((σ.set i (some v)).set j (some v')) w'.H) : tSeq (tAsg te (gTup K n (gCons (gName i) (gCons (gName j) gNil)))) tz D σ w.H :=
  h.run fun v w' g hr => g_pair hr hn fun v1 v2 h1 h2 => k v1 v2 w' g h1 h2
/-- xs.append(e) -/
theorem app_core {p : Addr} {Q : VK} (o : OwnL K w p e l) (he : e.r K w.S v a) (hz : l.length < 100000) (k : ∀ w', Mt p w w' → OwnL K w' p e (l ++ [a]) → Q .non w'.H) : rAppend (.ref p) [v] w.H Q := by
  obtain ⟨xs, ow, hp⟩ := o
  exact ⟨p, xs, v, rfl, rfl, ow.h, by rw [paired_len hp]; exact sz5' hz, k (w.set p _ ow.s) (mt_set ow.s) ⟨_, own_set ow.s, paired_app hp (.cons he .nil)⟩⟩
theorem app_run {i : Nat} {p : Addr} {Q : VK} (o : OwnL K w p e l) (hi : σ[i]? = some (some (.ref p))) (he : EvD K te σ w e a) (hz : l.length < 100000) (k : ∀ w', Mt p w w' → OwnL K w' p e (l ++ [a]) → Q .non w'.H) : tBM K "list" rAppend (tVar i) (tCons te tNil) σ w.H Q := by
  obtain ⟨xs, ow, hp⟩ := id o
  exact ⟨_, hi, .inl ⟨rfl, _, SqL.of ow.h⟩, he.run fun v w2 g2 hv => app_core (o.gr g2) hv hz fun w3 m3 o3 => k w3 ((g2.mt o.ne).trans m3) o3⟩
theorem q_app {i : Nat} {p : Addr} (o : OwnL K w p e l) (hi : σ[i]? = some (some (.ref p))) (he : EvD K te σ w e a) (hz : l.length < 100000) (k : ∀ w', Mt p w w' → OwnL K w' p e (l ++ [a]) → tz D σ w'.H) : tSeq (tDrop (tBM K "list" rAppend (tVar i) (tCons te tNil))) tz D σ w.H := app_run o hi he hz k
theorem s_app {i : Nat} {p : Addr} (o : OwnL K w p e l) (hi : σ[i]? = some (some (.ref p))) (he : EvD K te σ w e a) (hz : l.length < 100000) (k : ∀ w', Mt p w w' → OwnL K w' p e (l ++ [a]) → D.nx σ w'.H) : tDrop (tBM K "list" rAppend (tVar i) (tCons te tNil)) D σ w.H := app_run o hi he hz k
/-- xs[k] = e -/
theorem set_run {i : Nat} {p : Addr} {x : Int} {Q : L2.St → Hp → Prop} (o : OwnL K w p e l) (hi : σ[i]? = some (some (.ref p))) (he : EvD K te σ w e a) (hx : EvD K tb σ w Rep.int x) (hb : 0 ≤ x ∧ x < l.length) (k : ∀ w', Mt p w w' → OwnL K w' p e (l.set x.toNat a) → Q σ w'.H) : te σ w.H fun y H1 => gSub (tVar i) tb rSetL y σ H1 Q := by
  refine he.run fun v w2 g2 hv => ⟨_, hi, (hx.gr g2).run fun v' w3 g3 hx' => ?_⟩
  cases hx'
  obtain ⟨xs, ow, hp⟩ := (o.gr g2).gr g3
  refine ⟨p, xs, x, x.toNat, rfl, rfl, ow.h, ?_, ?_⟩
  · have : x = (x.toNat : Int) := by omega
    rw [this, Evl.ixN_nat (by rw [paired_len hp]; omega)]; rfl
  · exact k (w3.set p _ ow.s) (((g2.trans g3).mt o.ne).trans (mt_set ow.s)) ⟨_, own_set ow.s, paired_set (e.m g3.s hv) _ hp⟩
theorem q_set {i : Nat} {p : Addr} {x : Int} (o : OwnL K w p e l) (hi : σ[i]? = some (some (.ref p))) (he : EvD K te σ w e a) (hx : EvD K tb σ w Rep.int x) (hb : 0 ≤ x ∧ x < l.length) (k : ∀ w', Mt p w w' → OwnL K w' p e (l.set x.toNat a) → tz D σ w'.H) : tSeq (tAsg te (gSub (tVar i) tb rSetL)) tz D σ w.H := set_run (Q := tz D) o hi he hx hb k
theorem s_set {i : Nat} {p : Addr} {x : Int} (o : OwnL K w p e l) (hi : σ[i]? = some (some (.ref p))) (he : EvD K te σ w e a) (hx : EvD K tb σ w Rep.int x) (hb : 0 ≤ x ∧ x < l.length) (k : ∀ w', Mt p w w' → OwnL K w' p e (l.set x.toNat a) → D.nx σ w'.H) : tAsg te (gSub (tVar i) tb rSetL) D σ w.H := set_run (Q := D.nx) o hi he hx hb k
/-- an own list's item -/
theorem ev_var_ref {i : Nat} {p : Addr} {Q : VK} (hi : σ[i]? = some (some (.ref p))) {H : Hp} (k : Q (.ref p) H) : tVar i σ H Q := ⟨_, hi, k⟩
theorem ev_ixO {i : Nat} {p : Addr} {x : Int} {b : α} (o : OwnL K w p e l) (hi : σ[i]? = some (some (.ref p))) (hx : EvD K tb σ w Rep.int x) (hb : atI l x = some b) : EvD K (tOp (rIxL K) (tVar i) tb) σ w e b := fun w1 g Q q =>
  ⟨_, hi, hx w1 g _ fun v w2 g2 hv => by
    cases hv
    obtain ⟨xs, ow, hp⟩ := (o.gr g).gr g2
    unfold atI at hb
    obtain ⟨j, hj, hb⟩ := Option.bind_eq_some_iff.mp hb
    obtain ⟨v, hv, hr⟩ := paired_get hp hb
    refine ⟨p, xs, x, v, rfl, rfl, SqL.of ow.h, ?_, q v w2 g2 hr⟩
    unfold atI
    rw [paired_len hp, hj]
    exact hv⟩
/-! ### loops -/
def Nxt (I : L2.St → Wd → Prop) (w : Wd) : L2.St → Hp → Prop := fun σ H => ∃ w' : Wd, w'.H = H ∧ Ex w.S w'.S ∧ I σ w'
theorem for_core {wi : TI} {tb : TS} (h : EvI K wi σ w e l) (I : Nat → L2.St → Wd → Prop) (h0 : ∀ w1, Gr w w1 → I 0 σ w1)
    (hs : ∀ i a v σ' w' w2, l[i]? = some a → Ex w.S w'.S → I i σ' w' → Gr w' w2 → e.r K w2.S v a → g v σ' w2.H fun σ2 H2 => tb { D with nx := Nxt (I (i + 1)) w', ct := Nxt (I (i + 1)) w', bk := D.nx } σ2 H2)
    (hd : ∀ σ' w', Ex w.S w'.S → I l.length σ' w' → D.nx σ' w'.H) : tFor wi g tb D σ w.H := h w (Gr.refl _) _ fun J w1 g1 hJ => by
  refine ⟨fun i m σ H => m = l.length - i ∧ i ≤ l.length ∧ ∃ w' : Wd, w'.H = H ∧ Ex w1.S w'.S ∧ I i σ w', ⟨l.length, by simp, Nat.zero_le _, w1, rfl, exr _, h0 w1 g1⟩, ?_⟩
  rintro i m σ' H ⟨rfl, hi, w', rfl, x1, hI⟩
  obtain ⟨j1, j2⟩ := hJ w' x1 i
  by_cases hlt : i < l.length
  · have hget : l[i]? = some l[i] := by simp [hlt]
    obtain ⟨hgo, hy⟩ := j1 _ hget
    refine .inr ⟨hgo, Nxt (I (i + 1)) w', fun σ2 H2 hN => ?_, fun x H' hx => ?_⟩
    · obtain ⟨w3, e3, x3, i3⟩ := hN
      exact ⟨l.length - (i + 1), by omega, rfl, hlt, w3, e3, x1.trans x3, i3⟩
    · obtain ⟨w4, rfl, g4, hr⟩ := hy x H' hx
      exact hs i _ x σ' w' w4 hget (g1.s.trans x1) hI g4 hr
  · have e0 : i = l.length := by omega
    subst e0
    exact .inl ⟨j2 (Nat.le_refl _), hd σ' w' (g1.s.trans x1) hI⟩
end
end WK

/-! WK, part 3: promises of defs by what their values stand for; loops of names. -/
namespace WK
open PySem PySem.Spec PyProof.Rows L2
def spD0 {γ : Type} (K : PySem.W.Frag)  (pre : Prop) (rc : Rep γ) (f : γ) : Sp := fun vs H Q _ => ∃ (wd : Wd), wd.H = H ∧ vs = [] ∧ pre ∧ (∀ v w', Gr wd w' → rc.r K w'.S v f → Q v w'.H)
theorem ev_call0 {γ : Type}  {pre : Prop} {rc : Rep γ} {f : γ}  {σ : L2.St} {w : Wd} {K : PySem.W.Frag} {E : XK}  (hp : pre) : EvD K (tCall (spD0 K  pre rc f) [] E tNil) σ w rc f := fun w1 g Q q =>
  ⟨w1, rfl, rfl, hp, fun v w' g' x => q v w' ((Gr.refl _).trans g') x⟩
theorem okD0 {γ : Type}  {pre : Prop} {rc : Rep γ} {f : γ} {P : Program} {w : World} {K : PySem.W.Frag} {mg : Str → Option Value} {base : Heap} {x qual : Str} {params : Arguments} {body : List Stmt} {scope : Scope} {dvs : List V} {kws : List (Str × V)} {fa : Addr} {fd : FuncData} {CX : CXT} {N ps : List Str} {k : Nat}
    (F : FunD K x qual params body scope dvs kws fa fd) (S : FnScope N ps scope) (hl : ps.length = 0)
    (hb : ∀ (cdv : Value) (A : Around) (outer : List Env) (s : Shared) (H : Hp) (E : XK), Room k (A.deeper (envOfC qual scope s.heap.objs.size fa cdv)) → ∃ t, PSs (cxOf CX P w K mg base N qual scope fa cdv A outer s H E).nox body t ∧
      ∀ (wd : Wd) (Q : VK), pre → (∀ v w', Gr wd w' → rc.r K w'.S v f → Q v w'.H) → t { nx := fun _ H' => Q .non H', rt := Q } (start N []) wd.H) : FnOk P w K mg base CX (k + 1) fa fd ps (spD0 K  pre rc f) :=
  FunD.ok F S (fun vs H Q E h => by obtain ⟨wd, hw, hv, _⟩ := h; rw [hl, hv] <;> rfl) fun cdv A outer s H vs Q E hr h => by
    obtain ⟨t, ht, hq⟩ := hb cdv A outer s H E hr
    obtain ⟨wd, hw, hv, hp, q⟩ := h
    subst hv; subst hw
    exact ⟨t, PSs.nox ht, hq wd Q hp q⟩
def spN0 {γ : Type} (K : PySem.W.Frag)  (pre : Prop) (rc : Rep γ) (f : List γ) : Sp := fun vs H Q _ => ∃ (wd : Wd), wd.H = H ∧ vs = [] ∧ pre ∧ (∀ p w', Gr wd w' → wd.H p = none → OwnL K w' p rc f → Q (.ref p) w'.H)
theorem en_call0 {γ : Type}  {pre : Prop} {rc : Rep γ} {f : List γ}  {σ : L2.St} {w : Wd} {K : PySem.W.Frag} {E : XK}  (hp : pre) : EvN K (tCall (spN0 K  pre rc f) [] E tNil) σ w rc f := fun w1 g Q q =>
  ⟨w1, rfl, rfl, hp, fun p w' g' n x => q p w' ((Gr.refl _).trans g') (fr_back (Gr.refl _) n) x⟩
theorem okN0 {γ : Type}  {pre : Prop} {rc : Rep γ} {f : List γ} {P : Program} {w : World} {K : PySem.W.Frag} {mg : Str → Option Value} {base : Heap} {x qual : Str} {params : Arguments} {body : List Stmt} {scope : Scope} {dvs : List V} {kws : List (Str × V)} {fa : Addr} {fd : FuncData} {CX : CXT} {N ps : List Str} {k : Nat}
    (F : FunD K x qual params body scope dvs kws fa fd) (S : FnScope N ps scope) (hl : ps.length = 0)
    (hb : ∀ (cdv : Value) (A : Around) (outer : List Env) (s : Shared) (H : Hp) (E : XK), Room k (A.deeper (envOfC qual scope s.heap.objs.size fa cdv)) → ∃ t, PSs (cxOf CX P w K mg base N qual scope fa cdv A outer s H E).nox body t ∧
      ∀ (wd : Wd) (Q : VK), pre → (∀ p w', Gr wd w' → wd.H p = none → OwnL K w' p rc f → Q (.ref p) w'.H) → t { nx := fun _ H' => Q .non H', rt := Q } (start N []) wd.H) : FnOk P w K mg base CX (k + 1) fa fd ps (spN0 K  pre rc f) :=
  FunD.ok F S (fun vs H Q E h => by obtain ⟨wd, hw, hv, _⟩ := h; rw [hl, hv] <;> rfl) fun cdv A outer s H vs Q E hr h => by
    obtain ⟨t, ht, hq⟩ := hb cdv A outer s H E hr
    obtain ⟨wd, hw, hv, hp, q⟩ := h
    subst hv; subst hw
    exact ⟨t, PSs.nox ht, hq wd Q hp q⟩
def spD1 {α0 γ : Type} (K : PySem.W.Frag) (r0 : Rep α0) (pre : α0 → Prop) (rc : Rep γ) (f : α0 → γ) : Sp := fun vs H Q _ => ∃ (wd : Wd) (x0 : V) (a0 : α0), wd.H = H ∧ vs = [x0] ∧ r0.r K wd.S x0 a0 ∧ pre a0 ∧ (∀ v w', Gr wd w' → rc.r K w'.S v (f a0) → Q v w'.H)
theorem ev_call1 {α0 γ : Type} {r0 : Rep α0} {pre : α0 → Prop} {rc : Rep γ} {f : α0 → γ} {a0 : α0} {t0 : TE} {σ : L2.St} {w : Wd} {K : PySem.W.Frag} {E : XK} (h0 : EvD K t0 σ w r0 a0) (hp : pre a0) : EvD K (tCall (spD1 K r0 pre rc f) [] E (tCons t0 tNil)) σ w rc (f a0) := fun w1 g Q q =>
  h0 w1 (g) _ fun v0 u0 k0 z0 => ⟨u0, _, _, rfl, rfl, z0, hp, fun v w' g' x => q v w' ((k0).trans g') x⟩
theorem okD1 {α0 γ : Type} {r0 : Rep α0} {pre : α0 → Prop} {rc : Rep γ} {f : α0 → γ} {P : Program} {w : World} {K : PySem.W.Frag} {mg : Str → Option Value} {base : Heap} {x qual : Str} {params : Arguments} {body : List Stmt} {scope : Scope} {dvs : List V} {kws : List (Str × V)} {fa : Addr} {fd : FuncData} {CX : CXT} {N ps : List Str} {k : Nat}
    (F : FunD K x qual params body scope dvs kws fa fd) (S : FnScope N ps scope) (hl : ps.length = 1)
    (hb : ∀ (cdv : Value) (A : Around) (outer : List Env) (s : Shared) (H : Hp) (E : XK), Room k (A.deeper (envOfC qual scope s.heap.objs.size fa cdv)) → ∃ t, PSs (cxOf CX P w K mg base N qual scope fa cdv A outer s H E).nox body t ∧
      ∀ (wd : Wd) (x0 : V) (a0 : α0) (Q : VK), r0.r K wd.S x0 a0 → pre a0 → (∀ v w', Gr wd w' → rc.r K w'.S v (f a0) → Q v w'.H) → t { nx := fun _ H' => Q .non H', rt := Q } (start N [x0]) wd.H) : FnOk P w K mg base CX (k + 1) fa fd ps (spD1 K r0 pre rc f) :=
  FunD.ok F S (fun vs H Q E h => by obtain ⟨wd, x0, a0, hw, hv, _⟩ := h; rw [hl, hv] <;> rfl) fun cdv A outer s H vs Q E hr h => by
    obtain ⟨t, ht, hq⟩ := hb cdv A outer s H E hr
    obtain ⟨wd, x0, a0, hw, hv, q0, hp, q⟩ := h
    subst hv; subst hw
    exact ⟨t, PSs.nox ht, hq wd x0 a0 Q q0 hp q⟩
def spN1 {α0 γ : Type} (K : PySem.W.Frag) (r0 : Rep α0) (pre : α0 → Prop) (rc : Rep γ) (f : α0 → List γ) : Sp := fun vs H Q _ => ∃ (wd : Wd) (x0 : V) (a0 : α0), wd.H = H ∧ vs = [x0] ∧ r0.r K wd.S x0 a0 ∧ pre a0 ∧ (∀ p w', Gr wd w' → wd.H p = none → OwnL K w' p rc (f a0) → Q (.ref p) w'.H)
theorem en_call1 {α0 γ : Type} {r0 : Rep α0} {pre : α0 → Prop} {rc : Rep γ} {f : α0 → List γ} {a0 : α0} {t0 : TE} {σ : L2.St} {w : Wd} {K : PySem.W.Frag} {E : XK} (h0 : EvD K t0 σ w r0 a0) (hp : pre a0) : EvN K (tCall (spN1 K r0 pre rc f) [] E (tCons t0 tNil)) σ w rc (f a0) := fun w1 g Q q =>
  h0 w1 (g) _ fun v0 u0 k0 z0 => ⟨u0, _, _, rfl, rfl, z0, hp, fun p w' g' n x => q p w' ((k0).trans g') (fr_back (k0) n) x⟩
theorem okN1 {α0 γ : Type} {r0 : Rep α0} {pre : α0 → Prop} {rc : Rep γ} {f : α0 → List γ} {P : Program} {w : World} {K : PySem.W.Frag} {mg : Str → Option Value} {base : Heap} {x qual : Str} {params : Arguments} {body : List Stmt} {scope : Scope} {dvs : List V} {kws : List (Str × V)} {fa : Addr} {fd : FuncData} {CX : CXT} {N ps : List Str} {k : Nat}
    (F : FunD K x qual params body scope dvs kws fa fd) (S : FnScope N ps scope) (hl : ps.length = 1)
    (hb : ∀ (cdv : Value) (A : Around) (outer : List Env) (s : Shared) (H : Hp) (E : XK), Room k (A.deeper (envOfC qual scope s.heap.objs.size fa cdv)) → ∃ t, PSs (cxOf CX P w K mg base N qual scope fa cdv A outer s H E).nox body t ∧
      ∀ (wd : Wd) (x0 : V) (a0 : α0) (Q : VK), r0.r K wd.S x0 a0 → pre a0 → (∀ p w', Gr wd w' → wd.H p = none → OwnL K w' p rc (f a0) → Q (.ref p) w'.H) → t { nx := fun _ H' => Q .non H', rt := Q } (start N [x0]) wd.H) : FnOk P w K mg base CX (k + 1) fa fd ps (spN1 K r0 pre rc f) :=
  FunD.ok F S (fun vs H Q E h => by obtain ⟨wd, x0, a0, hw, hv, _⟩ := h; rw [hl, hv] <;> rfl) fun cdv A outer s H vs Q E hr h => by
    obtain ⟨t, ht, hq⟩ := hb cdv A outer s H E hr
    obtain ⟨wd, x0, a0, hw, hv, q0, hp, q⟩ := h
    subst hv; subst hw
    exact ⟨t, PSs.nox ht, hq wd x0 a0 Q q0 hp q⟩
def spD2 {α0 α1 γ : Type} (K : PySem.W.Frag) (r0 : Rep α0) (r1 : Rep α1) (pre : α0 → α1 → Prop) (rc : Rep γ) (f : α0 → α1 → γ) : Sp := fun vs H Q _ => ∃ (wd : Wd) (x0 x1 : V) (a0 : α0) (a1 : α1), wd.H = H ∧ vs = [x0, x1] ∧ r0.r K wd.S x0 a0 ∧ r1.r K wd.S x1 a1 ∧ pre a0 a1 ∧ (∀ v w', Gr wd w' → rc.r K w'.S v (f a0 a1) → Q v w'.H)
theorem ev_call2 {α0 α1 γ : Type} {r0 : Rep α0} {r1 : Rep α1} {pre : α0 → α1 → Prop} {rc : Rep γ} {f : α0 → α1 → γ} {a0 : α0} {a1 : α1} {t0 t1 : TE} {σ : L2.St} {w : Wd} {K : PySem.W.Frag} {E : XK} (h0 : EvD K t0 σ w r0 a0) (h1 : EvD K t1 σ w r1 a1) (hp : pre a0 a1) : EvD K (tCall (spD2 K r0 r1 pre rc f) [] E (tCons t0 (tCons t1 tNil))) σ w rc (f a0 a1) := fun w1 g Q q =>
  h0 w1 (g) _ fun v0 u0 k0 z0 => h1 u0 (g.trans k0) _ fun v1 u1 k1 z1 => ⟨u1, _, _, _, _, rfl, rfl, r0.m (k1.s) z0, z1, hp, fun v w' g' x => q v w' (((k0).trans k1).trans g') x⟩
theorem okD2 {α0 α1 γ : Type} {r0 : Rep α0} {r1 : Rep α1} {pre : α0 → α1 → Prop} {rc : Rep γ} {f : α0 → α1 → γ} {P : Program} {w : World} {K : PySem.W.Frag} {mg : Str → Option Value} {base : Heap} {x qual : Str} {params : Arguments} {body : List Stmt} {scope : Scope} {dvs : List V} {kws : List (Str × V)} {fa : Addr} {fd : FuncData} {CX : CXT} {N ps : List Str} {k : Nat}
    (F : FunD K x qual params body scope dvs kws fa fd) (S : FnScope N ps scope) (hl : ps.length = 2)
    (hb : ∀ (cdv : Value) (A : Around) (outer : List Env) (s : Shared) (H : Hp) (E : XK), Room k (A.deeper (envOfC qual scope s.heap.objs.size fa cdv)) → ∃ t, PSs (cxOf CX P w K mg base N qual scope fa cdv A outer s H E).nox body t ∧
      ∀ (wd : Wd) (x0 : V) (x1 : V) (a0 : α0) (a1 : α1) (Q : VK), r0.r K wd.S x0 a0 → r1.r K wd.S x1 a1 → pre a0 a1 → (∀ v w', Gr wd w' → rc.r K w'.S v (f a0 a1) → Q v w'.H) → t { nx := fun _ H' => Q .non H', rt := Q } (start N [x0, x1]) wd.H) : FnOk P w K mg base CX (k + 1) fa fd ps (spD2 K r0 r1 pre rc f) :=
  FunD.ok F S (fun vs H Q E h => by obtain ⟨wd, x0, x1, a0, a1, hw, hv, _⟩ := h; rw [hl, hv] <;> rfl) fun cdv A outer s H vs Q E hr h => by
    obtain ⟨t, ht, hq⟩ := hb cdv A outer s H E hr
    obtain ⟨wd, x0, x1, a0, a1, hw, hv, q0, q1, hp, q⟩ := h
    subst hv; subst hw
    exact ⟨t, PSs.nox ht, hq wd x0 x1 a0 a1 Q q0 q1 hp q⟩
def spN2 {α0 α1 γ : Type} (K : PySem.W.Frag) (r0 : Rep α0) (r1 : Rep α1) (pre : α0 → α1 → Prop) (rc : Rep γ) (f : α0 → α1 → List γ) : Sp := fun vs H Q _ => ∃ (wd : Wd) (x0 x1 : V) (a0 : α0) (a1 : α1), wd.H = H ∧ vs = [x0, x1] ∧ r0.r K wd.S x0 a0 ∧ r1.r K wd.S x1 a1 ∧ pre a0 a1 ∧ (∀ p w', Gr wd w' → wd.H p = none → OwnL K w' p rc (f a0 a1) → Q (.ref p) w'.H)
theorem en_call2 {α0 α1 γ : Type} {r0 : Rep α0} {r1 : Rep α1} {pre : α0 → α1 → Prop} {rc : Rep γ} {f : α0 → α1 → List γ} {a0 : α0} {a1 : α1} {t0 t1 : TE} {σ : L2.St} {w : Wd} {K : PySem.W.Frag} {E : XK} (h0 : EvD K t0 σ w r0 a0) (h1 : EvD K t1 σ w r1 a1) (hp : pre a0 a1) : EvN K (tCall (spN2 K r0 r1 pre rc f) [] E (tCons t0 (tCons t1 tNil))) σ w rc (f a0 a1) := fun w1 g Q q =>
  h0 w1 (g) _ fun v0 u0 k0 z0 => h1 u0 (g.trans k0) _ fun v1 u1 k1 z1 => ⟨u1, _, _, _, _, rfl, rfl, r0.m (k1.s) z0, z1, hp, fun p w' g' n x => q p w' (((k0).trans k1).trans g') (fr_back ((k0).trans k1) n) x⟩
theorem okN2 {α0 α1 γ : Type} {r0 : Rep α0} {r1 : Rep α1} {pre : α0 → α1 → Prop} {rc : Rep γ} {f : α0 → α1 → List γ} {P : Program} {w : World} {K : PySem.W.Frag} {mg : Str → Option Value} {base : Heap} {x qual : Str} {params : Arguments} {body : List Stmt} {scope : Scope} {dvs : List V} {kws : List (Str × V)} {fa : Addr} {fd : FuncData} {CX : CXT} {N ps : List Str} {k : Nat}
    (F : FunD K x qual params body scope dvs kws fa fd) (S : FnScope N ps scope) (hl : ps.length = 2)
    (hb : ∀ (cdv : Value) (A : Around) (outer : List Env) (s : Shared) (H : Hp) (E : XK), Room k (A.deeper (envOfC qual scope s.heap.objs.size fa cdv)) → ∃ t, PSs (cxOf CX P w K mg base N qual scope fa cdv A outer s H E).nox body t ∧
      ∀ (wd : Wd) (x0 : V) (x1 : V) (a0 : α0) (a1 : α1) (Q : VK), r0.r K wd.S x0 a0 → r1.r K wd.S x1 a1 → pre a0 a1 → (∀ p w', Gr wd w' → wd.H p = none → OwnL K w' p rc (f a0 a1) → Q (.ref p) w'.H) → t { nx := fun _ H' => Q .non H', rt := Q } (start N [x0, x1]) wd.H) : FnOk P w K mg base CX (k + 1) fa fd ps (spN2 K r0 r1 pre rc f) :=
  FunD.ok F S (fun vs H Q E h => by obtain ⟨wd, x0, x1, a0, a1, hw, hv, _⟩ := h; rw [hl, hv] <;> rfl) fun cdv A outer s H vs Q E hr h => by
    obtain ⟨t, ht, hq⟩ := hb cdv A outer s H E hr
    obtain ⟨wd, x0, x1, a0, a1, hw, hv, q0, q1, hp, q⟩ := h
    subst hv; subst hw
    exact ⟨t, PSs.nox ht, hq wd x0 x1 a0 a1 Q q0 q1 hp q⟩
def spD3 {α0 α1 α2 γ : Type} (K : PySem.W.Frag) (r0 : Rep α0) (r1 : Rep α1) (r2 : Rep α2) (pre : α0 → α1 → α2 → Prop) (rc : Rep γ) (f : α0 → α1 → α2 → γ) : Sp := fun vs H Q _ => ∃ (wd : Wd) (x0 x1 x2 : V) (a0 : α0) (a1 : α1) (a2 : α2), wd.H = H ∧ vs = [x0, x1, x2] ∧ r0.r K wd.S x0 a0 ∧ r1.r K wd.S x1 a1 ∧ r2.r K wd.S x2 a2 ∧ pre a0 a1 a2 ∧ (∀ v w', Gr wd w' → rc.r K w'.S v (f a0 a1 a2) → Q v w'.H)
theorem ev_call3 {α0 α1 α2 γ : Type} {r0 : Rep α0} {r1 : Rep α1} {r2 : Rep α2} {pre : α0 → α1 → α2 → Prop} {rc : Rep γ} {f : α0 → α1 → α2 → γ} {a0 : α0} {a1 : α1} {a2 : α2} {t0 t1 t2 : TE} {σ : L2.St} {w : Wd} {K : PySem.W.Frag} {E : XK} (h0 : EvD K t0 σ w r0 a0) (h1 : EvD K t1 σ w r1 a1) (h2 : EvD K t2 σ w r2 a2) (hp : pre a0 a1 a2) : EvD K (tCall (spD3 K r0 r1 r2 pre rc f) [] E (tCons t0 (tCons t1 (tCons t2 tNil)))) σ w rc (f a0 a1 a2) := fun w1 g Q q =>
  h0 w1 (g) _ fun v0 u0 k0 z0 => h1 u0 (g.trans k0) _ fun v1 u1 k1 z1 => h2 u1 ((g.trans k0).trans k1) _ fun v2 u2 k2 z2 => ⟨u2, _, _, _, _, _, _, rfl, rfl, r0.m ((k1.s).trans k2.s) z0, r1.m (k2.s) z1, z2, hp, fun v w' g' x => q v w' ((((k0).trans k1).trans k2).trans g') x⟩
theorem okD3 {α0 α1 α2 γ : Type} {r0 : Rep α0} {r1 : Rep α1} {r2 : Rep α2} {pre : α0 → α1 → α2 → Prop} {rc : Rep γ} {f : α0 → α1 → α2 → γ} {P : Program} {w : World} {K : PySem.W.Frag} {mg : Str → Option Value} {base : Heap} {x qual : Str} {params : Arguments} {body : List Stmt} {scope : Scope} {dvs : List V} {kws : List (Str × V)} {fa : Addr} {fd : FuncData} {CX : CXT} {N ps : List Str} {k : Nat}
    (F : FunD K x qual params body scope dvs kws fa fd) (S : FnScope N ps scope) (hl : ps.length = 3)
    (hb : ∀ (cdv : Value) (A : Around) (outer : List Env) (s : Shared) (H : Hp) (E : XK), Room k (A.deeper (envOfC qual scope s.heap.objs.size fa cdv)) → ∃ t, PSs (cxOf CX P w K mg base N qual scope fa cdv A outer s H E).nox body t ∧
      ∀ (wd : Wd) (x0 : V) (x1 : V) (x2 : V) (a0 : α0) (a1 : α1) (a2 : α2) (Q : VK), r0.r K wd.S x0 a0 → r1.r K wd.S x1 a1 → r2.r K wd.S x2 a2 → pre a0 a1 a2 → (∀ v w', Gr wd w' → rc.r K w'.S v (f a0 a1 a2) → Q v w'.H) → t { nx := fun _ H' => Q .non H', rt := Q } (start N [x0, x1, x2]) wd.H) : FnOk P w K mg base CX (k + 1) fa fd ps (spD3 K r0 r1 r2 pre rc f) :=
  FunD.ok F S (fun vs H Q E h => by obtain ⟨wd, x0, x1, x2, a0, a1, a2, hw, hv, _⟩ := h; rw [hl, hv] <;> rfl) fun cdv A outer s H vs Q E hr h => by
    obtain ⟨t, ht, hq⟩ := hb cdv A outer s H E hr
    obtain ⟨wd, x0, x1, x2, a0, a1, a2, hw, hv, q0, q1, q2, hp, q⟩ := h
    subst hv; subst hw
    exact ⟨t, PSs.nox ht, hq wd x0 x1 x2 a0 a1 a2 Q q0 q1 q2 hp q⟩
def spN3 {α0 α1 α2 γ : Type} (K : PySem.W.Frag) (r0 : Rep α0) (r1 : Rep α1) (r2 : Rep α2) (pre : α0 → α1 → α2 → Prop) (rc : Rep γ) (f : α0 → α1 → α2 → List γ) : Sp := fun vs H Q _ => ∃ (wd : Wd) (x0 x1 x2 : V) (a0 : α0) (a1 : α1) (a2 : α2), wd.H = H ∧ vs = [x0, x1, x2] ∧ r0.r K wd.S x0 a0 ∧ r1.r K wd.S x1 a1 ∧ r2.r K wd.S x2 a2 ∧ pre a0 a1 a2 ∧ (∀ p w', Gr wd w' → wd.H p = none → OwnL K w' p rc (f a0 a1 a2) → Q (.ref p) w'.H)
theorem en_call3 {α0 α1 α2 γ : Type} {r0 : Rep α0} {r1 : Rep α1} {r2 : Rep α2} {pre : α0 → α1 → α2 → Prop} {rc : Rep γ} {f : α0 → α1 → α2 → List γ} {a0 : α0} {a1 : α1} {a2 : α2} {t0 t1 t2 : TE} {σ : L2.St} {w : Wd} {K : PySem.W.Frag} {E : XK} (h0 : EvD K t0 σ w r0 a0) (h1 : EvD K t1 σ w r1 a1) (h2 : EvD K t2 σ w r2 a2) (hp : pre a0 a1 a2) : EvN K (tCall (spN3 K r0 r1 r2 pre rc f) [] E (tCons t0 (tCons t1 (tCons t2 tNil)))) σ w rc (f a0 a1 a2) := fun w1 g Q q =>
  h0 w1 (g) _ fun v0 u0 k0 z0 => h1 u0 (g.trans k0) _ fun v1 u1 k1 z1 => h2 u1 ((g.trans k0).trans k1) _ fun v2 u2 k2 z2 => ⟨u2, _, _, _, _, _, _, rfl, rfl, r0.m ((k1.s).trans k2.s) z0, r1.m (k2.s) z1, z2, hp, fun p w' g' n x => q p w' ((((k0).trans k1).trans k2).trans g') (fr_back (((k0).trans k1).trans k2) n) x⟩
theorem okN3 {α0 α1 α2 γ : Type} {r0 : Rep α0} {r1 : Rep α1} {r2 : Rep α2} {pre : α0 → α1 → α2 → Prop} {rc : Rep γ} {f : α0 → α1 → α2 → List γ} {P : Program} {w : World} {K : PySem.W.Frag} {mg : Str → Option Value} {base : Heap} {x qual : Str} {params : Arguments} {body : List Stmt} {scope : Scope} {dvs : List V} {kws : List (Str × V)} {fa : Addr} {fd : FuncData} {CX : CXT} {N ps : List Str} {k : Nat}
    (F : FunD K x qual params body scope dvs kws fa fd) (S : FnScope N ps scope) (hl : ps.length = 3)
    (hb : ∀ (cdv : Value) (A : Around) (outer : List Env) (s : Shared) (H : Hp) (E : XK), Room k (A.deeper (envOfC qual scope s.heap.objs.size fa cdv)) → ∃ t, PSs (cxOf CX P w K mg base N qual scope fa cdv A outer s H E).nox body t ∧
      ∀ (wd : Wd) (x0 : V) (x1 : V) (x2 : V) (a0 : α0) (a1 : α1) (a2 : α2) (Q : VK), r0.r K wd.S x0 a0 → r1.r K wd.S x1 a1 → r2.r K wd.S x2 a2 → pre a0 a1 a2 → (∀ p w', Gr wd w' → wd.H p = none → OwnL K w' p rc (f a0 a1 a2) → Q (.ref p) w'.H) → t { nx := fun _ H' => Q .non H', rt := Q } (start N [x0, x1, x2]) wd.H) : FnOk P w K mg base CX (k + 1) fa fd ps (spN3 K r0 r1 r2 pre rc f) :=
  FunD.ok F S (fun vs H Q E h => by obtain ⟨wd, x0, x1, x2, a0, a1, a2, hw, hv, _⟩ := h; rw [hl, hv] <;> rfl) fun cdv A outer s H vs Q E hr h => by
    obtain ⟨t, ht, hq⟩ := hb cdv A outer s H E hr
    obtain ⟨wd, x0, x1, x2, a0, a1, a2, hw, hv, q0, q1, q2, hp, q⟩ := h
    subst hv; subst hw
    exact ⟨t, PSs.nox ht, hq wd x0 x1 x2 a0 a1 a2 Q q0 q1 q2 hp q⟩
def spD4 {α0 α1 α2 α3 γ : Type} (K : PySem.W.Frag) (r0 : Rep α0) (r1 : Rep α1) (r2 : Rep α2) (r3 : Rep α3) (pre : α0 → α1 → α2 → α3 → Prop) (rc : Rep γ) (f : α0 → α1 → α2 → α3 → γ) : Sp := fun vs H Q _ => ∃ (wd : Wd) (x0 x1 x2 x3 : V) (a0 : α0) (a1 : α1) (a2 : α2) (a3 : α3), wd.H = H ∧ vs = [x0, x1, x2, x3] ∧ r0.r K wd.S x0 a0 ∧ r1.r K wd.S x1 a1 ∧ r2.r K wd.S x2 a2 ∧ r3.r K wd.S x3 a3 ∧ pre a0 a1 a2 a3 ∧ (∀ v w', Gr wd w' → rc.r K w'.S v (f a0 a1 a2 a3) → Q v w'.H)
theorem ev_call4 {α0 α1 α2 α3 γ : Type} {r0 : Rep α0} {r1 : Rep α1} {r2 : Rep α2} {r3 : Rep α3} {pre : α0 → α1 → α2 → α3 → Prop} {rc : Rep γ} {f : α0 → α1 → α2 → α3 → γ} {a0 : α0} {a1 : α1} {a2 : α2} {a3 : α3} {t0 t1 t2 t3 : TE} {σ : L2.St} {w : Wd} {K : PySem.W.Frag} {E : XK} (h0 : EvD K t0 σ w r0 a0) (h1 : EvD K t1 σ w r1 a1) (h2 : EvD K t2 σ w r2 a2) (h3 : EvD K t3 σ w r3 a3) (hp : pre a0 a1 a2 a3) : EvD K (tCall (spD4 K r0 r1 r2 r3 pre rc f) [] E (tCons t0 (tCons t1 (tCons t2 (tCons t3 tNil))))) σ w rc (f a0 a1 a2 a3) := fun w1 g Q q =>
  h0 w1 (g) _ fun v0 u0 k0 z0 => h1 u0 (g.trans k0) _ fun v1 u1 k1 z1 => h2 u1 ((g.trans k0).trans k1) _ fun v2 u2 k2 z2 => h3 u2 (((g.trans k0).trans k1).trans k2) _ fun v3 u3 k3 z3 => ⟨u3, _, _, _, _, _, _, _, _, rfl, rfl, r0.m (((k1.s).trans k2.s).trans k3.s) z0, r1.m ((k2.s).trans k3.s) z1, r2.m (k3.s) z2, z3, hp, fun v w' g' x => q v w' (((((k0).trans k1).trans k2).trans k3).trans g') x⟩
theorem okD4 {α0 α1 α2 α3 γ : Type} {r0 : Rep α0} {r1 : Rep α1} {r2 : Rep α2} {r3 : Rep α3} {pre : α0 → α1 → α2 → α3 → Prop} {rc : Rep γ} {f : α0 → α1 → α2 → α3 → γ} {P : Program} {w : World} {K : PySem.W.Frag} {mg : Str → Option Value} {base : Heap} {x qual : Str} {params : Arguments} {body : List Stmt} {scope : Scope} {dvs : List V} {kws : List (Str × V)} {fa : Addr} {fd : FuncData} {CX : CXT} {N ps : List Str} {k : Nat}
    (F : FunD K x qual params body scope dvs kws fa fd) (S : FnScope N ps scope) (hl : ps.length = 4)
    (hb : ∀ (cdv : Value) (A : Around) (outer : List Env) (s : Shared) (H : Hp) (E : XK), Room k (A.deeper (envOfC qual scope s.heap.objs.size fa cdv)) → ∃ t, PSs (cxOf CX P w K mg base N qual scope fa cdv A outer s H E).nox body t ∧
      ∀ (wd : Wd) (x0 : V) (x1 : V) (x2 : V) (x3 : V) (a0 : α0) (a1 : α1) (a2 : α2) (a3 : α3) (Q : VK), r0.r K wd.S x0 a0 → r1.r K wd.S x1 a1 → r2.r K wd.S x2 a2 → r3.r K wd.S x3 a3 → pre a0 a1 a2 a3 → (∀ v w', Gr wd w' → rc.r K w'.S v (f a0 a1 a2 a3) → Q v w'.H) → t { nx := fun _ H' => Q .non H', rt := Q } (start N [x0, x1, x2, x3]) wd.H) : FnOk P w K mg base CX (k + 1) fa fd ps (spD4 K r0 r1 r2 r3 pre rc f) :=
  FunD.ok F S (fun vs H Q E h => by obtain ⟨wd, x0, x1, x2, x3, a0, a1, a2, a3, hw, hv, _⟩ := h; rw [hl, hv] <;> rfl) fun cdv A outer s H vs Q E hr h => by
    obtain ⟨t, ht, hq⟩ := hb cdv A outer s H E hr
    obtain ⟨wd, x0, x1, x2, x3, a0, a1, a2, a3, hw, hv, q0, q1, q2, q3, hp, q⟩ := h
    subst hv; subst hw
    exact ⟨t, PSs.nox ht, hq wd x0 x1 x2 x3 a0 a1 a2 a3 Q q0 q1 q2 q3 hp q⟩
def spN4 {α0 α1 α2 α3 γ : Type} (K : PySem.W.Frag) (r0 : Rep α0) (r1 : Rep α1) (r2 : Rep α2) (r3 : Rep α3) (pre : α0 → α1 → α2 → α3 → Prop) (rc : Rep γ) (f : α0 → α1 → α2 → α3 → List γ) : Sp := fun vs H Q _ => ∃ (wd : Wd) (x0 x1 x2 x3 : V) (a0 : α0) (a1 : α1) (a2 : α2) (a3 : α3), wd.H = H ∧ vs = [x0, x1, x2, x3] ∧ r0.r K wd.S x0 a0 ∧ r1.r K wd.S x1 a1 ∧ r2.r K wd.S x2 a2 ∧ r3.r K wd.S x3 a3 ∧ pre a0 a1 a2 a3 ∧ (∀ p w', Gr wd w' → wd.H p = none → OwnL K w' p rc (f a0 a1 a2 a3) → Q (.ref p) w'.H)
theorem en_call4 {α0 α1 α2 α3 γ : Type} {r0 : Rep α0} {r1 : Rep α1} {r2 : Rep α2} {r3 : Rep α3} {pre : α0 → α1 → α2 → α3 → Prop} {rc : Rep γ} {f : α0 → α1 → α2 → α3 → List γ} {a0 : α0} {a1 : α1} {a2 : α2} {a3 : α3} {t0 t1 t2 t3 : TE} {σ : L2.St} {w : Wd} {K : PySem.W.Frag} {E : XK} (h0 : EvD K t0 σ w r0 a0) (h1 : EvD K t1 σ w r1 a1) (h2 : EvD K t2 σ w r2 a2) (h3 : EvD K t3 σ w r3 a3) (hp : pre a0 a1 a2 a3) : EvN K (tCall (spN4 K r0 r1 r2 r3 pre rc f) [] E (tCons t0 (tCons t1 (tCons t2 (tCons t3 tNil))))) σ w rc (f a0 a1 a2 a3) := fun w1 g Q q =>
  h0 w1 (g) _ fun v0 u0 k0 z0 => h1 u0 (g.trans k0) _ fun v1 u1 k1 z1 => h2 u1 ((g.trans k0).trans k1) _ fun v2 u2 k2 z2 => h3 u2 (((g.trans k0).trans k1).trans k2) _ fun v3 u3 k3 z3 => ⟨u3, _, _, _, _, _, _, _, _, rfl, rfl, r0.m (((k1.s).trans k2.s).trans k3.s) z0, r1.m ((k2.s).trans k3.s) z1, r2.m (k3.s) z2, z3, hp, fun p w' g' n x => q p w' (((((k0).trans k1).trans k2).trans k3).trans g') (fr_back ((((k0).trans k1).trans k2).trans k3) n) x⟩
theorem okN4 {α0 α1 α2 α3 γ : Type} {r0 : Rep α0} {r1 : Rep α1} {r2 : Rep α2} {r3 : Rep α3} {pre : α0 → α1 → α2 → α3 → Prop} {rc : Rep γ} {f : α0 → α1 → α2 → α3 → List γ} {P : Program} {w : World} {K : PySem.W.Frag} {mg : Str → Option Value} {base : Heap} {x qual : Str} {params : Arguments} {body : List Stmt} {scope : Scope} {dvs : List V} {kws : List (Str × V)} {fa : Addr} {fd : FuncData} {CX : CXT} {N ps : List Str} {k : Nat}
    (F : FunD K x qual params body scope dvs kws fa fd) (S : FnScope N ps scope) (hl : ps.length = 4)
    (hb : ∀ (cdv : Value) (A : Around) (outer : List Env) (s : Shared) (H : Hp) (E : XK), Room k (A.deeper (envOfC qual scope s.heap.objs.size fa cdv)) → ∃ t, PSs (cxOf CX P w K mg base N qual scope fa cdv A outer s H E).nox body t ∧
      ∀ (wd : Wd) (x0 : V) (x1 : V) (x2 : V) (x3 : V) (a0 : α0) (a1 : α1) (a2 : α2) (a3 : α3) (Q : VK), r0.r K wd.S x0 a0 → r1.r K wd.S x1 a1 → r2.r K wd.S x2 a2 → r3.r K wd.S x3 a3 → pre a0 a1 a2 a3 → (∀ p w', Gr wd w' → wd.H p = none → OwnL K w' p rc (f a0 a1 a2 a3) → Q (.ref p) w'.H) → t { nx := fun _ H' => Q .non H', rt := Q } (start N [x0, x1, x2, x3]) wd.H) : FnOk P w K mg base CX (k + 1) fa fd ps (spN4 K r0 r1 r2 r3 pre rc f) :=
  FunD.ok F S (fun vs H Q E h => by obtain ⟨wd, x0, x1, x2, x3, a0, a1, a2, a3, hw, hv, _⟩ := h; rw [hl, hv] <;> rfl) fun cdv A outer s H vs Q E hr h => by
    obtain ⟨t, ht, hq⟩ := hb cdv A outer s H E hr
    obtain ⟨wd, x0, x1, x2, x3, a0, a1, a2, a3, hw, hv, q0, q1, q2, q3, hp, q⟩ := h
    subst hv; subst hw
    exact ⟨t, PSs.nox ht, hq wd x0 x1 x2 x3 a0 a1 a2 a3 Q q0 q1 q2 q3 hp q⟩
def spD5 {α0 α1 α2 α3 α4 γ : Type} (K : PySem.W.Frag) (r0 : Rep α0) (r1 : Rep α1) (r2 : Rep α2) (r3 : Rep α3) (r4 : Rep α4) (pre : α0 → α1 → α2 → α3 → α4 → Prop) (rc : Rep γ) (f : α0 → α1 → α2 → α3 → α4 → γ) : Sp := fun vs H Q _ => ∃ (wd : Wd) (x0 x1 x2 x3 x4 : V) (a0 : α0) (a1 : α1) (a2 : α2) (a3 : α3) (a4 : α4), wd.H = H ∧ vs = [x0, x1, x2, x3, x4] ∧ r0.r K wd.S x0 a0 ∧ r1.r K wd.S x1 a1 ∧ r2.r K wd.S x2 a2 ∧ r3.r K wd.S x3 a3 ∧ r4.r K wd.S x4 a4 ∧ pre a0 a1 a2 a3 a4 ∧ (∀ v w', Gr wd w' → rc.r K w'.S v (f a0 a1 a2 a3 a4) → Q v w'.H)
theorem ev_call5 {α0 α1 α2 α3 α4 γ : Type} {r0 : Rep α0} {r1 : Rep α1} {r2 : Rep α2} {r3 : Rep α3} {r4 : Rep α4} {pre : α0 → α1 → α2 → α3 → α4 → Prop} {rc : Rep γ} {f : α0 → α1 → α2 → α3 → α4 → γ} {a0 : α0} {a1 : α1} {a2 : α2} {a3 : α3} {a4 : α4} {t0 t1 t2 t3 t4 : TE} {σ : L2.St} {w : Wd} {K : PySem.W.Frag} {E : XK} (h0 : EvD K t0 σ w r0 a0) (h1 : EvD K t1 σ w r1 a1) (h2 : EvD K t2 σ w r2 a2) (h3 : EvD K t3 σ w r3 a3) (h4 : EvD K t4 σ w r4 a4) (hp : pre a0 a1 a2 a3 a4) : EvD K (tCall (spD5 K r0 r1 r2 r3 r4 pre rc f) [] E (tCons t0 (tCons t1 (tCons t2 (tCons t3 (tCons t4 tNil)))))) σ w rc (f a0 a1 a2 a3 a4) := fun w1 g Q q =>
  h0 w1 (g) _ fun v0 u0 k0 z0 => h1 u0 (g.trans k0) _ fun v1 u1 k1 z1 => h2 u1 ((g.trans k0).trans k1) _ fun v2 u2 k2 z2 => h3 u2 (((g.trans k0).trans k1).trans k2) _ fun v3 u3 k3 z3 => h4 u3 ((((g.trans k0).trans k1).trans k2).trans k3) _ fun v4 u4 k4 z4 => ⟨u4, _, _, _, _, _, _, _, _, _, _, rfl, rfl, r0.m ((((k1.s).trans k2.s).trans k3.s).trans k4.s) z0, r1.m (((k2.s).trans k3.s).trans k4.s) z1, r2.m ((k3.s).trans k4.s) z2, r3.m (k4.s) z3, z4, hp, fun v w' g' x => q v w' ((((((k0).trans k1).trans k2).trans k3).trans k4).trans g') x⟩
theorem okD5 {α0 α1 α2 α3 α4 γ : Type} {r0 : Rep α0} {r1 : Rep α1} {r2 : Rep α2} {r3 : Rep α3} {r4 : Rep α4} {pre : α0 → α1 → α2 → α3 → α4 → Prop} {rc : Rep γ} {f : α0 → α1 → α2 → α3 → α4 → γ} {P : Program} {w : World} {K : PySem.W.Frag} {mg : Str → Option Value} {base : Heap} {x qual : Str} {params : Arguments} {body : List Stmt} {scope : Scope} {dvs : List V} {kws : List (Str × V)} {fa : Addr} {fd : FuncData} {CX : CXT} {N ps : List Str} {k : Nat}
    (F : FunD K x qual params body scope dvs kws fa fd) (S : FnScope N ps scope) (hl : ps.length = 5)
    (hb : ∀ (cdv : Value) (A : Around) (outer : List Env) (s : Shared) (H : Hp) (E : XK), Room k (A.deeper (envOfC qual scope s.heap.objs.size fa cdv)) → ∃ t, PSs (cxOf CX P w K mg base N qual scope fa cdv A outer s H E).nox body t ∧
      ∀ (wd : Wd) (x0 : V) (x1 : V) (x2 : V) (x3 : V) (x4 : V) (a0 : α0) (a1 : α1) (a2 : α2) (a3 : α3) (a4 : α4) (Q : VK), r0.r K wd.S x0 a0 → r1.r K wd.S x1 a1 → r2.r K wd.S x2 a2 → r3.r K wd.S x3 a3 → r4.r K wd.S x4 a4 → pre a0 a1 a2 a3 a4 → (∀ v w', Gr wd w' → rc.r K w'.S v (f a0 a1 a2 a3 a4) → Q v w'.H) → t { nx := fun _ H' => Q .non H', rt := Q } (start N [x0, x1, x2, x3, x4]) wd.H) : FnOk P w K mg base CX (k + 1) fa fd ps (spD5 K r0 r1 r2 r3 r4 pre rc f) :=
  FunD.ok F S (fun vs H Q E h => by obtain ⟨wd, x0, x1, x2, x3, x4, a0, a1, a2, a3, a4, hw, hv, _⟩ := h; rw [hl, hv] <;> rfl) fun cdv A outer s H vs Q E hr h => by
    obtain ⟨t, ht, hq⟩ := hb cdv A outer s H E hr
    obtain ⟨wd, x0, x1, x2, x3, x4, a0, a1, a2, a3, a4, hw, hv, q0, q1, q2, q3, q4, hp, q⟩ := h
    subst hv; subst hw
    exact ⟨t, PSs.nox ht, hq wd x0 x1 x2 x3 x4 a0 a1 a2 a3 a4 Q q0 q1 q2 q3 q4 hp q⟩
def spN5 {α0 α1 α2 α3 α4 γ : Type} (K : PySem.W.Frag) (r0 : Rep α0) (r1 : Rep α1) (r2 : Rep α2) (r3 : Rep α3) (r4 : Rep α4) (pre : α0 → α1 → α2 → α3 → α4 → Prop) (rc : Rep γ) (f : α0 → α1 → α2 → α3 → α4 → List γ) : Sp := fun vs H Q _ => ∃ (wd : Wd) (x0 x1 x2 x3 x4 : V) (a0 : α0) (a1 : α1) (a2 : α2) (a3 : α3) (a4 : α4), wd.H = H ∧ vs = [x0, x1, x2, x3, x4] ∧ r0.r K wd.S x0 a0 ∧ r1.r K wd.S x1 a1 ∧ r2.r K wd.S x2 a2 ∧ r3.r K wd.S x3 a3 ∧ r4.r K wd.S x4 a4 ∧ pre a0 a1 a2 a3 a4 ∧ (∀ p w', Gr wd w' → wd.H p = none → OwnL K w' p rc (f a0 a1 a2 a3 a4) → Q (.ref p) w'.H)
theorem en_call5 {α0 α1 α2 α3 α4 γ : Type} {r0 : Rep α0} {r1 : Rep α1} {r2 : Rep α2} {r3 : Rep α3} {r4 : Rep α4} {pre : α0 → α1 → α2 → α3 → α4 → Prop} {rc : Rep γ} {f : α0 → α1 → α2 → α3 → α4 → List γ} {a0 : α0} {a1 : α1} {a2 : α2} {a3 : α3} {a4 : α4} {t0 t1 t2 t3 t4 : TE} {σ : L2.St} {w : Wd} {K : PySem.W.Frag} {E : XK} (h0 : EvD K t0 σ w r0 a0) (h1 : EvD K t1 σ w r1 a1) (h2 : EvD K t2 σ w r2 a2) (h3 : EvD K t3 σ w r3 a3) (h4 : EvD K t4 σ w r4 a4) (hp : pre a0 a1 a2 a3 a4) : EvN K (tCall (spN5 K r0 r1 r2 r3 r4 pre rc f) [] E (tCons t0 (tCons t1 (tCons t2 (tCons t3 (tCons t4 tNil)))))) σ w rc (f a0 a1 a2 a3 a4) := fun w1 g Q q =>
  h0 w1 (g) _ fun v0 u0 k0 z0 => h1 u0 (g.trans k0) _ fun v1 u1 k1 z1 => h2 u1 ((g.trans k0).trans k1) _ fun v2 u2 k2 z2 => h3 u2 (((g.trans k0).trans k1).trans k2) _ fun v3 u3 k3 z3 => h4 u3 ((((g.trans k0).trans k1).trans k2).trans k3) _ fun v4 u4 k4 z4 => ⟨u4, _, _, _, _, _, _, _, _, _, _, rfl, rfl, r0.m ((((k1.s).trans k2.s).trans k3.s).trans k4.s) z0, r1.m (((k2.s).trans k3.s).trans k4.s) z1, r2.m ((k3.s).trans k4.s) z2, r3.m (k4.s) z3, z4, hp, fun p w' g' n x => q p w' ((((((k0).trans k1).trans k2).trans k3).trans k4).trans g') (fr_back (((((k0).trans k1).trans k2).trans k3).trans k4) n) x⟩
theorem okN5 {α0 α1 α2 α3 α4 γ : Type} {r0 : Rep α0} {r1 : Rep α1} {r2 : Rep α2} {r3 : Rep α3} {r4 : Rep α4} {pre : α0 → α1 → α2 → α3 → α4 → Prop} {rc : Rep γ} {f : α0 → α1 → α2 → α3 → α4 → List γ} {P : Program} {w : World} {K : PySem.W.Frag} {mg : Str → Option Value} {base : Heap} {x qual : Str} {params : Arguments} {body : List Stmt} {scope : Scope} {dvs : List V} {kws : List (Str × V)} {fa : Addr} {fd : FuncData} {CX : CXT} {N ps : List Str} {k : Nat}
    (F : FunD K x qual params body scope dvs kws fa fd) (S : FnScope N ps scope) (hl : ps.length = 5)
    (hb : ∀ (cdv : Value) (A : Around) (outer : List Env) (s : Shared) (H : Hp) (E : XK), Room k (A.deeper (envOfC qual scope s.heap.objs.size fa cdv)) → ∃ t, PSs (cxOf CX P w K mg base N qual scope fa cdv A outer s H E).nox body t ∧
      ∀ (wd : Wd) (x0 : V) (x1 : V) (x2 : V) (x3 : V) (x4 : V) (a0 : α0) (a1 : α1) (a2 : α2) (a3 : α3) (a4 : α4) (Q : VK), r0.r K wd.S x0 a0 → r1.r K wd.S x1 a1 → r2.r K wd.S x2 a2 → r3.r K wd.S x3 a3 → r4.r K wd.S x4 a4 → pre a0 a1 a2 a3 a4 → (∀ p w', Gr wd w' → wd.H p = none → OwnL K w' p rc (f a0 a1 a2 a3 a4) → Q (.ref p) w'.H) → t { nx := fun _ H' => Q .non H', rt := Q } (start N [x0, x1, x2, x3, x4]) wd.H) : FnOk P w K mg base CX (k + 1) fa fd ps (spN5 K r0 r1 r2 r3 r4 pre rc f) :=
  FunD.ok F S (fun vs H Q E h => by obtain ⟨wd, x0, x1, x2, x3, x4, a0, a1, a2, a3, a4, hw, hv, _⟩ := h; rw [hl, hv] <;> rfl) fun cdv A outer s H vs Q E hr h => by
    obtain ⟨t, ht, hq⟩ := hb cdv A outer s H E hr
    obtain ⟨wd, x0, x1, x2, x3, x4, a0, a1, a2, a3, a4, hw, hv, q0, q1, q2, q3, q4, hp, q⟩ := h
    subst hv; subst hw
    exact ⟨t, PSs.nox ht, hq wd x0 x1 x2 x3 x4 a0 a1 a2 a3 a4 Q q0 q1 q2 q3 q4 hp q⟩
def spD6 {α0 α1 α2 α3 α4 α5 γ : Type} (K : PySem.W.Frag) (r0 : Rep α0) (r1 : Rep α1) (r2 : Rep α2) (r3 : Rep α3) (r4 : Rep α4) (r5 : Rep α5) (pre : α0 → α1 → α2 → α3 → α4 → α5 → Prop) (rc : Rep γ) (f : α0 → α1 → α2 → α3 → α4 → α5 → γ) : Sp := fun vs H Q _ => ∃ (wd : Wd) (x0 x1 x2 x3 x4 x5 : V) (a0 : α0) (a1 : α1) (a2 : α2) (a3 : α3) (a4 : α4) (a5 : α5), wd.H = H ∧ vs = [x0, x1, x2, x3, x4, x5] ∧ r0.r K wd.S x0 a0 ∧ r1.r K wd.S x1 a1 ∧ r2.r K wd.S x2 a2 ∧ r3.r K wd.S x3 a3 ∧ r4.r K wd.S x4 a4 ∧ r5.r K wd.S x5 a5 ∧ pre a0 a1 a2 a3 a4 a5 ∧ (∀ v w', Gr wd w' → rc.r K w'.S v (f a0 a1 a2 a3 a4 a5) → Q v w'.H)
theorem ev_call6 {α0 α1 α2 α3 α4 α5 γ : Type} {r0 : Rep α0} {r1 : Rep α1} {r2 : Rep α2} {r3 : Rep α3} {r4 : Rep α4} {r5 : Rep α5} {pre : α0 → α1 → α2 → α3 → α4 → α5 → Prop} {rc : Rep γ} {f : α0 → α1 → α2 → α3 → α4 → α5 → γ} {a0 : α0} {a1 : α1} {a2 : α2} {a3 : α3} {a4 : α4} {a5 : α5} {t0 t1 t2 t3 t4 t5 : TE} {σ : L2.St} {w : Wd} {K : PySem.W.Frag} {E : XK} (h0 : EvD K t0 σ w r0 a0) (h1 : EvD K t1 σ w r1 a1) (h2 : EvD K t2 σ w r2 a2) (h3 : EvD K t3 σ w r3 a3) (h4 : EvD K t4 σ w r4 a4) (h5 : EvD K t5 σ w r5 a5) (hp : pre a0 a1 a2 a3 a4 a5) : EvD K (tCall (spD6 K r0 r1 r2 r3 r4 r5 pre rc f) [] E (tCons t0 (tCons t1 (tCons t2 (tCons t3 (tCons t4 (tCons t5 tNil))))))) σ w rc (f a0 a1 a2 a3 a4 a5) := fun w1 g Q q =>
  h0 w1 (g) _ fun v0 u0 k0 z0 => h1 u0 (g.trans k0) _ fun v1 u1 k1 z1 => h2 u1 ((g.trans k0).trans k1) _ fun v2 u2 k2 z2 => h3 u2 (((g.trans k0).trans k1).trans k2) _ fun v3 u3 k3 z3 => h4 u3 ((((g.trans k0).trans k1).trans k2).trans k3) _ fun v4 u4 k4 z4 => h5 u4 (((((g.trans k0).trans k1).trans k2).trans k3).trans k4) _ fun v5 u5 k5 z5 => ⟨u5, _, _, _, _, _, _, _, _, _, _, _, _, rfl, rfl, r0.m (((((k1.s).trans k2.s).trans k3.s).trans k4.s).trans k5.s) z0, r1.m ((((k2.s).trans k3.s).trans k4.s).trans k5.s) z1, r2.m (((k3.s).trans k4.s).trans k5.s) z2, r3.m ((k4.s).trans k5.s) z3, r4.m (k5.s) z4, z5, hp, fun v w' g' x => q v w' (((((((k0).trans k1).trans k2).trans k3).trans k4).trans k5).trans g') x⟩
theorem okD6 {α0 α1 α2 α3 α4 α5 γ : Type} {r0 : Rep α0} {r1 : Rep α1} {r2 : Rep α2} {r3 : Rep α3} {r4 : Rep α4} {r5 : Rep α5} {pre : α0 → α1 → α2 → α3 → α4 → α5 → Prop} {rc : Rep γ} {f : α0 → α1 → α2 → α3 → α4 → α5 → γ} {P : Program} {w : World} {K : PySem.W.Frag} {mg : Str → Option Value} {base : Heap} {x qual : Str} {params : Arguments} {body : List Stmt} {scope : Scope} {dvs : List V} {kws : List (Str × V)} {fa : Addr} {fd : FuncData} {CX : CXT} {N ps : List Str} {k : Nat}
    (F : FunD K x qual params body scope dvs kws fa fd) (S : FnScope N ps scope) (hl : ps.length = 6)
    (hb : ∀ (cdv : Value) (A : Around) (outer : List Env) (s : Shared) (H : Hp) (E : XK), Room k (A.deeper (envOfC qual scope s.heap.objs.size fa cdv)) → ∃ t, PSs (cxOf CX P w K mg base N qual scope fa cdv A outer s H E).nox body t ∧
      ∀ (wd : Wd) (x0 : V) (x1 : V) (x2 : V) (x3 : V) (x4 : V) (x5 : V) (a0 : α0) (a1 : α1) (a2 : α2) (a3 : α3) (a4 : α4) (a5 : α5) (Q : VK), r0.r K wd.S x0 a0 → r1.r K wd.S x1 a1 → r2.r K wd.S x2 a2 → r3.r K wd.S x3 a3 → r4.r K wd.S x4 a4 → r5.r K wd.S x5 a5 → pre a0 a1 a2 a3 a4 a5 → (∀ v w', Gr wd w' → rc.r K w'.S v (f a0 a1 a2 a3 a4 a5) → Q v w'.H) → t { nx := fun _ H' => Q .non H', rt := Q } (start N [x0, x1, x2, x3, x4, x5]) wd.H) : FnOk P w K mg base CX (k + 1) fa fd ps (spD6 K r0 r1 r2 r3 r4 r5 pre rc f) :=
  FunD.ok F S (fun vs H Q E h => by obtain ⟨wd, x0, x1, x2, x3, x4, x5, a0, a1, a2, a3, a4, a5, hw, hv, _⟩ := h; rw [hl, hv] <;> rfl) fun cdv A outer s H vs Q E hr h => by
    obtain ⟨t, ht, hq⟩ := hb cdv A outer s H E hr
    obtain ⟨wd, x0, x1, x2, x3, x4, x5, a0, a1, a2, a3, a4, a5, hw, hv, q0, q1, q2, q3, q4, q5, hp, q⟩ := h
    subst hv; subst hw
    exact ⟨t, PSs.nox ht, hq wd x0 x1 x2 x3 x4 x5 a0 a1 a2 a3 a4 a5 Q q0 q1 q2 q3 q4 q5 hp q⟩
def spN6 {α0 α1 α2 α3 α4 α5 γ : Type} (K : PySem.W.Frag) (r0 : Rep α0) (r1 : Rep α1) (r2 : Rep α2) (r3 : Rep α3) (r4 : Rep α4) (r5 : Rep α5) (pre : α0 → α1 → α2 → α3 → α4 → α5 → Prop) (rc : Rep γ) (f : α0 → α1 → α2 → α3 → α4 → α5 → List γ) : Sp := fun vs H Q _ => ∃ (wd : Wd) (x0 x1 x2 x3 x4 x5 : V) (a0 : α0) (a1 : α1) (a2 : α2) (a3 : α3) (a4 : α4) (a5 : α5), wd.H = H ∧ vs = [x0, x1, x2, x3, x4, x5] ∧ r0.r K wd.S x0 a0 ∧ r1.r K wd.S x1 a1 ∧ r2.r K wd.S x2 a2 ∧ r3.r K wd.S x3 a3 ∧ r4.r K wd.S x4 a4 ∧ r5.r K wd.S x5 a5 ∧ pre a0 a1 a2 a3 a4 a5 ∧ (∀ p w', Gr wd w' → wd.H p = none → OwnL K w' p rc (f a0 a1 a2 a3 a4 a5) → Q (.ref p) w'.H)
theorem en_call6 {α0 α1 α2 α3 α4 α5 γ : Type} {r0 : Rep α0} {r1 : Rep α1} {r2 : Rep α2} {r3 : Rep α3} {r4 : Rep α4} {r5 : Rep α5} {pre : α0 → α1 → α2 → α3 → α4 → α5 → Prop} {rc : Rep γ} {f : α0 → α1 → α2 → α3 → α4 → α5 → List γ} {a0 : α0} {a1 : α1} {a2 : α2} {a3 : α3} {a4 : α4} {a5 : α5} {t0 t1 t2 t3 t4 t5 : TE} {σ : L2.St} {w : Wd} {K : PySem.W.Frag} {E : XK} (h0 : EvD K t0 σ w r0 a0) (h1 : EvD K t1 σ w r1 a1) (h2 : EvD K t2 σ w r2 a2) (h3 : EvD K t3 σ w r3 a3) (h4 : EvD K t4 σ w r4 a4) (h5 : EvD K t5 σ w r5 a5) (hp : pre a0 a1 a2 a3 a4 a5) : EvN K (tCall (spN6 K r0 r1 r2 r3 r4 r5 pre rc f) [] E (tCons t0 (tCons t1 (tCons t2 (tCons t3 (tCons t4 (tCons t5 tNil))))))) σ w rc (f a0 a1 a2 a3 a4 a5) := fun w1 g Q q =>
  h0 w1 (g) _ fun v0 u0 k0 z0 => h1 u0 (g.trans k0) _ fun v1 u1 k1 z1 => h2 u1 ((g.trans k0).trans k1) _ fun v2 u2 k2 z2 => h3 u2 (((g.trans k0).trans k1).trans k2) _ fun v3 u3 k3 z3 => h4 u3 ((((g.trans k0).trans k1).trans k2).trans k3) _ fun v4 u4 k4 z4 => h5 u4 (((((g.trans k0).trans k1).trans k2).trans k3).trans k4) _ fun v5 u5 k5 z5 => ⟨u5, _, _, _, _, _, _, _, _, _, _, _, _, rfl, rfl, r0.m (((((k1.s).trans k2.s).trans k3.s).trans k4.s).trans k5.s) z0, r1.m ((((k2.s).trans k3.s).trans k4.s).trans k5.s) z1, r2.m (((k3.s).trans k4.s).trans k5.s) z2, r3.m ((k4.s).trans k5.s) z3, r4.m (k5.s) z4, z5, hp, fun p w' g' n x => q p w' (((((((k0).trans k1).trans k2).trans k3).trans k4).trans k5).trans g') (fr_back ((((((k0).trans k1).trans k2).trans k3).trans k4).trans k5) n) x⟩
theorem okN6 {α0 α1 α2 α3 α4 α5 γ : Type} {r0 : Rep α0} {r1 : Rep α1} {r2 : Rep α2} {r3 : Rep α3} {r4 : Rep α4} {r5 : Rep α5} {pre : α0 → α1 → α2 → α3 → α4 → α5 → Prop} {rc : Rep γ} {f : α0 → α1 → α2 → α3 → α4 → α5 → List γ} {P : Program} {w : World} {K : PySem.W.Frag} {mg : Str → Option Value} {base : Heap} {x qual : Str} {params : Arguments} {body : List Stmt} {scope : Scope} {dvs : List V} {kws : List (Str × V)} {fa : Addr} {fd : FuncData} {CX : CXT} {N ps : List Str} {k : Nat}
    (F : FunD K x qual params body scope dvs kws fa fd) (S : FnScope N ps scope) (hl : ps.length = 6)
    (hb : ∀ (cdv : Value) (A : Around) (outer : List Env) (s : Shared) (H : Hp) (E : XK), Room k (A.deeper (envOfC qual scope s.heap.objs.size fa cdv)) → ∃ t, PSs (cxOf CX P w K mg base N qual scope fa cdv A outer s H E).nox body t ∧
      ∀ (wd : Wd) (x0 : V) (x1 : V) (x2 : V) (x3 : V) (x4 : V) (x5 : V) (a0 : α0) (a1 : α1) (a2 : α2) (a3 : α3) (a4 : α4) (a5 : α5) (Q : VK), r0.r K wd.S x0 a0 → r1.r K wd.S x1 a1 → r2.r K wd.S x2 a2 → r3.r K wd.S x3 a3 → r4.r K wd.S x4 a4 → r5.r K wd.S x5 a5 → pre a0 a1 a2 a3 a4 a5 → (∀ p w', Gr wd w' → wd.H p = none → OwnL K w' p rc (f a0 a1 a2 a3 a4 a5) → Q (.ref p) w'.H) → t { nx := fun _ H' => Q .non H', rt := Q } (start N [x0, x1, x2, x3, x4, x5]) wd.H) : FnOk P w K mg base CX (k + 1) fa fd ps (spN6 K r0 r1 r2 r3 r4 r5 pre rc f) :=
  FunD.ok F S (fun vs H Q E h => by obtain ⟨wd, x0, x1, x2, x3, x4, x5, a0, a1, a2, a3, a4, a5, hw, hv, _⟩ := h; rw [hl, hv] <;> rfl) fun cdv A outer s H vs Q E hr h => by
    obtain ⟨t, ht, hq⟩ := hb cdv A outer s H E hr
    obtain ⟨wd, x0, x1, x2, x3, x4, x5, a0, a1, a2, a3, a4, a5, hw, hv, q0, q1, q2, q3, q4, q5, hp, q⟩ := h
    subst hv; subst hw
    exact ⟨t, PSs.nox ht, hq wd x0 x1 x2 x3 x4 x5 a0 a1 a2 a3 a4 a5 Q q0 q1 q2 q3 q4 q5 hp q⟩
section
variable {K : PySem.W.Frag} {σ : L2.St} {w w' : Wd} {ta tb tc te tl : TE} {t u : TT} {α β γ δ : Type} {r : Rep α} {rb : Rep β} {rc : Rep γ} {a : α} {e : Rep α} {l : List α} {D : Ends} {tu tw tz tb : TS} {g : TG}
/-! loops whose target is a name, is a pair of names -/
theorem s_for {wi : TI} {j : Nat} (h : EvI K wi σ w e l) (I : Nat → L2.St → Wd → Prop) (h0 : ∀ w1, Gr w w1 → I 0 σ w1)
    (hs : ∀ i a v σ' w' w2, l[i]? = some a → Ex w.S w'.S → I i σ' w' → Gr w' w2 → e.r K w2.S v a → tb { D with nx := Nxt (I (i + 1)) w', ct := Nxt (I (i + 1)) w', bk := D.nx } (σ'.set j (some v)) w2.H)
    (hd : ∀ σ' w', Ex w.S w'.S → I l.length σ' w' → D.nx σ' w'.H) : tFor wi (gName j) tb D σ w.H := for_core h I h0 hs hd
theorem q_for {wi : TI} {j : Nat} (h : EvI K wi σ w e l) (I : Nat → L2.St → Wd → Prop) (h0 : ∀ w1, Gr w w1 → I 0 σ w1)
    (hs : ∀ i a v σ' w' w2, l[i]? = some a → Ex w.S w'.S → I i σ' w' → Gr w' w2 → e.r K w2.S v a → tb { D with nx := Nxt (I (i + 1)) w', ct := Nxt (I (i + 1)) w', bk := tz D } (σ'.set j (some v)) w2.H)
    (hd : ∀ σ' w', Ex w.S w'.S → I l.length σ' w' → tz D σ' w'.H) : tSeq (tFor wi (gName j) tb) tz D σ w.H := for_core (D := { D with nx := tz D }) h I h0 hs hd
theorem s_for2 {wi : TI} {i j n : Nat} {l : List (α × β)} (h : EvI K wi σ w (Rep.pair e rb) l) (hn : n = 2) (I : Nat → L2.St → Wd → Prop) (h0 : ∀ w1, Gr w w1 → I 0 σ w1)
    (hs : ∀ m a v v' σ' w' w2, l[m]? = some a → Ex w.S w'.S → I m σ' w' → Gr w' w2 → e.r K w2.S v a.1 → rb.r K w2.S v' a.2 → tb { D with nx := Nxt (I (m + 1)) w', ct := Nxt (I (m + 1)) w', bk := D.nx } ((σ'.set i (some v)).set j (some v')) w2.H)
    (hd : ∀ σ' w', Ex w.S w'.S → I l.length σ' w' → D.nx σ' w'.H) : tFor wi (gTup K n (gCons (gName i) (gCons (gName j) gNil))) tb D σ w.H :=
  for_core h I h0 (fun m a v σ' w' w2 x1 x2 x3 x4 x5 => g_pair x5 hn fun v1 v2 y1 y2 => hs m a v1 v2 σ' w' w2 x1 x2 x3 x4 y1 y2) hd
theorem q_for2 {wi : TI} {i j n : Nat} {l : List (α × β)} (h : EvI K wi σ w (Rep.pair e rb) l) (hn : n = 2) (I : Nat → L2.St → Wd → Prop) (h0 : ∀ w1, Gr w w1 → I 0 σ w1)
    (hs : ∀ m a v v' σ' w' w2, l[m]? = some a → Ex w.S w'.S → I m σ' w' → Gr w' w2 → e.r K w2.S v a.1 → rb.r K w2.S v' a.2 → tb { D with nx := Nxt (I (m + 1)) w', ct := Nxt (I (m + 1)) w', bk := tz D } ((σ'.set i (some v)).set j (some v')) w2.H)
    (hd : ∀ σ' w', Ex w.S w'.S → I l.length σ' w' → tz D σ' w'.H) : tSeq (tFor wi (gTup K n (gCons (gName i) (gCons (gName j) gNil))) tb) tz D σ w.H :=
  s_for2 (D := { D with nx := tz D }) h hn I h0 hs hd
/-- while, by a word and a number that falls -/
def Wht (I : Nat → L2.St → Wd → Prop) (m : Nat) : L2.St → Hp → Prop := fun σ H => ∃ w' : Wd, w'.H = H ∧ ∃ m', m' < m ∧ I m' σ w'
theorem s_while (I : Nat → L2.St → Wd → Prop) (m0 : Nat) (h0 : I m0 σ w)
    (hs : ∀ m σ' w', I m σ' w' → ∃ b, EvT K t σ' w' b ∧ (b = true → ∀ w1, Gr w' w1 → tb { D with nx := Wht I m, ct := Wht I m, bk := D.nx } σ' w1.H) ∧ (b = false → ∀ w1, Gr w' w1 → D.nx σ' w1.H)) : tWhile t tb D σ w.H :=
  ⟨fun m σ H => ∃ w' : Wd, w'.H = H ∧ I m σ w', ⟨m0, w, rfl, h0⟩, fun m σ' H hw => by
    obtain ⟨w', rfl, hI⟩ := hw
    obtain ⟨b, hb, h1, h2⟩ := hs m σ' w' hI
    refine hb.run fun w1 g1 => ?_
    cases b with
    | true => exact ⟨Wht I m, fun σ2 H2 hN => by obtain ⟨w2, e2, m', lt, i2⟩ := hN; exact ⟨m', lt, w2, e2, i2⟩, h1 rfl w1 g1⟩
    | false => exact h2 rfl w1 g1⟩
theorem q_while (I : Nat → L2.St → Wd → Prop) (m0 : Nat) (h0 : I m0 σ w)
    (hs : ∀ m σ' w', I m σ' w' → ∃ b, EvT K t σ' w' b ∧ (b = true → ∀ w1, Gr w' w1 → tb { D with nx := Wht I m, ct := Wht I m, bk := tz D } σ' w1.H) ∧ (b = false → ∀ w1, Gr w' w1 → tz D σ' w1.H)) : tSeq (tWhile t tb) tz D σ w.H :=
  s_while (D := { D with nx := tz D }) I m0 h0 hs
theorem nxt {I : L2.St → Wd → Prop} {w w' : Wd} {σ : L2.St} (e : Ex w.S w'.S) (h : I σ w') : Nxt I w σ w'.H := ⟨w', rfl, e, h⟩
theorem wht {I : Nat → L2.St → Wd → Prop} {m m' : Nat} {w' : Wd} {σ : L2.St} (e : m' < m) (h : I m' σ w') : Wht I m σ w'.H := ⟨w', rfl, m', e, h⟩
end
end WK

/-! WK, part 4: rules that the layer lacks: powers of great ints, slices by a step, xs[i] op= e, keywords alone, repr, isinstance of plain values; equality of data. -/
namespace WK
open PySem PySem.Spec PyProof.Rows L2
section
variable {X : Cx}
/-- a power of a great int -/
def CPowW (i j : Int) : Prop := 0 ≤ j ∧ ((Builtin.Int.intBits i : Nat) : Int) * j ≤ 134217728
theorem op_powW : OpR X (binaryOp .Pow) (rI CPowW fun i j => .int (i ^ j.toNat)) :=
  opI fun i j t u s Q E hc q => pow_int hc.1 (Int.le_trans hc.2 (by decide)) q
theorem pow_ok {i j : Int} {n : Nat} (h0 : 0 ≤ j) (hb : i.natAbs < 2 ^ n) (hn : 0 < n) (hj : ((n : Nat) : Int) * j ≤ 134217728) : CPowW i j := by
  refine ⟨h0, Int.le_trans ?_ hj⟩
  refine Int.mul_le_mul_of_nonneg_right ?_ h0
  have h1 := PySem.Flt.log2_lt_of hn hb
  unfold Builtin.Int.intBits
  split <;> omega
/-- a[i], by values -/
theorem get_list : PGet X (rIxL X.K) := by
  intro pins s σ H o i ov iv Q I ro ri h
  obtain ⟨p, xs, k, v, rfl, rfl, hs, hv, q⟩ := h
  cases ro
  obtain ⟨t, rfl⟩ := ri
  obtain ⟨its, rr, pl, hz⟩ := I.list hs
  obtain ⟨j, j1, j2, j3, j4, j5⟩ := atI_get hv
  obtain ⟨u, hu, ru⟩ := rr.get j2
  have hl := rr.length
  have hn := line63
  have fin : EP X pins σ Q u s := ⟨v, H, I, ru, q⟩
  by_cases h0 : 0 ≤ k
  · have hj : k.toNat = j := by
      rw [seqIndex_of h0 j5] at j1
      exact Option.some.inj j1
    exact wpAny_getItem_list pl.isList h0 (by omega) (by rw [hj]; simpa using hu) fin
  · have hj : (k + (its.toArray.size : Int)).toNat = j := by
      rw [seqIndex_neg (by omega) j4] at j1
      rw [List.size_toArray, ← hl]
      exact Option.some.inj j1
    exact wpAny_getItem_list_neg pl.isList (by omega) (by rw [List.size_toArray] <;> omega) (by omega) (by rw [hj]; simpa using hu) fin
/-- what of a list stands at lo, lo + c, .. -/
def stepV {α : Type} (l : List α) (lo c : Nat) : List α := ((List.range l.length).map fun k => lo + c * k).filterMap (l[·]?)
theorem filterMap_cut {α : Type} (l : List α) (lo c : Nat) (hc : 0 < c) : ∀ n, (l.length + c - 1 - lo) / c ≤ n → ((List.range n).map fun k => lo + c * k).filterMap (l[·]?) = ((List.range ((l.length + c - 1 - lo) / c)).map fun k => lo + c * k).filterMap (l[·]?) := by
  intro n hn
  induction n with
  | zero => rw [Nat.le_zero.mp hn]
  | succ n ih =>
    by_cases h : (l.length + c - 1 - lo) / c ≤ n
    · rw [List.range_succ, List.map_append, List.filterMap_append, ih h]
      have : l.length ≤ lo + c * n := by
        have h1 : l.length + c - 1 - lo < c * (n + 1) := by
          have := Nat.lt_mul_div_succ (l.length + c - 1 - lo) hc
          exact Nat.lt_of_lt_of_le this (Nat.mul_le_mul_left _ (by omega))
        rw [Nat.mul_add] at h1
        omega
      simp [List.getElem?_eq_none this]
    · have : (l.length + c - 1 - lo) / c = n + 1 := by omega
      rw [this]
theorem paired_filterMap {α : Type} {F : V → α → Prop} {xs : List V} {l : List α} (h : Paired F xs l) : ∀ ns : List Nat, Paired F (ns.filterMap (xs[·]?)) (ns.filterMap (l[·]?))
  | [] => .nil
  | n :: ns => by
    have ih := paired_filterMap h ns
    cases q : l[n]? with
    | none =>
      have q2 : xs[n]? = none := List.getElem?_eq_none (by rw [paired_len h]; exact List.getElem?_eq_none_iff.mp q)
      rw [List.filterMap_cons, List.filterMap_cons, q, q2]; exact ih
    | some a =>
      obtain ⟨v, q2, r⟩ := paired_get h q
      rw [List.filterMap_cons, List.filterMap_cons, q, q2]; exact .cons r ih
theorem vals_filterMap {xs : List V} {us : List Value} (h : Vals xs us) : ∀ ns : List Nat, Vals (ns.filterMap (xs[·]?)) (ns.filterMap (us[·]?))
  | [] => .nil
  | n :: ns => by
    have ih := vals_filterMap h ns
    cases q : xs[n]? with
    | none => rw [List.filterMap_cons, List.filterMap_cons, q, h.none_of q]; exact ih
    | some a =>
      obtain ⟨v, q2, r⟩ := h.get q
      rw [List.filterMap_cons, List.filterMap_cons, q, q2]; exact .cons r ih
theorem stepV_len {α : Type} (l : List α) (lo c : Nat) : (stepV l lo c).length ≤ l.length := by
  unfold stepV
  refine Nat.le_trans (List.length_filterMap_le _ _) ?_
  simp
def tStep (K : PySem.W.Frag) (te : TE) (tl ts : TO) : TE := fun σ H Q => te σ H fun x H1 => tl σ H1 fun l H2 => ts σ H2 fun o H3 =>
  ∃ a xs, ∃ lo c : Nat, x = .ref a ∧ l = some (lo : Int) ∧ o = some (c : Int) ∧ 0 < c ∧ c < 1000000 ∧ lo ≤ xs.length ∧ SqL K H3 a xs ∧ ∀ p, H3 p = none → Q (.ref p) (upd H3 p (.lst (stepV xs lo c)))
theorem pick_step {us : List Value} {lo c : Nat} (hc : 0 < c) (hlo : lo ≤ us.length) : (slicePick us.toArray (some (lo : Int)) none (some (c : Int))) = (stepV us lo c).toArray := by
  unfold slicePick
  congr 1
  have e1 : (sliceBounds (some (lo : Int)) none (some (c : Int)) us.toArray.size) = ((lo : Int), (us.length : Int), (c : Int)) := by
    unfold sliceBounds
    simp only [Option.getD_some, List.size_toArray]
    rw [if_pos (show (c : Int) > 0 by omega), if_pos (show (c : Int) > 0 by omega)]
    have : ¬ ((lo : Int) < 0) := by omega
    simp only [this, if_false]
    congr 1
    omega
  rw [e1]
  have e2 : sliceRange (lo : Int) (us.length : Int) (c : Int) = (List.range ((us.length + c - 1 - lo) / c)).map fun k => lo + c * k := by
    unfold sliceRange
    simp only []
    rw [if_pos (show (c : Int) > 0 by omega)]
    have e3 : (if (lo : Int) < (us.length : Int) then ((us.length : Int) - (lo : Int) + (c : Int) - 1) / (c : Int) else 0).toNat = (us.length + c - 1 - lo) / c := by
      by_cases h : (lo : Int) < (us.length : Int)
      · rw [if_pos h]
        have : ((us.length : Int) - (lo : Int) + (c : Int) - 1) = ((us.length + c - 1 - lo : Nat) : Int) := by omega
        rw [this, ← Int.natCast_ediv, Int.toNat_natCast]
      · rw [if_neg h]
        have : us.length + c - 1 - lo = c - 1 := by omega
        rw [this, Nat.div_eq_of_lt (by omega)]; rfl
    rw [e3]
    refine List.map_congr_left fun k _ => ?_
    have : (lo : Int) + (c : Int) * (k : Int) = ((lo + c * k : Nat) : Int) := by simp
    rw [this, Int.toNat_natCast]
  rw [e2]
  unfold stepV
  rw [filterMap_cut us lo c hc us.length (by
    rcases Nat.eq_zero_or_pos us.length with h | h
    · rw [h, Nat.div_eq_of_lt (by omega)]; exact Nat.zero_le _
    · refine Nat.div_le_of_le_mul ?_
      have h2 : (c - 1) * (us.length - 1) + us.length + c - 1 = c * us.length := by
        obtain ⟨c', rfl⟩ : ∃ c', c = c' + 1 := ⟨c - 1, by omega⟩
        obtain ⟨n', hn'⟩ : ∃ n', us.length = n' + 1 := ⟨us.length - 1, by omega⟩
        rw [hn']
        simp only [Nat.add_sub_cancel, Nat.add_mul, Nat.mul_add, Nat.one_mul, Nat.mul_one]
        omega
      omega)]
  refine congrArg (fun f => List.filterMap f _) (funext fun i => ?_)
  simp
/-- xs[lo::c] -/
theorem pe_step {e a b : Expr} {te : TE} {tl ts : TO} {p2 pos : Pos} (he : PE X e te) (ha : PO X (some a) tl) (hb : PO X (some b) ts)
    (hsub : ∀ (x y : Value), subscripted (.Slice (some a) none (some b) p2) false x y = operate [x, y] (getItem x y) := by intros; rfl) : PE X (.Subscript e (.Slice (some a) none (some b) p2) pos) (tStep X.K te tl ts) := by
  refine ⟨fun pins s σ H Q I h => ?_⟩
  refine Subscript_ (thn (he.run pins s σ H _ I h) fun v s1 ⟨x, H1, I1, r1, q1⟩ => ?_)
  refine wpAny_Slice (thn (ha.run pins s1 σ H1 _ I1 q1) fun vl s2 ⟨l, H2, I2, pl, q2⟩ => ?_)
  refine thn (po_none.run pins s2 σ H2 (fun o H3 => o = none ∧ H3 = H2) I2 ⟨rfl, rfl⟩) fun vu s3 ⟨u, H3, I3, pu, eu, e3⟩ => ?_
  subst eu; subst e3
  refine thn (hb.run pins s3 σ H3 _ I3 q2) fun vs s4 ⟨o, H4, I4, ps, q4⟩ => ?_
  obtain ⟨p, xs, lo, c, ex, el, eo, hc, hc2, hlo, hx, q⟩ := q4
  subst ex; subst el; subst eo
  cases r1
  have I5 : Inv X pins σ H4 { s4 with heap := s4.heap.push { cls := .type "slice", data := .fields #[vl, vu, vs] } } := I4.kept (t' := s4.toks) fun b ob q => Heap.get?_push_of_some _ q
  obtain ⟨its, r, ht, hz⟩ := I5.list hx
  have hlen := r.length
  refine tail_any (ops := [.ref p, .ref s4.heap.objs.size]) ht.isList.typeIs (PySem.slot_list_getitem.lookup) ?_ (hsub _ _)
  refine wpAny_getItem_list_slice ht.isList (Heap.IsSliceOf.new _ vl vu vs) pl pu ps (by intro z; have := Option.some.inj z; omega) ?_ (by rw [List.size_toArray]; omega)
  rw [pick_step hc (by omega)]
  refine ⟨.ref _, _, I5.laid (t' := s4.toks) (o := .lst (stepV xs lo c)) (fun b ob q => Heap.get?_push_of_some _ q) (Nat.le_refl _) ?_, rfl, q _ (I5.hok.fresh (Nat.le_refl _))⟩
  refine ⟨Nat.le_trans (stepV_len xs lo c) hz, stepV its lo c, 0, ?_, Heap.get?_push_size _ rfl⟩
  unfold stepV
  rw [hlen]
  exact vals_filterMap r _
end
end WK

/-! WK, part 5: defs that lean on what runs around them (repr asks whether it runs within itself): their promise, their call, the law's own call; keywords alone; repr; isinstance. -/
namespace WK
open PySem PySem.Spec PyProof.Rows L2

/-- a def's promise where no repr runs around -/
structure FnG (P : Program) (w : World) (K : PySem.W.Frag) (mg : Str → Option Value) (base : Heap) (CX : CXT) (k : Nat) (f : Addr) (fd : FuncData) (ps : List Str) (sp : Sp) : Prop where
  len : ∀ vs H Q E, sp vs H Q E → vs.length = ps.length
  go : ∀ (A : Around) (out : List Env) (s : Shared) (H : Hp) (args : Args) (us : List Value) (vs : List V) (Q : VK) (E : XK), Room k A → A.guards = some [] →
    Env0 P w K mg base A out s H → BindsTo s fd args (ps.zip us) → Vals vs us → sp vs H Q E → codeAny (model P w) A (.call (.ref f) args) (CR CX out P w H s Q E) s
theorem FnG.of {P : Program} {w : World} {K : PySem.W.Frag} {mg : Str → Option Value} {base : Heap} {CX : CXT} {k : Nat} {f : Addr} {fd : FuncData} {ps : List Str} {sp : Sp}
    (F : FnOk P w K mg base CX k f fd ps sp) : FnG P w K mg base CX k f fd ps sp := ⟨F.len, fun A out s H args us vs Q E hr _ => F.run A out s H args us vs Q E hr⟩
section
variable {P : Program} {w : World} {K : PySem.W.Frag} {mg : Str → Option Value} {base : Heap} {x qual : Str} {params : Arguments} {body : List Stmt} {scope : Scope} {dvs : List V} {kws : List (Str × V)} {f : Addr} {fd : FuncData}
theorem okG {CX : CXT} {N ps : List Str} {k : Nat} {sp : Sp} (F : FunD K x qual params body scope dvs kws f fd) (S : FnScope N ps scope) (len : ∀ vs H Q E, sp vs H Q E → vs.length = ps.length)
    (hb : ∀ (cdv : Value) (A : Around) (out : List Env) (s : Shared) (H : Hp) (vs : List V) (Q : VK) (E : XK), Room k (A.deeper (envOfC qual scope s.heap.objs.size f cdv)) → A.guards = some [] → sp vs H Q E →
      ∃ t, PSs (cxOf CX P w K mg base N qual scope f cdv A out s H E) body t ∧ t { nx := fun _ H' => Q .non H', rt := Q } (start N vs) H) : FnG P w K mg base CX (k + 1) f fd ps sp := by
  obtain ⟨oc, od, dV, kV, doc, pm, an, cdv, ct, osl, rfl, lk, hcd, _, _⟩ := F.ex
  refine ⟨len, fun A out s H args us vs Q E hr hg e0 hbd r hsp => ?_⟩
  have kept : ∀ b o, base.get? b = some o → s.heap.get? b = some o := fun b o e => (e0.bs b o e).1
  have KX := e0.mod.kin.keeps kept
  have how : ∀ y ∈ ps.zip us, scope.names.lookup y.1 = some .local ∨ (scope.names.lookup y.1 = some .cell ∧ ((cellsFrom (s.heap.objs.size + 1) scope.names []).lookup y.1).isSome = true) := by
    intro y hy
    cases S.par y.1 (List.of_mem_zip (a := y.1) (b := y.2) hy).1 with
    | inl q => exact Or.inl q
    | inr q => exact Or.inr ⟨q, PySem.W.cellsFrom_some _ _ _ (Or.inl q)⟩
  refine codeAny_call_function hr.depth (KX _ _ lk) rfl S.co S.gen rfl (PySem.W.codeRec_of KX hcd) (hbd _ _ _ _ (wpAny_newFunctionEnv_cells S.kind how fun env he s1 y => ?_))
  subst he
  refine ⟨(e0.mod.nolimit.keeps kept).keeps y.toInCall.keep, codeAny_func ?_⟩
  obtain ⟨t, ht, hq⟩ := hb cdv A out s H vs Q E (hr.deeper _) hg hsp
  have I := inv_start (CX := CX) (E := E) (N := N) S hr.hd e0 (len _ _ _ _ hsp) r y
  refine wpAny_mono (ht.run [] s1 (start N vs) H _ I hq) (fun fl s' hs => ?_) fun _ _ hs => hs
  cases fl with
  | ret u =>
    obtain ⟨v, _, H', J, rv, q⟩ := hs
    exact ⟨v, H', J.os, J.bare, J.base, J.hok, rv, q⟩
  | next =>
    obtain ⟨_, H', J, q⟩ := hs
    exact ⟨V.non, H', J.os, J.bare, J.base, J.hok, rfl, q⟩
  | brk => obtain ⟨_, _, _, q⟩ := hs; exact q.elim
  | cont => obtain ⟨_, _, _, q⟩ := hs; exact q.elim
end
section
variable {X : Cx} {CX : CXT} {k : Nat} {f : Addr} {fd : FuncData} {ps : List Str} {sp : Sp} {dvs : List V} {ds : List Value} {E : XK} {x : Str} {p pos : Pos} {e : Expr} {es : List Expr} {t : TA}
theorem pe_callG (F : FnG X.prog X.w X.K X.mg X.base CX k f fd ps sp) (hgd : X.A.guards = some []) (hr : Room k X.A) (hg : Gl X x) (hm : X.mg x = some (.ref f)) (hk : PySem.W.keepIn X.K (.ref f) = true) (hb : Binds X.K fd ps ds) (hd : Vals dvs ds) (hx : Passes CX X E)
    (ha : PA X (e :: es) t) (hdb : (x == ("__debug__" : Str)) = false := by decide) (he : starEach (e :: es) X.env = (false, eval e X.env) :: starEach es X.env := by rfl)
    (hpl : (backTo pos (starEach es X.env)).any (·.1) = false := by rfl) : PE X (.Call (.Name x p) (e :: es) [] pos) (tCall sp dvs E t) := by
  refine ⟨fun pins s σ H Q I h => wpAny_Call_Name_kw (ld_glob I hg hm ?_ hdb)⟩
  refine PySem.W.callWith_K (h₀ := X.base) I.ok.mod.kin hk (thn (ha.run pos pins s σ H _ I h) fun us s1 ⟨vs, H1, I1, r, q⟩ => ⟨I1.kIn, ?_⟩) he hpl
  have r2 : Vals (vs ++ dvs) (us ++ ds) := r.append hd
  have hl : (us ++ ds).length = ps.length := r2.length.symm.trans (F.len _ _ _ _ q)
  refine wpAny_call (codeAny_mono (F.go X.A X.stack s1 H1 ⟨us, []⟩ (us ++ ds) (vs ++ dvs) Q E hr hgd I1.env0 (hb s1 us I1.kIn hl) r2 q) fun rr s' hq => ?_)
  cases rr with
  | error e => exact hx pins σ H1 s1 e s' I1 hq
  | ok fl => cases fl with
    | ret u => exact I1.after hq
    | _ => exact hq.elim
end
/-- the law's own call, where the promise leans on what runs around -/
theorem law_callG {P : Program} {w : World} {K : PySem.W.Frag} {mg mb : Str → Option Value} {CX : CXT} {k : Nat} {fa a : Addr} {fd : FuncData} {x : Str} {sp : Sp} {s : Shared} {vs : List Value} {ns : List Int}
    (KX : K.In s.heap) (hns : s.heap.Ns mainGlobals mg) (hb : s.heap.Ns builtinsNs mb) (hbb : ∀ x : Str, x ≠ "__name__" → mb x = bootBuiltins x) (hlim : s.heap.NoLimit) (hg : s.gens = #[])
    (ha : s.heap.get? a = some { cls := .type "list", data := .seq vs.toArray }) (hi : IntsAre vs ns) (hl : ns.length ≤ sizeLine) (hr : Room k callerA)
    (F : ∀ base : Heap, K.In base → base.Ns mainGlobals mg → FnG P w K mg base CX k fa fd [x] sp) (hbind : ∀ (s : Shared) (u : Value), BindsTo s fd ⟨[u], []⟩ [(x, u)])
    (hsp : ∀ H : Hp, Only H → SqL K H a (ns.map V.int) → sp [.ref a] H (fun v _ => v = .bl true) fun _ _ _ => False)
    (hCX : ∀ H e s', CX [] H s (fun _ _ _ => False) e s' → False) :
    codeAny (model P w) callerA (.call (.ref fa) ⟨[.ref a], []⟩) (fun r s' => r = .ok (.ret (.bool true)) ∧ OldK s.heap s'.heap ∧ s'.os = s.os ∧ AllBare s'.gens) s := by
  have rv := vals_ints hi
  have hlen := hi.length
  -- H tracks nothing, or the script alone
  have main : ∀ H : Hp, Only H → SqL K H a (ns.map V.int) → HOk P w H s.heap → (∀ b o, s.heap.get? b = some o → (∃ es ep, o.data = .dict es ep) → H b = none) → (∀ b o, K.lookup b = some o → H b = none) →
      codeAny (model P w) callerA (.call (.ref fa) ⟨[.ref a], []⟩) (fun r s' => r = .ok (.ret (.bool true)) ∧ OldK s.heap s'.heap ∧ s'.os = s.os ∧ AllBare s'.gens) s := by
    intro H hO hS hok hD hK
    have ns_of : ∀ {b : Addr} {m : Str → Option Value}, s.heap.Ns b m → (hidT s.heap H).Ns b m := by
      intro b m h
      obtain ⟨o, es, ep, e, d, r⟩ := h
      exact ⟨o, es, ep, hidT_get e (hD b o e ⟨es, ep, d⟩), d, r⟩
    have hKb : K.In (hidT s.heap H) := fun b o e => hidT_get (KX b o e) (hK b o e)
    obtain ⟨mc, l1, l2⟩ := hlim
    have hM : Mod K mg (hidT s.heap H) := { kin := hKb, glob := ns_of hns, blt := ⟨mb, ns_of hb, hbb⟩, nolimit := ⟨mc, ns_of l1, l2⟩ }
    have e0 : Env0 P w K mg (hidT s.heap H) callerA [] s H :=
      { frames := rfl, mod := hM, bs := fun b o e => of_hidT e, bsz := Nat.le_of_eq (hidT_size _ _), funs := trivial, frf := fun b hb => absurd hb (List.not_mem_nil), hok := hok, bare := .of_eq hg }
    refine codeAny_mono ((F _ hKb (ns_of hns)).go callerA [] s H ⟨[.ref a], []⟩ [.ref a] [.ref a] _ _ hr rfl e0 (hbind s (.ref a)) (.cons rfl .nil) (hsp H hO hS)) fun r s' h => ?_
    cases r with
    | error e => exact (hCX H e s' h).elim
    | ok fl => cases fl with
      | ret u =>
        obtain ⟨v, H', os, bare, un, hok', r', q⟩ := h
        cases (show v = .bl true from q)
        cases (show u = Value.bool true from r')
        refine ⟨rfl, OldK.of_keep fun b o e => ?_, os, bare⟩
        rcases hO b with z | ⟨ob, xs, z⟩
        · exact un.keep b o e z List.not_mem_nil List.not_mem_nil
        · have q1 := (hok b _ z).1
          have q2 := (hok' b _ (un.frzs b ob _ z)).1
          rw [e] at q1
          cases q1
          exact q2
      | _ => exact h.elim
  cases hk : K.lookup a with
  | some o =>
    have e := KX a o hk
    rw [ha] at e
    cases e
    exact main (fun _ => none) (fun _ => Or.inl rfl) (Or.inr ⟨_, vs.toArray, _, hk, rfl, rfl, rfl, by rw [List.size_toArray, hlen]; exact hl, by simpa using rv⟩) (fun b u z => nomatch (show (none : Option HO) = some u from z)) (fun _ _ _ _ => rfl) fun _ _ _ => rfl
  | none =>
    have hin : ∀ b, b ≠ a → (if b = a then some (HO.frz { cls := .type "list", data := .seq vs.toArray } (.lst (ns.map V.int))) else none) = none := fun b hb => if_neg hb
    refine main (fun b => if b = a then some (.frz { cls := .type "list", data := .seq vs.toArray } (.lst (ns.map V.int))) else none) (fun b => ?_) (Or.inl (Or.inr ⟨_, if_pos rfl⟩)) (fun b u z => ?_) (fun b o e hd => ?_) fun b o e => ?_
    · by_cases q : b = a
      · exact Or.inr ⟨_, _, if_pos q⟩
      · exact Or.inl (hin b q)
    · by_cases q : b = a
      · have z2 := (if_pos q).symm.trans z
        cases z2
        subst q
        exact ⟨ha, by rw [List.length_map]; exact hl, vs, _, rv, ha⟩
      · have z2 := (hin b q).symm.trans z
        cases z2
    · refine hin b fun q => ?_
      subst q
      obtain ⟨es, ep, d⟩ := hd
      rw [ha] at e
      cases e
      cases d
    · refine hin b fun q => ?_
      subst q
      rw [hk] at e
      cases e
/-- a law over a head by facts, the script's bits told -/
theorem walk_G {l : PySem.W.OpenLaw} {n k : Nat} {q : Program} {loose : List Str} {XP : (Str → Option Value) → Heap → Prop} {YP : World → Heap → Prop} {d : DefRec} {CX : CXT} {x : Str}
    (hn : l.most = some n) (hn2 : n ≤ sizeLine) (hdf : d.params.defaults = []) (hr : Room k callerA)
    (F : ∀ (w : World) (mg : Str → Option Value) (fa : Addr) (h : Heap), YP w h → h.Ns mainGlobals mg → mg d.name = some (.ref fa) →
      ∃ (K : PySem.W.Frag) (fd : FuncData) (sp : Sp), K.In h ∧ (∀ (s : Shared) (u : Value), BindsTo s fd ⟨[u], []⟩ [(x, u)]) ∧
        (∀ (H : Hp) (a : Addr) (ns : List Int), ns.length ≤ n → (∀ z ∈ ns, Builtin.Int.intBits z ≤ 1048576) → Only H → SqL K H a (ns.map V.int) → sp [.ref a] H (fun v _ => v = .bl true) fun _ _ _ => False) ∧
        ∀ base : Heap, K.In base → base.Ns mainGlobals mg → FnG l.prog w K mg base CX k fa fd [x] sp)
    (hCX : ∀ (H : Hp) (s : Shared) (e : Value) (s' : Shared), CX [] H s (fun _ _ _ => False) e s' → False) :
    PySem.W.WalkO q loose XP YP l.row.toRowW d [] (fun f vs => PySem.call f vs) := by
  refine Att.attach_callB hn hdf fun w s₀ s₁ mg mb fa o pm cd doc a vs ns G Y ho hd hcd hmg hobj hints hlen hbits hg => ?_
  obtain ⟨K, fd, sp, KX, hb, hsp, hF⟩ := F w mg fa _ Y G.T.g hmg
  exact law_callG KX G.T.g G.T.b G.T.builtins G.T.nolimit hg hobj hints (Nat.le_trans hlen hn2) hr hF hb (fun H hO hS => hsp H a ns hlen hbits hO hS) fun H e s' => hCX H s₁ e s'
/-! ### keywords alone, in the opposite sequence of the parameters -/
theorem vals_rev : ∀ {vs : List V} {us : List Value}, Vals vs us → Vals vs.reverse us.reverse
  | _, _, .nil => .nil
  | _, _, .cons r t => by rw [List.reverse_cons, List.reverse_cons]; exact (vals_rev t).append (.cons r .nil)
def KRev (fd : FuncData) (ps : List Str) : Prop := ∀ (s : Shared) (ws : List Value), ws.length = ps.length → BindsTo s fd ⟨[], ps.reverse.zip ws⟩ (ps.zip ws.reverse)
def tCallR (sp : Sp) (E : XK) (t : TA) : TE := fun σ H Q => t σ H fun zs H1 => sp zs.reverse H1 Q E
section
variable {X : Cx} {CX : CXT} {k : Nat} {f : Addr} {fd : FuncData} {ps : List Str} {sp : Sp} {E : XK} {x : Str} {p pos : Pos} {kws : List Keyword} {t : TA}
theorem pe_callR (F : FnOk X.prog X.w X.K X.mg X.base CX k f fd ps sp) (hr : Room k X.A) (hg : Gl X x) (hm : X.mg x = some (.ref f)) (hk : PySem.W.keepIn X.K (.ref f) = true) (hb : KRev fd ps) (hx : Passes CX X E)
    (hkw : PK X kws t) (hall : (backToKw pos (keywordEach kws X.env)).all (·.1.isSome) = true := by rfl) (hks : (backToKw pos (keywordEach kws X.env)).filterMap (·.1) = ps.reverse := by rfl)
    (hdb : (x == ("__debug__" : Str)) = false := by decide) (hpl : ((backTo pos (starEach [] X.env)).any (·.1) || (backToKw pos (keywordEach kws X.env)).any (·.1.isNone)) = false := by rfl) :
    PE X (.Call (.Name x p) [] kws pos) (tCallR sp E t) := by
  refine ⟨fun pins s σ H Q I h => wpAny_Call_Name_kw (ld_glob I hg hm ?_ hdb)⟩
  refine PySem.W.callWith_KW0 (h₀ := X.base) I.ok.mod.kin hk hall (thn (hkw.run pos pins s σ H _ I h) fun ws s1 ⟨zs, H1, I1, rz, q⟩ => ⟨I1.kIn, ?_⟩) hpl
  rw [hks]
  have r2 := vals_rev rz
  have hl : ws.length = ps.length := by
    have := (F.len _ _ _ _ q)
    rw [List.length_reverse] at this
    rw [← rz.length, this]
  refine wpAny_call (codeAny_mono (F.run X.A X.stack s1 H1 ⟨[], _⟩ ws.reverse zs.reverse Q E hr I1.env0 (hb s1 ws hl) r2 q) fun rr s' hq => ?_)
  cases rr with
  | error e => exact hx pins σ H1 s1 e s' I1 hq
  | ok fl => cases fl with
    | ret u => exact I1.after hq
    | _ => exact hq.elim
end
theorem callR_eq {sp : Sp} {E : XK} {t0 t1 t2 : TE} {σ : L2.St} {H : Hp} {Q : VK} : tCallR sp E (tCons t0 (tCons t1 (tCons t2 tNil))) σ H Q = (t0 σ H fun a H1 => t1 σ H1 fun b H2 => t2 σ H2 fun c H3 => sp [c, b, a] H3 Q E) := rfl
/-! ### data -/
/-- a kind of value as plain data: what it is, its depth; equal data are equal values -/
structure RD {α : Type} (e : Rep α) (f : α → PyData) (n : Nat) : Prop where
  dp : ∀ K H v a, e.r K H v a → Dp K H v (f a)
  can : ∀ a, (f a).canLay0 = true
  dep : ∀ a, (f a).depth ≤ n
  eq : ∀ a b, PyData.eqv (f a) (f b) = true → a = b
  re : ∀ a, PyData.eqv (f a) (f a) = true
  nd : ∀ a, (f a).hasDict = false
theorem rd_int : RD Rep.int PyData.int 0 := ⟨fun K H v a h => by cases h; exact .int a, fun _ => rfl, fun _ => Nat.le_refl _, fun a b h => by simpa [PyData.eqv] using h, fun a => by simp [PyData.eqv], fun _ => rfl⟩
theorem rd_bl : RD Rep.bl PyData.bool 0 := ⟨fun K H v a h => by cases h; exact .bl a, fun _ => rfl, fun _ => Nat.le_refl _, fun a b h => by simpa [PyData.eqv] using h, fun a => by simp [PyData.eqv], fun _ => rfl⟩
theorem rd_non : RD Rep.non (fun _ => PyData.none) 0 := ⟨fun K H v a h => by cases h; exact .non, fun _ => rfl, fun _ => Nat.le_refl _, fun a b h => rfl, fun a => by simp [PyData.eqv], fun _ => rfl⟩
theorem dpAll_of {α : Type} {e : Rep α} {f : α → PyData} {n : Nat} (h : RD e f n) {K : PySem.W.Frag} {H : Hp} : ∀ {xs : List V} {l : List α}, Paired (e.r K H) xs l → DpAll K H xs (l.map f)
  | _, _, .nil => .nil
  | _, _, .cons r t => .cons (h.dp _ _ _ _ r) (dpAll_of h t)
theorem rd_list {α : Type} {e : Rep α} {f : α → PyData} {n : Nat} (h : RD e f n) : RD (Rep.list e) (fun l => PyData.list (l.map f)) (n + 1) where
  dp := fun K H v l q => by obtain ⟨a, xs, rfl, hs, hp⟩ := q; exact .lst hs (dpAll_of h hp)
  can := fun l => by
    show PyData.canLayAll0 (l.map f) = true
    induction l with
    | nil => rfl
    | cons a r ih => show (PyData.canLay0 (f a) && _) = true; rw [h.can a, ih]; rfl
  dep := fun l => by
    show PyData.depthAll (l.map f) + 1 ≤ n + 1
    refine Nat.succ_le_succ ?_
    induction l with
    | nil => exact Nat.zero_le _
    | cons a r ih => exact Nat.max_le.mpr ⟨h.dep a, ih⟩
  eq := fun l m q => by
    have q' : PyData.eqvAll (l.map f) (m.map f) = true := by simpa only [PyData.eqv] using q
    clear q
    induction l generalizing m with
    | nil => cases m with
      | nil => rfl
      | cons b s => simp [PyData.eqvAll] at q'
    | cons a r ih => cases m with
      | nil => simp [PyData.eqvAll] at q'
      | cons b s =>
        simp only [List.map_cons, PyData.eqvAll, Bool.and_eq_true] at q'
        rw [h.eq a b q'.1, ih s q'.2]
  re := fun l => by
    have : PyData.eqvAll (l.map f) (l.map f) = true := by
      induction l with
      | nil => simp [PyData.eqvAll]
      | cons a r ih => simp only [List.map_cons, PyData.eqvAll, h.re a, ih, Bool.and_self]
    simpa only [PyData.eqv] using this
  nd := fun l => by
    show PyData.hasDictAll (l.map f) = false
    induction l with
    | nil => rfl
    | cons a r ih => show (PyData.hasDict (f a) || _) = false; rw [h.nd a, ih]; rfl
theorem rd_pair {α β : Type} {e : Rep α} {e2 : Rep β} {f : α → PyData} {g : β → PyData} {n m : Nat} (h : RD e f n) (h2 : RD e2 g m) : RD (Rep.pair e e2) (fun x => PyData.tuple [f x.1, g x.2]) (max n m + 1) where
  dp := fun K H v l q => by obtain ⟨a, x, y, rfl, hs, h3, h4⟩ := q; exact .tup hs (.cons (h.dp _ _ _ _ h3) (.cons (h2.dp _ _ _ _ h4) .nil))
  can := fun x => by show (PyData.canLay0 (f x.1) && (PyData.canLay0 (g x.2) && true)) = true; rw [h.can, h2.can]; rfl
  dep := fun x => by
    show max (f x.1).depth (max (g x.2).depth 0) + 1 ≤ _
    have := h.dep x.1
    have := h2.dep x.2
    omega
  eq := fun x y q => by
    simp only [PyData.eqv, PyData.eqvAll, Bool.and_true, Bool.and_eq_true] at q
    exact Prod.ext (h.eq _ _ q.1) (h2.eq _ _ q.2)
  re := fun x => by simp only [PyData.eqv, PyData.eqvAll, h.re, h2.re, Bool.and_self]
  nd := fun x => by show (PyData.hasDict (f x.1) || (PyData.hasDict (g x.2) || false)) = false; rw [h.nd, h2.nd]; rfl
theorem RD.eqv {α : Type} [DecidableEq α] {e : Rep α} {f : α → PyData} {n : Nat} (h : RD e f n) (a b : α) : PyData.eqv (f a) (f b) = decide (a = b) := by
  by_cases q : a = b
  · subst q; rw [h.re]; simp
  · rw [decide_eq_false q]
    cases z : PyData.eqv (f a) (f b) with
    | false => rfl
    | true => exact absurd (h.eq a b z) q
theorem RD.shaped {α : Type} {e : Rep α} {f : α → PyData} {n : Nat} (h : RD e f n) (hn : n ≤ 64) (a : α) : SeqAt.shaped (f a) = true := by
  unfold SeqAt.shaped
  rw [h.can a, decide_eq_true (Nat.le_trans (h.dep a) hn)]; rfl
section
variable {K : PySem.W.Frag} {σ : L2.St} {w : Wd} {ta tb : TE} {α : Type} [DecidableEq α] {e : Rep α} {a b : α} {f : α → PyData} {n : Nat}
theorem ev_eqD (h : RD e f n) (ha : EvD K ta σ w e a) (hb : EvD K tb σ w e b) (hn : n ≤ 64 := by decide) : EvD K (tOp (rEqD K) ta tb) σ w Rep.bl (decide (a = b)) := fun w1 g Q q =>
  ha w1 g _ fun v w2 g2 x => hb w2 (g.trans g2) _ fun v' w3 g3 y => ⟨f a, f b, (h.dp _ _ _ _ (e.m (g3.s.trans w3.ex) x)), h.dp _ _ _ _ (e.m w3.ex y), h.shaped hn _, h.shaped hn _, q _ w3 (g2.trans g3) (by rw [h.eqv]; rfl)⟩
theorem ev_neD (h : RD e f n) (ha : EvD K ta σ w e a) (hb : EvD K tb σ w e b) (hn : n ≤ 64 := by decide) : EvD K (tOp (rNeD K) ta tb) σ w Rep.bl (!decide (a = b)) := fun w1 g Q q =>
  ha w1 g _ fun v w2 g2 x => hb w2 (g.trans g2) _ fun v' w3 g3 y => ⟨f a, f b, (h.dp _ _ _ _ (e.m (g3.s.trans w3.ex) x)), h.dp _ _ _ _ (e.m w3.ex y), h.shaped hn _, h.shaped hn _, q _ w3 (g2.trans g3) (by rw [h.eqv]; rfl)⟩
end
/-! ### repr of lists, tuples -/
def rRepr (K : PySem.W.Frag) : List V → Hp → VK → Prop := fun xs H Q => ∃ (p : Addr) (d : PyData), xs = [.ref p] ∧ Dp K H (.ref p) d ∧ d.hasDict = false ∧ d.showable = true ∧ d.depth ≤ 64 ∧ d.shown.length ≤ sizeLine ∧ Q (.str d.shown) H
theorem call_repr {X : Cx} {k : Nat} (hg : X.A.guards = some []) (hr : Room k X.A) : CallR X (.builtin "repr") (rRepr X.K) := by
  intro pins s σ H xs us Q I r h
  obtain ⟨p, d, rfl, hd, hnd, hs, hdep, hsz, q⟩ := h
  obtain ⟨u, rfl, rx⟩ := vals1 r
  obtain ⟨as, rr⟩ := Dp.reads I d _ u hd rx
  cases (show u = Value.ref p from rx)
  have hu := hr.un
  exact repr_of_reads' rr hs (fun z => by rw [hnd] at z; cases z) hg (by omega) (fun _ _ z => z) (fun h' t tk hk => ⟨.str d.shown, H, I.kept hk, ⟨t, rfl⟩, q⟩) hsz
theorem ev_repr {K : PySem.W.Frag} {σ : L2.St} {w : Wd} {ta : TE} {α : Type} {e : Rep α} {a : α} {f : α → PyData} {n : Nat} (h : RD e f n) (ha : EvD K ta σ w e a) (hv : ∀ K H v a, e.r K H v a → ∃ p, v = .ref p) (hs : (f a).showable = true) (hz : (f a).shown.length ≤ sizeLine) (hn : n ≤ 64 := by decide) :
    EvD K (tCB (rRepr K) (tCons ta tNil)) σ w Rep.str (f a).shown := fun w1 g Q q => ha w1 g _ fun v w2 g2 x => by
  obtain ⟨p, rfl⟩ := hv _ _ _ _ x
  exact ⟨p, f a, rfl, h.dp _ _ _ _ (e.m w2.ex x), h.nd a, hs, Nat.le_trans (h.dep a) hn, hz, q _ w2 g2 rfl⟩
theorem ref_list {α : Type} {e : Rep α} : ∀ K H v (a : List α), (Rep.list e).r K H v a → ∃ p, v = .ref p := fun _ _ _ _ h => by obtain ⟨p, _, rfl, _⟩ := h; exact ⟨p, rfl⟩
theorem ref_pair {α β : Type} {e : Rep α} {e2 : Rep β} : ∀ K H v (a : α × β), (Rep.pair e e2).r K H v a → ∃ p, v = .ref p := fun _ _ _ _ h => by obtain ⟨p, _, _, rfl, _⟩ := h; exact ⟨p, rfl⟩
end WK
namespace WK
open PySem PySem.Spec PyProof.Rows L2
theorem FunD.revN {K : PySem.W.Frag} {x qual : Str} {params : Arguments} {body : List Stmt} {scope : Scope} {kws : List (Str × V)} {f : Addr} {fd : FuncData} {ps : List Str} (F : FunD K x qual params body scope [] kws f fd)
    (h : ∀ (kV doc pm : Value) (an : Option Addr) (cdv ct : Value) (us : List Value), us.length = ps.length → bindArgs (PySem.W.fnOf x qual params body scope .none kV doc pm an cdv ct) ⟨[], ps.reverse.zip us⟩ = pure (ps.zip us.reverse)) : KRev fd ps := by
  obtain ⟨oc, od, dV, kV, doc, pm, an, cdv, ct, osl, rfl, lk, hcd, hD, hK⟩ := F.ex
  rcases hD with ⟨_, rfl⟩ | ⟨e, _⟩
  · exact fun s us hl => .of_eq (h kV doc pm an cdv ct us hl)
  · exact absurd rfl e
end WK

/-! WK, part 6: short words for the walks; growth from a def's entry. -/
namespace WK
open PySem PySem.Spec PyProof.Rows L2
section
variable {K : PySem.W.Frag} {σ : L2.St} {w w' w0 : Wd} {ta tb tc te tl : TE} {t u : TT} {α β γ δ : Type} {r : Rep α} {rb : Rep β} {rc : Rep γ} {a : α} {e : Rep α} {l : List α} {v : V} {p : Addr}
theorem rp_gr (g : Gr w w') (h : r.r K w.S v a) : r.r K w'.S v a := r.m g.s h
theorem rp_mt (g : Mt p w w') (h : r.r K w.S v a) : r.r K w'.S v a := r.m g.s h
theorem rp_ex (g : Ex w.S w'.S) (h : r.r K w.S v a) : r.r K w'.S v a := r.m g h
/-- growth from the entry -/
structure GrC (w0 w : Wd) : Prop where
  g : Gr w0 w
theorem gc_refl : GrC w0 w0 := ⟨Gr.refl _⟩
theorem gc_gr (c : GrC w0 w) (g : Gr w w') : GrC w0 w' := ⟨c.g.trans g⟩
theorem gc_mt (c : GrC w0 w) (m : Mt p w w') (h : w0.H p = none) : GrC w0 w' := ⟨m.gr w0 c.g h⟩
theorem gc_new (c : GrC w0 w) (h : w.H p = none) : w0.H p = none := fr_back c.g h
theorem ev_varI {i : Nat} {x : Int} (h : σ[i]? = some (some (.int x))) : EvD K (tVar i) σ w Rep.int x := ev_var h rfl
theorem ev_varB {i : Nat} {x : Bool} (h : σ[i]? = some (some (.bl x))) : EvD K (tVar i) σ w Rep.bl x := ev_var h rfl
theorem ev_varS {i : Nat} {x : Str} (h : σ[i]? = some (some (.str x))) : EvD K (tVar i) σ w Rep.str x := ev_var h rfl
theorem ev_gt {x y : Int} (ha : EvD K ta σ w Rep.int x) (hb : EvD K tb σ w Rep.int y) : EvD K (tOp (rI0 fun i j => .bl (decide (j < i))) ta tb) σ w Rep.bl (decide (y < x)) := ev_I0 ha hb fun _ => rfl
theorem ev_ge {x y : Int} (ha : EvD K ta σ w Rep.int x) (hb : EvD K tb σ w Rep.int y) : EvD K (tOp (rI0 fun i j => .bl (decide (j ≤ i))) ta tb) σ w Rep.bl (decide (y ≤ x)) := ev_I0 ha hb fun _ => rfl
theorem ev_mod {x y : Int} (ha : EvD K ta σ w Rep.int x) (hb : EvD K tb σ w Rep.int y) (h : 0 < y) : EvD K (tOp (rI (fun _ j => 0 < j) fun i j => .int (i % j)) ta tb) σ w Rep.int (x % y) := ev_I ha hb h fun _ => rfl
theorem ev_div {x y : Int} (ha : EvD K ta σ w Rep.int x) (hb : EvD K tb σ w Rep.int y) (h : CDivW x y) : EvD K (tOp (rI CDivW fun i j => .int (i / j)) ta tb) σ w Rep.int (x / y) := ev_I ha hb h fun _ => rfl
theorem ev_mul {x y : Int} (ha : EvD K ta σ w Rep.int x) (hb : EvD K tb σ w Rep.int y) (h : CMulW x y) : EvD K (tOp (rI CMulW fun i j => .int (i * j)) ta tb) σ w Rep.int (x * y) := ev_I ha hb h fun _ => rfl
theorem ev_pow {x y : Int} (ha : EvD K ta σ w Rep.int x) (hb : EvD K tb σ w Rep.int y) (h : CPowW x y) : EvD K (tOp (rI CPowW fun i j => .int (i ^ j.toNat)) ta tb) σ w Rep.int (x ^ y.toNat) := ev_I ha hb h fun _ => rfl
theorem ev_leLe {x y z : Int} (ha : EvD K ta σ w Rep.int x) (hb : EvD K tb σ w Rep.int y) (hc : EvD K tc σ w Rep.int z) : EvD K (tChain (rI0 fun i j => .bl (decide (i ≤ j))) (rI0 fun i j => .bl (decide (i ≤ j))) ta tb tc) σ w Rep.bl (decide (x ≤ y) && decide (y ≤ z)) :=
  ev_chain ha hb hc (fun _ _ q => ⟨_, _, rfl, rfl, q⟩) fun _ _ q => ⟨_, _, rfl, rfl, q⟩
theorem ev_leLt {x y z : Int} (ha : EvD K ta σ w Rep.int x) (hb : EvD K tb σ w Rep.int y) (hc : EvD K tc σ w Rep.int z) : EvD K (tChain (rI0 fun i j => .bl (decide (i ≤ j))) (rI0 fun i j => .bl (decide (i < j))) ta tb tc) σ w Rep.bl (decide (x ≤ y) && decide (y < z)) :=
  ev_chain ha hb hc (fun _ _ q => ⟨_, _, rfl, rfl, q⟩) fun _ _ q => ⟨_, _, rfl, rfl, q⟩
/-- what is read of an own list of which the place is known -/
theorem ev_lenO {i : Nat} {p : Addr} (o : OwnL K w p e l) (hi : σ[i]? = some (some (.ref p))) : EvD K (tCB (Evl.rLenS K) (tCons (tVar i) tNil)) σ w Rep.int (l.length : Int) := fun w1 g Q q => by
  obtain ⟨xs, ow, hp⟩ := o.gr g
  exact ⟨_, hi, p, xs, rfl, .inl (SqL.of ow.h), q _ w1 (Gr.refl _) (by rw [paired_len hp]; rfl)⟩
/-- isinstance of plain values -/
def V.tyn : V → Option String
  | .non => some "NoneType" | .bl _ => some "bool" | .int _ => some "int" | .str _ => some "str" | _ => none
theorem rel_ty (n : String) : RelV (.ty n) (.type n) := rfl
theorem isi_run {x : V} {t : Value} {n : String} {b : Bool} {H : Hp} {Q : VK} (hx : TyX K H x t) (hk : PySem.W.kitOne K t (.type n) = some b) (q : Q (.bl b) H) : rIsi K [x, .ty n] H Q := ⟨x, .ty n, t, .type n, b, rfl, .ty n, hx, hk, q⟩
theorem list_ty {S : Hp} {H : Hp} (x : Ex S H) {v : V} {l : List α} (h : (Rep.list e).r K S v l) : TyX K H v (.type "list") := by
  obtain ⟨a, xs, rfl, hs, _⟩ := h
  rcases hs with (h | ⟨o, h⟩) | ⟨o, its, n, h, hc, _⟩
  · exact .base (.lst (x _ _ h))
  · exact .base (.frz (x _ _ h))
  · exact .kList h hc
theorem ev_isi {n : String} {te : TE} {b : Bool} (h : ∀ w1, Gr w w1 → ∀ Q : VK, (∀ v w2, Gr w1 w2 → (∃ t, TyX K w2.H v t ∧ PySem.W.kitOne K t (.type n) = some b) → Q v w2.H) → te σ w1.H Q) : EvD K (tCB (rIsi K) (tCons te (tCons (tC (.ty n)) tNil))) σ w Rep.bl b := fun w1 g Q q =>
  h w1 g _ fun v w2 g2 ⟨t, h1, h2⟩ => isi_run h1 h2 (q _ w2 g2 rfl)
theorem ev_isiL {te : TE} (h : EvD K te σ w (Rep.list e) l) {n : String} {b : Bool} (hk : kitB "list" n = some b) : EvD K (tCB (rIsi K) (tCons te (tCons (tC (.ty n)) tNil))) σ w Rep.bl b :=
  ev_isi fun w1 g Q q => h w1 g Q fun v w2 g2 x => q v w2 g2 ⟨_, list_ty w2.ex x, kit_ty hk⟩
theorem ev_isiI {te : TE} {x : Int} (h : EvD K te σ w Rep.int x) {n : String} {b : Bool} (hk : kitB "int" n = some b) : EvD K (tCB (rIsi K) (tCons te (tCons (tC (.ty n)) tNil))) σ w Rep.bl b :=
  ev_isi fun w1 g Q q => h w1 g Q fun v w2 g2 x => q v w2 g2 ⟨_, by cases x; exact .base (.int _), kit_ty hk⟩
theorem ev_isiB {te : TE} {x : Bool} (h : EvD K te σ w Rep.bl x) {n : String} {b : Bool} (hk : kitB "bool" n = some b) : EvD K (tCB (rIsi K) (tCons te (tCons (tC (.ty n)) tNil))) σ w Rep.bl b :=
  ev_isi fun w1 g Q q => h w1 g Q fun v w2 g2 x => q v w2 g2 ⟨_, by cases x; exact .base (.bl _), kit_ty hk⟩
/-- list(range(..)) -/
theorem en_rg1 {n : Int} (h : EvD K te σ w Rep.int n) (hn : 0 ≤ n ∧ n ≤ 100000) : EvN K (tLstRg (tRg1 te)) σ w Rep.int (irange 0 n) := fun w1 g Q q =>
  h w1 g _ fun v w2 g2 x => ⟨n, x, ⟨by omega, by omega, by omega, by omega, by omega⟩, fun p np => q p (w2.new p _ np) (g2.trans (gr_new np)) (fr_back g2 np) ⟨_, own_new np, by
    have : rgV 0 n = (irange 0 n).map V.int := by unfold rgV irange; rw [List.map_map]; rfl
    rw [this]; exact ints_paired _⟩⟩
theorem en_rg2 {lo n : Int} (h : EvD K ta σ w Rep.int lo) (h2 : EvD K tb σ w Rep.int n) (hn : 0 ≤ lo ∧ lo ≤ 100000 ∧ 0 ≤ n ∧ n ≤ 100000) : EvN K (tLstRg (tRg2 ta tb)) σ w Rep.int (irange lo n) := fun w1 g Q q =>
  h w1 g _ fun v w2 g2 x => h2 w2 (g.trans g2) _ fun v' w3 g3 x' => ⟨lo, n, x, x', ⟨by omega, by omega, by omega, by omega, by omega⟩, fun p np => q p (w3.new p _ np) ((g2.trans g3).trans (gr_new np)) (fr_back (g2.trans g3) np) ⟨_, own_new np, by
    have : rgV lo n = (irange lo n).map V.int := by unfold rgV irange; rw [List.map_map]; rfl
    rw [this]; exact ints_paired _⟩⟩
/-- sorted of ints -/
theorem perm_sorted_uniq {l m : List Int} (h : l.Perm m) (h1 : l.Pairwise (· ≤ ·)) (h2 : m.Pairwise (· ≤ ·)) : l = m := by
  refine List.Perm.eq_of_pairwise (le := (· ≤ ·)) ?_ h1 h2 h
  intro a b _ _ h1 h2
  exact Int.le_antisymm h1 h2
end
end WK

/-! WK, part 7: own dicts with ints as keys, tuples walked, raw items. -/
namespace WK
open PySem PySem.Spec PyProof.Rows L2
/-! ### tables -/
section
variable {β : Type}
def getI (m : List (Int × β)) (n : Int) : Option β := (m.find? fun p => decide (p.1 = n)).map (·.2)
def putI (m : List (Int × β)) (n : Int) (b : β) : List (Int × β) :=
  if (m.any fun p => decide (p.1 = n)) = true then m.map (fun p => if p.1 = n then (p.1, b) else p) else m ++ [(n, b)]
theorem getI_nil {n : Int} : getI ([] : List (Int × β)) n = none := rfl
theorem getI_cons {p : Int × β} {r : List (Int × β)} {n : Int} : getI (p :: r) n = if p.1 = n then some p.2 else getI r n := by
  unfold getI
  rw [List.find?_cons]
  by_cases e : p.1 = n
  · simp [e]
  · simp [e]
theorem getI_any {n : Int} : ∀ m : List (Int × β), (m.any fun p => decide (p.1 = n)) = (getI m n).isSome
  | [] => rfl
  | p :: r => by
    rw [List.any_cons, getI_cons, getI_any r]
    by_cases e : p.1 = n
    · simp [e]
    · simp [e]
theorem getI_app {n : Int} (m k : List (Int × β)) : getI (m ++ k) n = (getI m n).or (getI k n) := by
  induction m with
  | nil => simp [getI_nil]
  | cons p r ih =>
    rw [List.cons_append, getI_cons, getI_cons, ih]
    split <;> simp
theorem getI_map {n j : Int} {b : β} : ∀ m : List (Int × β), getI (m.map fun p => if p.1 = n then (p.1, b) else p) j = (getI m j).map fun x => if j = n then b else x
  | [] => rfl
  | p :: r => by
    rw [List.map_cons, getI_cons, getI_cons, getI_map r]
    by_cases e : p.1 = n
    · simp only [e, if_true]
      by_cases e2 : n = j
      · subst e2; simp
      · have : ¬ j = n := fun z => e2 z.symm
        simp [e2, this]
    · simp only [e, if_false]
      by_cases e2 : p.1 = j
      · subst e2; simp [e]
      · simp [e2]
theorem getI_put {m : List (Int × β)} {n j : Int} {b : β} : getI (putI m n b) j = if j = n then some b else getI m j := by
  unfold putI
  by_cases h : (m.any fun p => decide (p.1 = n)) = true
  · rw [if_pos h, getI_map]
    rw [getI_any] at h
    by_cases e : j = n
    · subst e
      obtain ⟨x, hx⟩ := Option.isSome_iff_exists.mp h
      rw [hx]; simp
    · simp [e]
  · rw [if_neg h, getI_app]
    rw [getI_any] at h
    by_cases e : j = n
    · subst e
      have : getI m j = none := by cases q : getI m j with
        | none => rfl
        | some x => rw [q] at h; exact absurd rfl h
      rw [this, getI_cons]; simp
    · rw [getI_cons, getI_nil, if_neg (fun z => e z.symm), if_neg e]; simp
theorem putI_len {m : List (Int × β)} {n : Int} {b : β} : (putI m n b).length ≤ m.length + 1 := by
  unfold putI; split <;> simp
end
/-! ### an own dict -/
def PD {β : Type} (K : PySem.W.Frag) (S : Hp) (rv : Rep β) : (Key × V) → (Int × β) → Prop := fun kv p => kv.1 = Sum.inl p.1 ∧ rv.r K S kv.2 p.2
def OwnD {β : Type} (K : PySem.W.Frag) (w : Wd) (d : Addr) (rv : Rep β) (m : List (Int × β)) : Prop := ∃ kvs, Own w d (.dK kvs) ∧ Paired (PD K w.S rv) kvs m
section
variable {K : PySem.W.Frag} {σ : L2.St} {w w' : Wd} {ta tb tc te : TE} {α β : Type} {rv : Rep β} {m : List (Int × β)} {d : Addr} {D : Ends} {tz : TS}
theorem pd_len {S : Hp} {kvs : List (Key × V)} (h : Paired (PD K S rv) kvs m) : kvs.length = m.length := Paired.length h
theorem OwnD.gr (h : OwnD K w d rv m) (g : Gr w w') : OwnD K w' d rv m := by obtain ⟨kvs, a, b⟩ := h; exact ⟨kvs, a.gr g, Paired.mapP b fun _ _ q => ⟨q.1, rv.m g.s q.2⟩⟩
theorem OwnD.mt {p : Addr} (h : OwnD K w d rv m) (g : Mt p w w') (ne : d ≠ p) : OwnD K w' d rv m := by obtain ⟨kvs, a, b⟩ := h; exact ⟨kvs, g.own _ _ ne a, Paired.mapP b fun _ _ q => ⟨q.1, rv.m g.s q.2⟩⟩
theorem OwnD.ne (h : OwnD K w d rv m) : w.H d ≠ none := by obtain ⟨kvs, a, b⟩ := h; exact a.ne
theorem OwnD.apart {p : Addr} (h : OwnD K w d rv m) (z : w.H p = none) : p ≠ d := fun x => h.ne (x ▸ z)
theorem pd_get {S : Hp} {n : Int} : ∀ {kvs : List (Key × V)} {m : List (Int × β)}, Paired (PD K S rv) kvs m → (getI m n = none ∧ valV kvs (Sum.inl n) = none) ∨ ∃ b v, getI m n = some b ∧ valV kvs (Sum.inl n) = some v ∧ rv.r K S v b
  | _, _, .nil => .inl ⟨rfl, rfl⟩
  | kv :: kvs, p :: r, .cons h t => by
    by_cases e : p.1 = n
    · refine .inr ⟨p.2, kv.2, by rw [getI_cons, if_pos e], valV_pos (by rw [h.1, e]), h.2⟩
    · have ne : ¬ kv.1 = Sum.inl n := by rw [h.1]; exact fun z => e (Sum.inl.inj z)
      rw [getI_cons, if_neg e, valV_neg ne]
      exact pd_get t
theorem pd_any {S : Hp} {n : Int} {kvs : List (Key × V)} {m : List (Int × β)} (h : Paired (PD K S rv) kvs m) : (kvs.any fun kv => decide (kv.1 = (Sum.inl n : Key))) = (m.any fun p => decide (p.1 = n)) := by
  rw [valV_any, getI_any]
  rcases pd_get (n := n) h with ⟨a, b⟩ | ⟨b, v, a, c, _⟩
  · rw [a, b]; rfl
  · rw [a, c]; rfl
theorem pd_put {S : Hp} {n : Int} {v : V} {b : β} (hr : rv.r K S v b) {kvs : List (Key × V)} {m : List (Int × β)} (h : Paired (PD K S rv) kvs m) : Paired (PD K S rv) (putK kvs (Sum.inl n) v) (putI m n b) := by
  unfold putK putI
  rw [pd_any h]
  split
  · induction h with
    | nil => exact .nil
    | @cons kv p kvs r h1 t ih =>
      rw [List.map_cons, List.map_cons]
      refine .cons ?_ (by
        rename_i hx
        have : ∀ (kvs : List (Key × V)) (m : List (Int × β)), Paired (PD K S rv) kvs m → Paired (PD K S rv) (kvs.map fun kv => if kv.1 = Sum.inl n then (kv.1, v) else kv) (m.map fun p => if p.1 = n then (p.1, b) else p) := by
          intro kvs m h
          induction h with
          | nil => exact .nil
          | @cons kv p kvs r h1 t ih =>
            rw [List.map_cons, List.map_cons]
            refine .cons ?_ ih
            by_cases e : p.1 = n
            · rw [if_pos e, if_pos (by rw [h1.1, e])]; exact ⟨h1.1, hr⟩
            · rw [if_neg e, if_neg (by rw [h1.1]; exact fun z => e (Sum.inl.inj z))]; exact h1
        exact this _ _ t)
      by_cases e : p.1 = n
      · rw [if_pos e, if_pos (by rw [h1.1, e])]; exact ⟨h1.1, hr⟩
      · rw [if_neg e, if_neg (by rw [h1.1]; exact fun z => e (Sum.inl.inj z))]; exact h1
  · have : ∀ (kvs : List (Key × V)) (m : List (Int × β)), Paired (PD K S rv) kvs m → Paired (PD K S rv) (kvs ++ [(Sum.inl n, v)]) (m ++ [(n, b)]) := by
      intro kvs m h
      induction h with
      | nil => exact .cons ⟨rfl, hr⟩ .nil
      | cons h1 t ih => exact .cons h1 ih
    exact this _ _ h
theorem ev_dnotin {i : Nat} {n : Int} (o : OwnD K w d rv m) (hi : σ[i]? = some (some (.ref d))) (h : EvD K te σ w Rep.int n) : EvD K (tDNotIn te (tVar i)) σ w Rep.bl (!(getI m n).isSome) := fun w1 g Q q =>
  h w1 g _ fun v w2 g2 x => ⟨_, hi, by
    cases x
    obtain ⟨kvs, ow, hp⟩ := (o.gr g).gr g2
    refine ⟨d, valV kvs (Sum.inl n), rfl, DGet.k (k := Sum.inl n) ow.h, q _ w2 g2 ?_⟩
    rcases pd_get (n := n) hp with ⟨a, b⟩ | ⟨b, v, a, c, _⟩
    · rw [a, b]; rfl
    · rw [a, c]; rfl⟩
theorem ev_din {i : Nat} {n : Int} (o : OwnD K w d rv m) (hi : σ[i]? = some (some (.ref d))) (h : EvD K te σ w Rep.int n) : EvD K (tDIn te (tVar i)) σ w Rep.bl (getI m n).isSome := fun w1 g Q q =>
  h w1 g _ fun v w2 g2 x => ⟨_, hi, by
    cases x
    obtain ⟨kvs, ow, hp⟩ := (o.gr g).gr g2
    refine ⟨d, valV kvs (Sum.inl n), rfl, DGet.k (k := Sum.inl n) ow.h, q _ w2 g2 ?_⟩
    rcases pd_get (n := n) hp with ⟨a, b⟩ | ⟨b, v, a, c, _⟩
    · rw [a, b]; rfl
    · rw [a, c]; rfl⟩
theorem ev_dget {i : Nat} {n : Int} {b : β} (o : OwnD K w d rv m) (hi : σ[i]? = some (some (.ref d))) (h : EvD K te σ w Rep.int n) (hb : getI m n = some b) : EvD K (tDGet (tVar i) te) σ w rv b := fun w1 g Q q => ⟨_, hi,
  h w1 g _ fun v w2 g2 x => by
    cases x
    obtain ⟨kvs, ow, hp⟩ := (o.gr g).gr g2
    rcases pd_get (n := n) hp with ⟨a, _⟩ | ⟨b', v, a, c, hr⟩
    · rw [a] at hb; cases hb
    · rw [a] at hb; cases hb
      exact ⟨d, v, rfl, by have := DGet.k (k := Sum.inl n) ow.h; rw [c] at this; exact this, q v w2 g2 hr⟩⟩
theorem dput_run {i : Nat} {n : Int} {b : β} {Q : L2.St → Hp → Prop} (o : OwnD K w d rv m) (hi : σ[i]? = some (some (.ref d))) (hv : EvD K te σ w rv b) (h : EvD K tb σ w Rep.int n) (hz : m.length < 100000)
    (k : ∀ w', Mt d w w' → OwnD K w' d rv (putI m n b) → Q σ w'.H) : te σ w.H fun v H1 => tVar i σ H1 fun x H2 => tb σ H2 fun y H3 => ∃ a H4, x = .ref a ∧ DPut H3 a y v H4 ∧ Q σ H4 :=
  hv.run fun v w2 g2 r2 => ⟨_, hi, (h.gr g2).run fun y w3 g3 r3 => by
    cases r3
    obtain ⟨kvs, ow, hp⟩ := (o.gr g2).gr g3
    exact ⟨d, _, rfl, DPut.k (k := Sum.inl n) ow.h (by rw [pd_len hp]; exact sz5' hz), k (w3.set d _ ow.s) (((g2.trans g3).mt o.ne).trans (mt_set ow.s)) ⟨_, own_set ow.s, pd_put (rv.m g3.s r2) hp⟩⟩⟩
theorem q_dput {i : Nat} {n : Int} {b : β} (o : OwnD K w d rv m) (hi : σ[i]? = some (some (.ref d))) (hv : EvD K te σ w rv b) (h : EvD K tb σ w Rep.int n) (hz : m.length < 100000)
    (k : ∀ w', Mt d w w' → OwnD K w' d rv (putI m n b) → tz D σ w'.H) : tSeq (sDPut (tVar i) tb te) tz D σ w.H := dput_run (Q := tz D) o hi hv h hz k
theorem s_dput {i : Nat} {n : Int} {b : β} (o : OwnD K w d rv m) (hi : σ[i]? = some (some (.ref d))) (hv : EvD K te σ w rv b) (h : EvD K tb σ w Rep.int n) (hz : m.length < 100000)
    (k : ∀ w', Mt d w w' → OwnD K w' d rv (putI m n b) → D.nx σ w'.H) : sDPut (tVar i) tb te D σ w.H := dput_run (Q := D.nx) o hi hv h hz k
/-- {} -/
theorem dnew_run {Q : VK} (rv : Rep β) (k : ∀ p w', Gr w w' → w.H p = none → OwnD K w' p rv [] → Q (.ref p) w'.H) : tDNewK σ w.H Q := fun p hp => k p (w.new p _ hp) (gr_new hp) hp ⟨[], own_new hp, .nil⟩
/-! ### tuples walked -/
theorem ei_tup {r : Rep α} {l : List α} {tr : TA} (h : EvL K tr σ w r l) (hz : l.length ≤ 100000 := by first | decide | simp) : EvI K (iTup K (tTup tr)) σ w r l := fun w1 g R q =>
  h w1 g _ fun vs w2 g2 x => ⟨by rw [paired_len x]; exact sz5 hz, fun p hp => by
    have hs : ∀ w' : Wd, Ex (w2.put p (.tup vs)).S w'.S → SqT K w'.H p vs := fun w' e => Evl.ex_t w'.ex (SqT.of (e _ _ put_s))
    refine ⟨p, rfl, ⟨vs, SqT.of upd_same⟩, q (Itt K p) (w2.put p _) (g2.trans (gr_put hp)) fun w3 x3 i => ⟨fun b hb => ?_, fun hi => ⟨vs, hs w3 x3, by rw [paired_len x]; exact hi⟩⟩⟩
    obtain ⟨v, hv, hr⟩ := paired_get x hb
    refine ⟨⟨vs, v, hs w3 x3, hv⟩, fun y H' hy => ?_⟩
    obtain ⟨rfl, f⟩ := hy
    have := f vs (hs w3 x3)
    rw [hv] at this
    cases this
    exact ⟨w3, rfl, Gr.refl _, r.m ((gr_put hp).s.trans x3) hr⟩⟩
/-- values as they are -/
def Rep.raw : Rep V := ⟨fun _ _ v a => v = a, fun _ h => h⟩
theorem raw_paired {S : Hp} {xs l : List V} (h : Paired (Rep.raw.r K S) xs l) : xs = l := by
  induction h with
  | nil => rfl
  | cons r _ ih => rw [show _ = _ from r, ih]
theorem paired_raw {S : Hp} (l : List V) : Paired (Rep.raw.r K S) l l := by
  induction l with
  | nil => exact .nil
  | cons a r ih => exact .cons rfl ih
end
end WK
namespace WK
open PySem PySem.Spec PyProof.Rows L2
section
variable {K : PySem.W.Frag} {σ : L2.St} {w w' : Wd} {ta tb tc te : TE} {α β : Type} {e r : Rep α} {rb : Rep β} {l : List α} {D : Ends} {tz : TS} {a : α} {b : β}
/-- a, b = e, e' where the tuple is made and taken apart -/
theorem tup_run {i j n : Nat} {x y : V} {Q : L2.St → Hp → Prop} (hn : n = 2) (k : ∀ w', Gr w w' → Q ((σ.set i (some x)).set j (some y)) w'.H) :
    [x, y].length ≤ sizeLine ∧ ∀ p, w.H p = none → gTup K n (gCons (gName i) (gCons (gName j) gNil)) (.ref p) σ (upd w.H p (.tup [x, y])) Q :=
  ⟨by show 2 ≤ sizeLine; decide, fun p hp => ⟨p, [x, y], rfl, SqT.of upd_same, hn.symm, x, [y], rfl, y, [], rfl, rfl, k (w.put p _) (gr_put hp)⟩⟩
theorem q_tupVV {i j n : Nat} (h : EvD K ta σ w r a) (h2 : EvD K tb σ w rb b) (hn : n = 2) (k : ∀ v v' w', Gr w w' → r.r K w'.S v a → rb.r K w'.S v' b → tz D ((σ.set i (some v)).set j (some v')) w'.H) :
    tSeq (tAsg (tTup (tCons ta (tCons tb tNil))) (gTup K n (gCons (gName i) (gCons (gName j) gNil)))) tz D σ w.H :=
  h w (Gr.refl _) _ fun v w2 g2 x => h2 w2 g2 _ fun v' w3 g3 y => tup_run (Q := tz D) hn fun w4 g4 => k v v' w4 ((g2.trans g3).trans g4) (r.m (g3.trans g4).s x) (rb.m g4.s y)
theorem q_tupNV {i j n : Nat} (h : EvN K ta σ w e l) (h2 : EvD K tb σ w rb b) (hn : n = 2) (k : ∀ p v' w', Gr w w' → w.H p = none → OwnL K w' p e l → rb.r K w'.S v' b → tz D ((σ.set i (some (.ref p))).set j (some v')) w'.H) :
    tSeq (tAsg (tTup (tCons ta (tCons tb tNil))) (gTup K n (gCons (gName i) (gCons (gName j) gNil)))) tz D σ w.H :=
  h w (Gr.refl _) _ fun p w2 g2 n2 o2 => h2 w2 g2 _ fun v' w3 g3 y => tup_run (Q := tz D) hn fun w4 g4 => k p v' w4 ((g2.trans g3).trans g4) n2 (o2.gr (g3.trans g4)) (rb.m g4.s y)
theorem q_tupVN {i j n : Nat} (h : EvD K ta σ w rb b) (h2 : EvN K tb σ w e l) (hn : n = 2) (k : ∀ v p w', Gr w w' → rb.r K w'.S v b → w.H p = none → OwnL K w' p e l → tz D ((σ.set i (some v)).set j (some (.ref p))) w'.H) :
    tSeq (tAsg (tTup (tCons ta (tCons tb tNil))) (gTup K n (gCons (gName i) (gCons (gName j) gNil)))) tz D σ w.H :=
  h w (Gr.refl _) _ fun v w2 g2 x => h2 w2 g2 _ fun p w3 g3 n3 o3 => tup_run (Q := tz D) hn fun w4 g4 => k v p w4 ((g2.trans g3).trans g4) (rb.m (g3.trans g4).s x) (fr_back g2 n3) (o3.gr g4)
/-- what is opened: two values side by side, an operator, a call of two built-in arguments -/
theorem par2x {i j : Nat} {t1 t2 : TE} {H : Hp} (h : t1 σ H fun x H1 => t2 σ H1 fun y H2 => ∃ u v, [x, y] = [u, v] ∧ tz D ((σ.set i (some u)).set j (some v)) H2) : tSeq (tPar i j (tCons t1 (tCons t2 tNil))) tz D σ H := h
theorem add_run {t1 t2 : TE} {H : Hp} {Q : VK} (h : t1 σ H fun x H1 => t2 σ H1 fun y H2 => ∃ i j, x = .int i ∧ y = .int j ∧ Q (.int (i + j)) H2) : tOp (rI0 fun i j => .int (i + j)) t1 t2 σ H Q := h
end
end WK
namespace WK
open PySem PySem.Spec PyProof.Rows L2
section
variable {K : PySem.W.Frag} {σ : L2.St} {w w' : Wd} {ta tb tc te : TE} {α β : Type} {e r : Rep α} {rb : Rep β} {l : List α} {D : Ends} {tz : TS} {a : α} {b : β}
theorem s_par {i j : Nat} (h : EvD K ta σ w r a) (h2 : EvD K tb σ w rb b) (k : ∀ v v' w', Gr w w' → r.r K w'.S v a → rb.r K w'.S v' b → D.nx ((σ.set i (some v)).set j (some v')) w'.H) : tPar i j (tCons ta (tCons tb tNil)) D σ w.H :=
  h w (Gr.refl _) _ fun v w2 g2 x => h2 w2 g2 _ fun v' w3 g3 y => ⟨v, v', rfl, k v v' w3 (g2.trans g3) (r.m g3.s x) y⟩
end
end WK

/-! WK, part 8: several own objects read as if they were settled; loops over own lists. -/
namespace WK
open PySem PySem.Spec PyProof.Rows L2
/-- the objects at X settled -/
def Wd.fixs (w : Wd) (X : List Addr) : Wd := ⟨fun a => if a ∈ X then w.H a else w.S a, w.H, fun a u e => by
  have e : (if a ∈ X then w.H a else w.S a) = some u := e
  by_cases h : a ∈ X
  · rw [if_pos h] at e; exact e
  · rw [if_neg h] at e; exact w.ex a u e⟩
def Wd.offs (w : Wd) (X : List Addr) : Wd := ⟨fun a => if a ∈ X then none else w.S a, w.H, fun a u e => by
  have e : (if a ∈ X then none else w.S a) = some u := e
  by_cases h : a ∈ X
  · rw [if_pos h] at e; cases e
  · rw [if_neg h] at e; exact w.ex a u e⟩
theorem fixs_ex {w : Wd} {X : List Addr} : Ex w.S (w.fixs X).S := fun a u e => by
  show (if a ∈ X then w.H a else w.S a) = some u
  by_cases h : a ∈ X
  · rw [if_pos h]; exact w.ex a u e
  · rw [if_neg h]; exact e
theorem fixs_at {w : Wd} {X : List Addr} {a : Addr} (h : a ∈ X) : (w.fixs X).S a = w.H a := if_pos h
theorem fixs_gr {w w1 : Wd} {X : List Addr} (hX : ∀ a ∈ X, w.H a ≠ none) (g : Gr w w1) : Gr (w.fixs X) (w1.fixs X) :=
  ⟨fun a u e => by
    have e : (if a ∈ X then w.H a else w.S a) = some u := e
    show (if a ∈ X then w1.H a else w1.S a) = some u
    by_cases h : a ∈ X
    · rw [if_pos h] at e ⊢; exact g.h a u e
    · rw [if_neg h] at e ⊢; exact g.s a u e, g.h, fun p hp hn => by
    have hn : (if p ∈ X then w.H p else w.S p) = none := hn
    show (if p ∈ X then w1.H p else w1.S p) = none
    by_cases h : p ∈ X
    · rw [if_pos h] at hn; exact absurd hn hp
    · rw [if_neg h] at hn ⊢; exact g.n p hp hn⟩
theorem offs_gr {w1 w2 : Wd} {X : List Addr} (hX : ∀ a ∈ X, w1.S a = none) (g : Gr (w1.fixs X) w2) : Gr w1 (w2.offs X) :=
  ⟨fun a u e => by
    show (if a ∈ X then none else w2.S a) = some u
    have h : a ∉ X := fun z => by rw [hX a z] at e; cases e
    rw [if_neg h]
    refine g.s a u ?_
    show (if a ∈ X then w1.H a else w1.S a) = some u
    rw [if_neg h]; exact e, g.h, fun p hp hn => by
    show (if p ∈ X then none else w2.S p) = none
    by_cases h : p ∈ X
    · rw [if_pos h]
    · rw [if_neg h]
      refine g.n p hp ?_
      show (if p ∈ X then w1.H p else w1.S p) = none
      rw [if_neg h]; exact hn⟩
/-- settled for good, from where they were not yet -/
theorem fixs_from {w0 w : Wd} {X : List Addr} (g : Gr w0 w) (h : ∀ a ∈ X, w0.H a = none) : Gr w0 (w.fixs X) :=
  ⟨g.s.trans fixs_ex, g.h, fun p hp hn => by
    show (if p ∈ X then w.H p else w.S p) = none
    rw [if_neg fun z => hp (h p z)]
    exact g.n p hp hn⟩
def Owns (w : Wd) (X : List Addr) : Prop := ∀ a ∈ X, w.S a = none ∧ w.H a ≠ none
theorem Owns.gr {w w' : Wd} {X : List Addr} (h : Owns w X) (g : Gr w w') : Owns w' X := fun a ha => ⟨g.n a (h a ha).2 (h a ha).1, ex_ne g.h (h a ha).2⟩
section
variable {K : PySem.W.Frag} {σ : L2.St} {w w' : Wd} {te tl : TE} {t : TT} {α β : Type} {e : Rep α} {r : Rep β} {l : List α} {b : β} {X : List Addr}
theorem ev_peeks (hX : Owns w X) (hf : r.Flat) (h : EvD K te σ (w.fixs X) r b) : EvD K te σ w r b := fun w1 g Q q =>
  h (w1.fixs X) (fixs_gr (fun a ha => (hX a ha).2) g) Q fun v w2 g2 x => q v (w2.offs X) (offs_gr (fun a ha => ((hX.gr g) a ha).1) g2) (hf _ _ _ _ _ x)
theorem et_peeks {c : Bool} (hX : Owns w X) (h : EvT K t σ (w.fixs X) c) : EvT K t σ w c := fun w1 g Q q =>
  h (w1.fixs X) (fixs_gr (fun a ha => (hX a ha).2) g) Q fun w2 g2 => q (w2.offs X) (offs_gr (fun a ha => ((hX.gr g) a ha).1) g2)
theorem OwnL.owns {p : Addr} (h : OwnL K w p e l) : w.S p = none ∧ w.H p ≠ none := by obtain ⟨xs, o, _⟩ := h; exact ⟨o.s, o.ne⟩
theorem OwnL.in_fixs {p : Addr} (h : OwnL K w p e l) (hp : p ∈ X) : (Rep.list e).r K (w.fixs X).S (.ref p) l := by
  obtain ⟨xs, o, hx⟩ := h
  exact ⟨p, xs, rfl, SqL.of (by rw [fixs_at hp]; exact o.h), paired_mono hx fun _ _ q => e.m fixs_ex q⟩
/-! loops over an own list that stands still -/
def WalksP (K : PySem.W.Frag) (J : It) (G : Wd → Prop) (e : Rep α) (l : List α) : Prop := ∀ w', G w' → ∀ i,
  (∀ a, l[i]? = some a → J.go i w'.H ∧ ∀ x H', J.yld i w'.H x H' → ∃ w2 : Wd, w2.H = H' ∧ Gr w' w2 ∧ e.r K w2.S x a) ∧ (l.length ≤ i → J.stop i w'.H)
def EvIP (K : PySem.W.Frag) (wi : TI) (σ : L2.St) (w : Wd) (G : Wd → Prop) (e : Rep α) (l : List α) : Prop := ∀ w1, Gr w w1 → ∀ R : It → Hp → Prop, (∀ J w2, Gr w1 w2 → WalksP K J G e l → R J w2.H) → wi σ w1.H R
theorem own_walk {p : Addr} : WalksP K (Itl K p) (fun w' => OwnL K w' p e l) e l := fun w3 o i => by
  obtain ⟨xs, ow, hp⟩ := o
  refine ⟨fun b hb => ?_, fun hi => ⟨xs, SqL.of ow.h, by rw [paired_len hp]; exact hi⟩⟩
  obtain ⟨v, hv, hr⟩ := paired_get hp hb
  refine ⟨⟨xs, v, SqL.of ow.h, hv⟩, fun x H' hy => ?_⟩
  obtain ⟨rfl, f⟩ := hy
  have := f xs (SqL.of ow.h)
  rw [hv] at this
  cases this
  exact ⟨w3, rfl, Gr.refl _, hr⟩
theorem ei_listO {p : Addr} {i : Nat} (o : OwnL K w p e l) (hi : σ[i]? = some (some (.ref p))) : EvIP K (iList K (tVar i)) σ w (fun w' => OwnL K w' p e l) e l := fun w1 g R q => by
  obtain ⟨xs, ow, hp⟩ := o.gr g
  exact ⟨_, hi, p, rfl, ⟨xs, SqL.of ow.h⟩, q _ w1 (Gr.refl _) own_walk⟩
theorem ei_enumO {p : Addr} {i : Nat} (o : OwnL K w p e l) (hi : σ[i]? = some (some (.ref p))) : EvIP K (iEnum K (tCons (tVar i) tNil)) σ w (fun w' => OwnL K w' p e l) (Rep.pair Rep.int e) (enumI l) := fun w1 g R q => by
  obtain ⟨xs, ow, hp⟩ := o.gr g
  refine ⟨_, hi, p, xs, rfl, SqL.of ow.h, q _ w1 (Gr.refl _) fun w3 o3 i => ?_⟩
  obtain ⟨ys, oy, hy⟩ := o3
  refine ⟨fun b hb => ?_, fun hi => ⟨ys, SqL.of oy.h, by rw [paired_len hy]; rw [enumI_len] at hi; exact hi⟩⟩
  rw [enumI_get] at hb
  cases hl : l[i]? with
  | none => rw [hl] at hb; cases hb
  | some c =>
    rw [hl] at hb
    cases hb
    obtain ⟨v, hv, hr⟩ := paired_get hy hl
    refine ⟨⟨ys, v, SqL.of oy.h, hv⟩, fun x H' hx => ?_⟩
    obtain ⟨T, y, rfl, nT, rfl, f⟩ := hx
    have := f ys (SqL.of oy.h)
    rw [hv] at this
    cases this
    exact ⟨w3.put T _, rfl, gr_put nT, T, _, _, rfl, SqT.of put_s, rfl, e.m (gr_put nT).s hr⟩
variable {D : Ends} {tb tz : TS} {g : TG}
theorem for_coreP {wi : TI} {G : Wd → Prop} (h : EvIP K wi σ w G e l) (I : Nat → L2.St → Wd → Prop) (h0 : ∀ w1, Gr w w1 → I 0 σ w1) (hG : ∀ i σ' w', I i σ' w' → G w')
    (hs : ∀ i a v σ' w' w2, l[i]? = some a → I i σ' w' → Gr w' w2 → e.r K w2.S v a → g v σ' w2.H fun σ2 H2 => tb { D with nx := Nxt (I (i + 1)) w', ct := Nxt (I (i + 1)) w', bk := D.nx } σ2 H2)
    (hd : ∀ σ' w', I l.length σ' w' → D.nx σ' w'.H) : tFor wi g tb D σ w.H := h w (Gr.refl _) _ fun J w1 g1 hJ => by
  refine ⟨fun i m σ H => m = l.length - i ∧ i ≤ l.length ∧ ∃ w' : Wd, w'.H = H ∧ I i σ w', ⟨l.length, by simp, Nat.zero_le _, w1, rfl, h0 w1 g1⟩, ?_⟩
  rintro i m σ' H ⟨rfl, hi, w', rfl, hI⟩
  obtain ⟨j1, j2⟩ := hJ w' (hG _ _ _ hI) i
  by_cases hlt : i < l.length
  · have hget : l[i]? = some l[i] := by simp [hlt]
    obtain ⟨hgo, hy⟩ := j1 _ hget
    refine .inr ⟨hgo, Nxt (I (i + 1)) w', fun σ2 H2 hN => ?_, fun x H' hx => ?_⟩
    · obtain ⟨w3, e3, x3, i3⟩ := hN
      exact ⟨l.length - (i + 1), by omega, rfl, hlt, w3, e3, i3⟩
    · obtain ⟨w4, rfl, g4, hr⟩ := hy x H' hx
      exact hs i _ x σ' w' w4 hget hI g4 hr
  · have e0 : i = l.length := by omega
    subst e0
    exact .inl ⟨j2 (Nat.le_refl _), hd σ' w' hI⟩
theorem q_for2P {wi : TI} {G : Wd → Prop} {i j n : Nat} {l : List (α × β)} (h : EvIP K wi σ w G (Rep.pair e r) l) (hn : n = 2) (I : Nat → L2.St → Wd → Prop) (h0 : ∀ w1, Gr w w1 → I 0 σ w1) (hG : ∀ i σ' w', I i σ' w' → G w')
    (hs : ∀ m a v v' σ' w' w2, l[m]? = some a → I m σ' w' → Gr w' w2 → e.r K w2.S v a.1 → r.r K w2.S v' a.2 → tb { D with nx := Nxt (I (m + 1)) w', ct := Nxt (I (m + 1)) w', bk := tz D } ((σ'.set i (some v)).set j (some v')) w2.H)
    (hd : ∀ σ' w', I l.length σ' w' → tz D σ' w'.H) : tSeq (tFor wi (gTup K n (gCons (gName i) (gCons (gName j) gNil))) tb) tz D σ w.H :=
  for_coreP (D := { D with nx := tz D }) h I h0 hG (fun m a v σ' w' w2 x1 x2 x3 x4 => g_pair x4 hn fun v1 v2 y1 y2 => hs m a v1 v2 σ' w' w2 x1 x2 x3 y1 y2) hd
theorem cut_init {l : List α} : cut l none (some (-1)) = l.dropLast := by
  unfold cut
  rw [HT.sIx_none]
  have : HT.sIx l.length l.length (some (-1)) = l.length - 1 := by
    unfold HT.sIx
    simp only []
    split <;> omega
  rw [this, List.dropLast_eq_take]; simp
end
end WK
namespace WK
open PySem PySem.Spec PyProof.Rows L2
theorem asgX {te : TE} {i : Nat} {tz : TS} {D : Ends} {σ : L2.St} {H : Hp} (h : te σ H fun x H1 => tz D (σ.set i (some x)) H1) : tSeq (tAsg te (gName i)) tz D σ H := h
end WK

/-! WK, part 9: how long the texts of lists are. -/
namespace WK
open PySem PySem.Spec PyProof.Rows L2
theorem int_show {i : Int} {k : Nat} (hk : 0 < k) (h : i.natAbs < 10 ^ k) : (PyData.int i).shown.length ≤ k + 1 := by
  show (Str.ofString (toString i)).length ≤ k + 1
  have := int_text_length_le10 hk h
  rw [PySem.ofString_length]
  exact this
theorem text_len : ∀ ts : List Str, (listText ts).length ≤ piled ts + 2
  | [] => by decide
  | t :: r => by
    show (textFrom 0 "[" (t :: r) ++ ("]" : Str)).length ≤ _
    have e : textFrom 0 "[" (t :: r) = textFrom 1 (("[" : Str) ++ ("" : String) ++ t) r := rfl
    rw [e]
    have h1 := textFrom_length_pos r 1 (("[" : Str) ++ ("" : String) ++ t) (by decide)
    have h2 : ((("[" : Str) ++ ("" : String) ++ t) : Str).length = 1 + t.length := by
      show (("[" : Str) ++ (Str.ofString "") ++ t).length = 1 + t.length
      simp [Str.length_append]
      rfl
    rw [piled_cons]
    have h3 : ∀ a b : Str, (a ++ b).length = a.length + b.length := fun a b => by simp [Str.length_append]
    rw [h3, h1, h2]
    show 1 + t.length + piled r + 1 ≤ _
    omega
theorem tup_len (ts : List Str) : (tupleText ts).length ≤ piled ts + 4 := by
  have h3 : ∀ a b : Str, (a ++ b).length = a.length + b.length := fun a b => by simp [Str.length_append]
  unfold tupleText
  rw [h3, h3]
  have h4 : (Str.join ", " ts).length ≤ piled ts := by
    by_cases e : ts = []
    · subst e; decide
    · have := join_length_add ts e; omega
  have h5 : ((if (ts.length == 1) = true then ",)" else ")" : String) : Str).length ≤ 2 := by split <;> decide
  have h6 : ("(" : Str).length = 1 := rfl
  omega
theorem piled_le {ts : List Str} {k : Nat} (h : ∀ t ∈ ts, t.length ≤ k) : piled ts ≤ ts.length * (k + 2) := by
  induction ts with
  | nil => simp [piled]
  | cons t r ih =>
    rw [piled_cons, List.length_cons, Nat.add_mul]
    have := ih fun x hx => h x (List.mem_cons_of_mem _ hx)
    have := h t List.mem_cons_self
    omega
theorem shownAll_map (ds : List PyData) : PyData.shownAll ds = ds.map PyData.shown := by
  induction ds with
  | nil => rfl
  | cons d r ih => show d.shown :: _ = _; rw [ih]; rfl
theorem list_show {ds : List PyData} {k : Nat} (h : ∀ d ∈ ds, d.shown.length ≤ k) : (PyData.list ds).shown.length ≤ ds.length * (k + 2) + 2 := by
  show (listText (PyData.shownAll ds)).length ≤ _
  rw [shownAll_map]
  have h1 := text_len (ds.map PyData.shown)
  have h2 := piled_le (ts := ds.map PyData.shown) (k := k) fun t ht => by
    obtain ⟨d, hd, rfl⟩ := List.mem_map.mp ht
    exact h d hd
  rw [List.length_map] at h2
  omega
theorem tup_show {ds : List PyData} {k : Nat} (h : ∀ d ∈ ds, d.shown.length ≤ k) : (PyData.tuple ds).shown.length ≤ ds.length * (k + 2) + 4 := by
  show (tupleText (PyData.shownAll ds)).length ≤ _
  rw [shownAll_map]
  have h1 := tup_len (ds.map PyData.shown)
  have h2 := piled_le (ts := ds.map PyData.shown) (k := k) fun t ht => by
    obtain ⟨d, hd, rfl⟩ := List.mem_map.mp ht
    exact h d hd
  rw [List.length_map] at h2
  omega
theorem showableAll_of {ds : List PyData} (h : ∀ d ∈ ds, d.showable = true) : PyData.showableAll ds = true := by
  induction ds with
  | nil => rfl
  | cons d r ih => show (d.showable && _) = true; rw [h d List.mem_cons_self, ih fun x hx => h x (List.mem_cons_of_mem _ hx)]; rfl
theorem int_able {i : Int} {k : Nat} (hk : 0 < k) (h : i.natAbs < 2 ^ k) (hk2 : k ≤ 1920) : (PyData.int i).showable = true := by
  show decide (i.natAbs.log2 < 1920) = true
  rw [decide_eq_true_eq]
  exact Nat.lt_of_lt_of_le (PySem.Flt.log2_lt_of hk h) hk2
/-- a list of ints of at most k digits -/
theorem ints_show {l : List Int} {k : Nat} (hk : 0 < k) (h : ∀ i ∈ l, i.natAbs < 10 ^ k) : (PyData.list (l.map PyData.int)).shown.length ≤ l.length * (k + 3) + 2 := by
  have := list_show (ds := l.map PyData.int) (k := k + 1) fun d hd => by
    obtain ⟨i, hi, rfl⟩ := List.mem_map.mp hd
    exact int_show hk (h i hi)
  rwa [List.length_map] at this
theorem lists_show {ls : List (List Int)} {k n : Nat} (hk : 0 < k) (h : ∀ l ∈ ls, l.length ≤ n ∧ ∀ i ∈ l, i.natAbs < 10 ^ k) : (PyData.list (ls.map fun l => PyData.list (l.map PyData.int))).shown.length ≤ ls.length * (n * (k + 3) + 4) + 2 := by
  have := list_show (ds := ls.map fun l => PyData.list (l.map PyData.int)) (k := n * (k + 3) + 2) fun d hd => by
    obtain ⟨l, hl, rfl⟩ := List.mem_map.mp hd
    have := ints_show hk (h l hl).2
    have := Nat.mul_le_mul_right (k + 3) (h l hl).1
    omega
  rwa [List.length_map] at this
theorem ints_able {l : List Int} (h : ∀ i ∈ l, i.natAbs < 2 ^ 1900) : (PyData.list (l.map PyData.int)).showable = true :=
  showableAll_of fun d hd => by obtain ⟨i, hi, rfl⟩ := List.mem_map.mp hd; exact int_able (by decide) (h i hi) (by decide)
theorem lists_able {ls : List (List Int)} (h : ∀ l ∈ ls, ∀ i ∈ l, i.natAbs < 2 ^ 1900) : (PyData.list (ls.map fun l => PyData.list (l.map PyData.int))).showable = true :=
  showableAll_of fun d hd => by obtain ⟨l, hl, rfl⟩ := List.mem_map.mp hd; exact ints_able (h l hl)
theorem size_le {n : Nat} (h : n ≤ 16777216) : n ≤ sizeLine := by rw [sizeLine_eq]; exact h
end WK

/-! WK, part 10: sorted, index, steps, data of mixed kinds, comprehensions that change an object, loops that seek. -/
namespace WK
open PySem PySem.Spec PyProof.Rows L2
/-! ### sorted -/
def insI (a : Int) : List Int → List Int
  | [] => [a]
  | b :: r => if a ≤ b then a :: b :: r else b :: insI a r
def sortI : List Int → List Int
  | [] => []
  | a :: r => insI a (sortI r)
theorem insI_perm (a : Int) : ∀ l, (insI a l).Perm (a :: l)
  | [] => .refl _
  | b :: r => by
    unfold insI
    split
    · exact .refl _
    · exact ((insI_perm a r).cons b).trans (.swap a b r)
theorem sortI_perm : ∀ l, (sortI l).Perm l
  | [] => .refl _
  | a :: r => (insI_perm a _).trans ((sortI_perm r).cons a)
theorem insI_sorted (a : Int) : ∀ l : List Int, l.Pairwise (· ≤ ·) → (insI a l).Pairwise (· ≤ ·)
  | [], _ => by simp [insI]
  | b :: r, h => by
    unfold insI
    split
    · rename_i hab
      refine List.pairwise_cons.mpr ⟨fun x hx => ?_, h⟩
      rcases List.mem_cons.mp hx with e | hx
      · omega
      · exact Int.le_trans hab ((List.pairwise_cons.mp h).1 x hx)
    · rename_i hab
      refine List.pairwise_cons.mpr ⟨fun x hx => ?_, insI_sorted a r (List.pairwise_cons.mp h).2⟩
      rcases List.mem_cons.mp ((insI_perm a r).mem_iff.mp hx) with e | hx
      · omega
      · exact (List.pairwise_cons.mp h).1 x hx
theorem sortI_sorted : ∀ l, (sortI l).Pairwise (· ≤ ·)
  | [] => .nil
  | a :: r => insI_sorted a _ (sortI_sorted r)
theorem sortI_uniq {l m : List Int} (h : m.Perm l) (h2 : m.Pairwise (· ≤ ·)) : m = sortI l := perm_sorted_uniq (h.trans (sortI_perm l).symm) h2 (sortI_sorted l)
theorem sortI_congr {l m : List Int} (h : l.Perm m) : sortI l = sortI m := sortI_uniq ((sortI_perm l).trans h) (sortI_sorted l)
theorem sortI_len (l : List Int) : (sortI l).length = l.length := (sortI_perm l).length_eq
section
variable {K : PySem.W.Frag} {σ : L2.St} {w w' : Wd} {ta tb tc te tl : TE} {t u : TT} {α β γ δ : Type} {r : Rep α} {rb : Rep β} {rc : Rep γ} {a : α} {e : Rep α} {l : List α} {v : V} {p : Addr} {D : Ends} {tz : TS}
theorem en_sorted {l : List Int} (h : EvD K ta σ w (Rep.list Rep.int) l) : EvN K (tCB (rSortedI K) (tCons ta tNil)) σ w Rep.int (sortI l) := fun w1 g Q q =>
  h w1 g _ fun v w2 g2 x => by
    obtain ⟨a, rfl, hs⟩ := lints_at x
    refine ⟨a, l, rfl, Evl.ex_l w2.ex hs, fun ns' s perm rise np => ?_⟩
    rw [sortI_uniq perm rise]
    exact q s (w2.new s _ np) (g2.trans (gr_new np)) (fr_back g2 np) ⟨_, own_new np, ints_paired _⟩
theorem en_sortV {i : Nat} {l : List Int} (o : OwnL K w p Rep.int l) (hi : σ[i]? = some (some (.ref p))) : EvN K (tCB (rSortedI K) (tCons (tVar i) tNil)) σ w Rep.int (sortI l) := fun w1 g Q q => by
  obtain ⟨xs, ow, hx⟩ := o.gr g
  rw [paired_ints hx] at ow
  refine ⟨_, hi, p, l, rfl, SqL.of ow.h, fun ns' s perm rise np => ?_⟩
  rw [sortI_uniq perm rise]
  exact q s (w1.new s _ np) (gr_new np) np ⟨_, own_new np, ints_paired _⟩
/-! ### xs.index(x), ints -/
theorem flat_ints (l : List Int) : (l.map V.int).all flatV = true := by
  rw [List.all_map]; exact List.all_eq_true.mpr fun _ _ => rfl
theorem ev_index {l : List Int} {x : Int} {j : Nat} (h : EvD K ta σ w (Rep.list Rep.int) l) (hx : EvD K tb σ w Rep.int x) (hj : l[j]? = some x) (hn : ∀ m y, m < j → l[m]? = some y → y ≠ x) :
    EvD K (tBM K "list" (rIndex K) ta (tCons tb tNil)) σ w Rep.int (j : Int) := fun w1 g Q q =>
  h w1 g _ fun v w2 g2 z => by
    obtain ⟨a, rfl, hs⟩ := lints_at z
    refine ⟨.inl ⟨rfl, _, Evl.ex_l w2.ex hs⟩, hx w2 (g.trans g2) _ fun v w3 g3 z3 => ?_⟩
    cases z3
    refine ⟨a, l.map V.int, .int x, j, .int x, rfl, rfl, Evl.ex_l (g3.s.trans w3.ex) hs, rfl, flat_ints l, by rw [List.getElem?_map, hj]; rfl, by simp [eqV], fun m z' hm hz => ?_, q _ w3 (g2.trans g3) rfl⟩
    rw [List.getElem?_map] at hz
    cases hy : l[m]? with
    | none => rw [hy] at hz; cases hz
    | some y =>
      rw [hy] at hz
      cases hz
      have := hn m y hm hy
      simp [eqV, this]
/-! ### steps -/
theorem en_step {lo c : Int} (h : EvD K te σ w (Rep.list e) l) (h1 : EvD K ta σ w Rep.int lo) (h2 : EvD K tb σ w Rep.int c) (hc : 0 < c ∧ c < 1000000 ∧ 0 ≤ lo ∧ lo ≤ l.length) : EvN K (tStep K te (tPart ta) (tPart tb)) σ w e (stepV l lo.toNat c.toNat) := fun w1 g Q q =>
  h w1 g _ fun v w2 g2 x => h1 w2 (g.trans g2) _ fun v1 w3 g3 x1 => ⟨lo, x1, h2 w3 ((g.trans g2).trans g3) _ fun v2 w4 g4 x2 => ⟨c, x2, by
    obtain ⟨a, xs, rfl, hs, hp⟩ := x
    refine ⟨a, xs, lo.toNat, c.toNat, rfl, by rw [Int.toNat_of_nonneg hc.2.2.1], by rw [Int.toNat_of_nonneg (by omega)], by omega, by omega, by rw [paired_len hp]; omega, Evl.ex_l ((g3.s.trans g4.s).trans w4.ex) hs, fun p np => ?_⟩
    refine q p (w4.new p _ np) (((g2.trans g3).trans g4).trans (gr_new np)) (fr_back ((g2.trans g3).trans g4) np) ⟨_, own_new np, ?_⟩
    have hp' : Paired (e.r K w4.S) xs l := paired_mono hp fun _ _ z => e.m (g3.s.trans g4.s) z
    unfold stepV
    rw [paired_len hp']
    exact paired_filterMap hp' _⟩⟩
theorem filterMap_range {f : Nat → Option α} (hf : ∀ i j, i ≤ j → f i = none → f j = none) : ∀ n j, ((List.range n).filterMap f)[j]? = if j < n then f j else none
  | 0, j => by simp
  | n + 1, j => by
    have ih := filterMap_range hf n
    rw [List.range_succ, List.filterMap_append]
    cases q : f n with
    | none =>
      have : [n].filterMap f = [] := by simp [q]
      rw [this, List.append_nil, ih j]
      by_cases h1 : j < n
      · rw [if_pos h1, if_pos (by omega)]
      · rw [if_neg h1]
        by_cases h2 : j < n + 1
        · rw [if_pos h2, show j = n by omega, q]
        · rw [if_neg h2]
    | some a =>
      have : [n].filterMap f = [a] := by simp [q]
      rw [this]
      have hl : ((List.range n).filterMap f).length = n := by
        refine Nat.le_antisymm ?_ ?_
        · refine Nat.le_trans (List.length_filterMap_le _ _) (by simp)
        · rcases Nat.eq_zero_or_pos n with h | h
          · omega
          · have h1 := ih (n - 1)
            rw [if_pos (by omega)] at h1
            have h2 : f (n - 1) ≠ none := fun z => by rw [hf (n - 1) n (by omega) z] at q; cases q
            obtain ⟨b, hb⟩ := Option.ne_none_iff_exists'.mp h2
            rw [hb] at h1
            have := (List.getElem?_eq_some_iff.mp h1).1
            omega
      by_cases h1 : j < n
      · rw [List.getElem?_append_left (by omega), ih j, if_pos h1, if_pos (by omega)]
      · rw [List.getElem?_append_right (by omega), hl]
        by_cases h2 : j < n + 1
        · rw [if_pos h2, show j = n by omega, q]; simp
        · rw [if_neg h2]; exact List.getElem?_eq_none (by simp; omega)
theorem stepV_get {l : List α} {lo c j : Nat} (hc : 0 < c) : (stepV l lo c)[j]? = l[lo + c * j]? := by
  unfold stepV
  rw [List.filterMap_map]
  have := filterMap_range (f := fun k => l[lo + c * k]?) (fun i j h q => List.getElem?_eq_none (by
    have := List.getElem?_eq_none_iff.mp q
    have := Nat.mul_le_mul_left c h
    omega)) l.length j
  have e : ((fun x => l[x]?) ∘ fun k => lo + c * k) = fun k => l[lo + c * k]? := rfl
  rw [e, this]
  split
  · rfl
  · exact (List.getElem?_eq_none (by
      have : j ≤ c * j := Nat.le_mul_of_pos_left j hc
      omega)).symm
end
end WK

/-! WK, part 11: data of mixed kinds, comprehensions that change an object, loops that seek, lists that may be absent. -/
namespace WK
open PySem PySem.Spec PyProof.Rows L2
mutual
theorem dp_ex {K : PySem.W.Frag} {H H' : Hp} (x : Ex H H') : ∀ {v : V} {d : PyData}, Dp K H v d → Dp K H' v d
  | _, _, .non => .non
  | _, _, .bl b => .bl b
  | _, _, .int i => .int i
  | _, _, .str s => .str s
  | _, _, .lst h a => .lst (Evl.ex_l x h) (dpAll_ex x a)
  | _, _, .tup h a => .tup (Evl.ex_t x h) (dpAll_ex x a)
theorem dpAll_ex {K : PySem.W.Frag} {H H' : Hp} (x : Ex H H') : ∀ {vs : List V} {ds : List PyData}, DpAll K H vs ds → DpAll K H' vs ds
  | _, _, .nil => .nil
  | _, _, .cons h a => .cons (dp_ex x h) (dpAll_ex x a)
end
def Rep.dat : Rep PyData := ⟨fun K H v d => Dp K H v d, fun x h => dp_ex x h⟩
theorem dpAll_dat {K : PySem.W.Frag} {H : Hp} {xs : List V} {ds : List PyData} (h : Paired (Rep.dat.r K H) xs ds) : DpAll K H xs ds := by
  induction h with
  | nil => exact .nil
  | cons r _ ih => exact .cons r ih
/-- a kind of value as plain data, no more asked -/
def DV {α : Type} (e : Rep α) (f : α → PyData) : Prop := ∀ K H v a, e.r K H v a → Dp K H v (f a)
theorem RD.dv {α : Type} {e : Rep α} {f : α → PyData} {n : Nat} (h : RD e f n) : DV e f := h.dp
theorem dv_str : DV Rep.str PyData.str := fun K H v a h => by cases h; exact .str a
theorem dv_pair {α β : Type} {e : Rep α} {e2 : Rep β} {f : α → PyData} {g : β → PyData} (h : DV e f) (h2 : DV e2 g) : DV (Rep.pair e e2) (fun x => PyData.tuple [f x.1, g x.2]) := fun K H v l q => by
  obtain ⟨a, x, y, rfl, hs, h3, h4⟩ := q; exact .tup hs (.cons (h _ _ _ _ h3) (.cons (h2 _ _ _ _ h4) .nil))
section
variable {K : PySem.W.Frag} {σ : L2.St} {w w' : Wd} {ta tb tc te tl : TE} {t u : TT} {α β γ δ : Type} {r : Rep α} {rb : Rep β} {rc : Rep γ} {a : α} {e : Rep α} {l : List α} {v : V} {p : Addr} {D : Ends} {tz : TS}
theorem ev_dat {f : α → PyData} (h : DV e f) (ha : EvD K ta σ w e a) : EvD K ta σ w Rep.dat (f a) := fun w1 g Q q => ha w1 g Q fun v w2 g2 x => q v w2 g2 (h _ _ _ _ x)
theorem ev_datL {ds : List PyData} (ha : EvD K ta σ w (Rep.list Rep.dat) ds) : EvD K ta σ w Rep.dat (.list ds) := fun w1 g Q q => ha w1 g Q fun v w2 g2 x => q v w2 g2 (by
  obtain ⟨a, xs, rfl, hs, hp⟩ := x
  exact .lst hs (dpAll_dat hp))
theorem ev_reprX {ds : List PyData} (ha : EvD K ta σ w (Rep.list Rep.dat) ds) (hd : (PyData.list ds).hasDict = false) (hs : (PyData.list ds).showable = true) (hn : (PyData.list ds).depth ≤ 64) (hz : (PyData.list ds).shown.length ≤ sizeLine) :
    EvD K (tCB (rRepr K) (tCons ta tNil)) σ w Rep.str (PyData.list ds).shown := fun w1 g Q q => ha w1 g _ fun v w2 g2 x => by
  obtain ⟨a, xs, rfl, h2, hp⟩ := x
  exact ⟨a, .list ds, rfl, .lst (Evl.ex_l w2.ex h2) (dpAll_ex w2.ex (dpAll_dat hp)), hd, hs, hn, hz, q _ w2 g2 rfl⟩
theorem ev_eqX {d d' : PyData} (ha : EvD K ta σ w Rep.dat d) (hb : EvD K tb σ w Rep.dat d') (h1 : SeqAt.shaped d = true) (h2 : SeqAt.shaped d' = true) : EvD K (tOp (rEqD K) ta tb) σ w Rep.bl (PyData.eqv d d') := fun w1 g Q q =>
  ha w1 g _ fun v w2 g2 x => hb w2 (g.trans g2) _ fun v' w3 g3 y => ⟨d, d', dp_ex (g3.s.trans w3.ex) x, dp_ex w3.ex y, h1, h2, q _ w3 (g2.trans g3) rfl⟩
theorem ev_neX {d d' : PyData} (ha : EvD K ta σ w Rep.dat d) (hb : EvD K tb σ w Rep.dat d') (h1 : SeqAt.shaped d = true) (h2 : SeqAt.shaped d' = true) : EvD K (tOp (rNeD K) ta tb) σ w Rep.bl (!PyData.eqv d d') := fun w1 g Q q =>
  ha w1 g _ fun v w2 g2 x => hb w2 (g.trans g2) _ fun v' w3 g3 y => ⟨d, d', dp_ex (g3.s.trans w3.ex) x, dp_ex w3.ex y, h1, h2, q _ w3 (g2.trans g3) rfl⟩
/-- xs + ys, xs a name -/
theorem en_catO {i : Nat} {m : List α} (o : OwnL K w p e l) (hi : σ[i]? = some (some (.ref p))) (h2 : EvN K tb σ w e m) (hz : l.length + m.length ≤ 100000) : EvN K (tOp rCat (tVar i) tb) σ w e (l ++ m) := fun w1 g Q q => ⟨_, hi,
  h2 w1 g _ fun p' w3 g3 n3 o3 => by
    obtain ⟨xs, ox, hx⟩ := (o.gr g).gr g3
    obtain ⟨ys, oy, hy⟩ := o3
    refine ⟨p, p', xs, ys, rfl, rfl, ox.h, oy.h, by rw [paired_len hx, paired_len hy]; exact sz5 hz, fun d nd => ?_⟩
    exact q d (w3.new d _ nd) (g3.trans (gr_new nd)) (fr_back g3 nd) ⟨_, own_new nd, paired_app hx hy⟩⟩
/-- what is own beside what is read as settled -/
theorem OwnL.fixs {X : List Addr} (o : OwnL K w p e l) (h : p ∉ X) : OwnL K (w.fixs X) p e l := by
  obtain ⟨xs, ow, hp⟩ := o
  exact ⟨xs, ⟨by show (if p ∈ X then w.H p else w.S p) = none; rw [if_neg h]; exact ow.s, ow.h⟩, paired_mono hp fun _ _ z => e.m fixs_ex z⟩
theorem OwnL.raw (o : OwnL K w p e l) : ∃ xs, OwnL K w p Rep.raw xs ∧ xs.length = l.length := by
  obtain ⟨xs, ow, hp⟩ := o
  exact ⟨xs, ⟨xs, ow, paired_raw xs⟩, paired_len hp⟩
/-- a change, then a change of what is new -/
theorem Mt.then {p d : Addr} {a b c : Wd} (x : Mt p a b) (y : Mt d b c) (h : a.H d = none) : Mt p a c :=
  ⟨x.s.trans y.s, fun w0 g n => y.gr w0 (x.gr w0 g n) (fr_back g h), fun q o ne z => y.own q o (fun e => z.ne (e ▸ h)) (x.own q o ne z), fun q z => y.dom q (x.dom q z)⟩
theorem Mt.self {p : Addr} {w : Wd} : Mt p w w := ⟨exr _, fun _ g _ => g, fun _ _ _ h => h, fun _ h => h⟩
/-- [e for x in ..], e changes the object at p -/
theorem lc_jar {wi : TI} {j : Nat} {vs : List Nat} {e' : Rep β} {Q : VK} (I : Nat → Wd → Prop) (PR : β → Prop) (h : EvI K wi σ w e l) (hL : l.length ≤ 100000) (hw : ∀ x, wipe ((wipe σ vs).set j (some x)) vs = wipe σ vs)
    (hp : ∀ i w', I i w' → w'.H p ≠ none) (h0 : ∀ w1, Gr w w1 → I 0 w1) (hI : ∀ i w' w'', I i w' → Gr w' w'' → I i w'') (hM : ∀ i d w' w'', p ≠ d → I i w' → Mt d w' w'' → I i w'')
    (hb : ∀ i a v w', l[i]? = some a → Ex w.S w'.S → I i w' → e.r K w'.S v a → ∀ Q : VK, (∀ y b w2, Mt p w' w2 → I (i + 1) w2 → e'.r K w2.S y b → PR b → Q y w2.H) → te ((wipe σ vs).set j (some v)) w'.H Q)
    (k : ∀ q l' w', Mt p w w' → I l.length w' → w.H q = none → q ≠ p → OwnL K w' q e' l' → l'.length = l.length → (∀ b ∈ l', PR b) → Q (.ref q) w'.H) : tLc wi (gName j) tYes te vs σ w.H Q := h w (Gr.refl _) _ fun J w2 g2 hJ Dl hD => by
  have hpn : w.H p ≠ none := hp 0 w (h0 w (Gr.refl _))
  have hDp : Dl ≠ p := fun z => hpn (fr_back g2 (z ▸ hD))
  refine ⟨fun i m H => m = l.length - i ∧ i ≤ l.length ∧ ∃ w' : Wd, w'.H = H ∧ Mt p w w' ∧ I i w' ∧ Ex w2.S w'.S ∧ ∃ l', OwnL K w' Dl e' l' ∧ l'.length = i ∧ ∀ b ∈ l', PR b,
    ⟨l.length, by simp, Nat.zero_le _, w2.new Dl _ hD, rfl, (g2.trans (gr_new hD)).mt hpn, hI _ _ _ (h0 w (Gr.refl _)) (g2.trans (gr_new hD)), exr _, [], ⟨[], own_new hD, .nil⟩, rfl, by simp⟩, ?_⟩
  rintro i m H ⟨rfl, hi, w', rfl, m3, i3, x3, l', o, hl', hPR⟩
  obtain ⟨j1, j2⟩ := hJ w' x3 i
  by_cases hlt : i < l.length
  · have hget : l[i]? = some l[i] := by simp [hlt]
    obtain ⟨hgo, hy⟩ := j1 _ hget
    refine .inr ⟨hgo, fun H => ∃ w4 : Wd, w4.H = H ∧ Mt p w w4 ∧ I (i + 1) w4 ∧ Ex w2.S w4.S ∧ ∃ l', OwnL K w4 Dl e' l' ∧ l'.length = i + 1 ∧ ∀ b ∈ l', PR b, fun H' hN => ⟨l.length - (i + 1), by omega, rfl, hlt, hN⟩, fun x H' hx => ?_⟩
    obtain ⟨w4, rfl, g4, hr⟩ := hy x H' hx
    have m4 : Mt p w w4 := m3.trans (g4.mt (m3.dom p hpn))
    refine ⟨hw x, hb i _ x w4 hget m4.s (hI _ _ _ i3 g4) hr _ fun y b w5 m5 i5 r5 pb => ?_⟩
    obtain ⟨xs, ow, hpd⟩ := (o.gr g4).mt m5 hDp
    refine ⟨xs, ow.h, by rw [paired_len hpd]; exact sz5' (by omega), w5.set Dl _ ow.s, rfl, (m4.trans m5).then (mt_set ow.s) (fr_back g2 hD), hM _ Dl _ _ (Ne.symm hDp) i5 (mt_set ow.s), (x3.trans g4.s).trans m5.s, l' ++ [b], ⟨_, own_set ow.s, paired_app hpd (.cons r5 .nil)⟩, by simp [hl'], fun c hc => ?_⟩
    rcases List.mem_append.mp hc with z | z
    · exact hPR c z
    · rw [List.mem_singleton.mp z]; exact pb
  · have e0 : i = l.length := by omega
    subst e0
    exact .inl ⟨j2 (Nat.le_refl _), k Dl l' w' m3 i3 (fr_back g2 hD) hDp o hl' hPR⟩
/-! ### loops that seek -/
theorem seek_none {f : α → Option β} {i : Nat} (hn : (l.take i).findSome? f = none) (h : l[i]? = some a) (hf : f a = none) : (l.take (i + 1)).findSome? f = none := by
  rw [List.take_add_one, h, List.findSome?_append, hn]; simp [hf]
theorem seek_hit {f : α → Option β} {i : Nat} {b : β} (hn : (l.take i).findSome? f = none) (h : l[i]? = some a) (hf : f a = some b) : l.findSome? f = some b := by
  have hi := (List.getElem?_eq_some_iff.mp h).1
  have : l = l.take i ++ (a :: l.drop (i + 1)) := by
    have h2 : l[i] = a := (List.getElem?_eq_some_iff.mp h).2
    rw [← h2, ← List.drop_eq_getElem_cons hi, List.take_append_drop]
  rw [this, List.findSome?_append, hn]; simp [hf]
/-! ### a list that may be absent -/
def spO3 {α0 α1 α2 γ : Type} (K : PySem.W.Frag) (r0 : Rep α0) (r1 : Rep α1) (r2 : Rep α2) (pre : α0 → α1 → α2 → Prop) (rc : Rep γ) (f : α0 → α1 → α2 → Option (List γ)) : Sp := fun vs H Q _ =>
  ∃ (wd : Wd) (x0 x1 x2 : V) (a0 : α0) (a1 : α1) (a2 : α2), wd.H = H ∧ vs = [x0, x1, x2] ∧ r0.r K wd.S x0 a0 ∧ r1.r K wd.S x1 a1 ∧ r2.r K wd.S x2 a2 ∧ pre a0 a1 a2 ∧
    (f a0 a1 a2 = none → ∀ w', Gr wd w' → Q .non w'.H) ∧ (∀ l, f a0 a1 a2 = some l → ∀ p w', Gr wd w' → wd.H p = none → OwnL K w' p rc l → Q (.ref p) w'.H)
theorem ev_callO3 {α0 α1 α2 : Type} {r0 : Rep α0} {r1 : Rep α1} {r2 : Rep α2} {pre : α0 → α1 → α2 → Prop} {f : α0 → α1 → α2 → Option (List γ)} {a0 : α0} {a1 : α1} {a2 : α2} {t0 t1 t2 : TE} {E : XK}
    (h0 : EvD K t0 σ w r0 a0) (h1 : EvD K t1 σ w r1 a1) (h2 : EvD K t2 σ w r2 a2) (hp : pre a0 a1 a2) : EvD K (tCall (spO3 K r0 r1 r2 pre rc f) [] E (tCons t0 (tCons t1 (tCons t2 tNil)))) σ w (Rep.opt (Rep.list rc)) (f a0 a1 a2) := fun w1 g Q q =>
  h0 w1 g _ fun v0 u0 k0 z0 => h1 u0 (g.trans k0) _ fun v1 u1 k1 z1 => h2 u1 ((g.trans k0).trans k1) _ fun v2 u2 k2 z2 => ⟨u2, _, _, _, _, _, _, rfl, rfl, r0.m (k1.s.trans k2.s) z0, r1.m k2.s z1, z2, hp,
    fun e w' g' => q _ w' (((k0.trans k1).trans k2).trans g') (by rw [e]; exact rfl), fun l e p w' g' n o => by
      obtain ⟨w3, e3, m3, rr⟩ := o.fix
      rw [← e3]
      exact q _ w3 (m3.gr w1 (((k0.trans k1).trans k2).trans g') (fr_back ((k0.trans k1).trans k2) n)) (by rw [e]; exact rr)⟩
theorem callO3_run {α0 α1 α2 : Type} {r0 : Rep α0} {r1 : Rep α1} {r2 : Rep α2} {pre : α0 → α1 → α2 → Prop} {f : α0 → α1 → α2 → Option (List γ)} {a0 : α0} {a1 : α1} {a2 : α2} {t0 t1 t2 : TE} {E : XK} {Q : VK}
    (h0 : EvD K t0 σ w r0 a0) (h1 : EvD K t1 σ w r1 a1) (h2 : EvD K t2 σ w r2 a2) (hp : pre a0 a1 a2) (q0 : f a0 a1 a2 = none → ∀ w', Gr w w' → Q .non w'.H) (q1 : ∀ l, f a0 a1 a2 = some l → ∀ p w', Gr w w' → w.H p = none → OwnL K w' p rc l → Q (.ref p) w'.H) :
    tCall (spO3 K r0 r1 r2 pre rc f) [] E (tCons t0 (tCons t1 (tCons t2 tNil))) σ w.H Q :=
  h0.run fun v0 u0 k0 z0 => (h1.gr k0).run fun v1 u1 k1 z1 => (h2.gr (k0.trans k1)).run fun v2 u2 k2 z2 => ⟨u2, _, _, _, _, _, _, rfl, rfl, r0.m (k1.s.trans k2.s) z0, r1.m k2.s z1, z2, hp,
    fun e w' g' => q0 e w' (((k0.trans k1).trans k2).trans g'), fun l e p w' g' n o => q1 l e p w' (((k0.trans k1).trans k2).trans g') (fr_back ((k0.trans k1).trans k2) n) o⟩
theorem okO3 {α0 α1 α2 : Type} {r0 : Rep α0} {r1 : Rep α1} {r2 : Rep α2} {pre : α0 → α1 → α2 → Prop} {f : α0 → α1 → α2 → Option (List γ)} {P : Program} {w : World} {K : PySem.W.Frag} {mg : Str → Option Value} {base : Heap} {x qual : Str} {params : Arguments} {body : List Stmt} {scope : Scope} {dvs : List V} {kws : List (Str × V)} {fa : Addr} {fd : FuncData} {CX : CXT} {N ps : List Str} {k : Nat}
    (F : FunD K x qual params body scope dvs kws fa fd) (S : FnScope N ps scope) (hl : ps.length = 3)
    (hb : ∀ (cdv : Value) (A : Around) (outer : List Env) (s : Shared) (H : Hp) (E : XK), Room k (A.deeper (envOfC qual scope s.heap.objs.size fa cdv)) → ∃ t, PSs (cxOf CX P w K mg base N qual scope fa cdv A outer s H E).nox body t ∧
      ∀ (wd : Wd) (x0 : V) (x1 : V) (x2 : V) (a0 : α0) (a1 : α1) (a2 : α2) (Q : VK), r0.r K wd.S x0 a0 → r1.r K wd.S x1 a1 → r2.r K wd.S x2 a2 → pre a0 a1 a2 → (f a0 a1 a2 = none → ∀ w', Gr wd w' → Q .non w'.H) →
        (∀ l, f a0 a1 a2 = some l → ∀ p w', Gr wd w' → wd.H p = none → OwnL K w' p rc l → Q (.ref p) w'.H) → t { nx := fun _ H' => Q .non H', rt := Q } (start N [x0, x1, x2]) wd.H) : FnOk P w K mg base CX (k + 1) fa fd ps (spO3 K r0 r1 r2 pre rc f) :=
  FunD.ok F S (fun vs H Q E h => by obtain ⟨wd, x0, x1, x2, a0, a1, a2, hw, hv, _⟩ := h; rw [hl, hv] <;> rfl) fun cdv A outer s H vs Q E hr h => by
    obtain ⟨t, ht, hq⟩ := hb cdv A outer s H E hr
    obtain ⟨wd, x0, x1, x2, a0, a1, a2, hw, hv, q0, q1, q2, hp, k0, k1⟩ := h
    subst hv; subst hw
    exact ⟨t, PSs.nox ht, hq wd x0 x1 x2 a0 a1 a2 Q q0 q1 q2 hp k0 k1⟩
end
end WK

/-! WK, part 12: ranges with a step; items by place. -/
namespace WK
open PySem PySem.Spec PyProof.Rows L2
theorem fits_small {x : Int} (h : -10000000 ≤ x ∧ x ≤ 10000000) : Builtin.Range.rangeFitsLong x = true := by
  unfold Builtin.Range.rangeFitsLong
  simp
  omega
theorem div_small {x c : Int} (hc : 1 ≤ c) (h : -1000000 ≤ x ∧ x ≤ 1000000) : -1000000 ≤ x / c ∧ x / c ≤ 1000000 := by
  refine ⟨?_, ?_⟩
  · refine (Int.le_ediv_iff_mul_le (by omega)).mpr ?_
    have := Int.mul_le_mul_of_nonneg_left hc (show (0 : Int) ≤ 1000000 by decide)
    omega
  · by_cases h0 : 0 ≤ x
    · exact Int.le_trans (Int.ediv_le_self _ h0) h.2
    · have : x / c < 0 := Int.ediv_neg_of_neg_of_pos (by omega) (by omega)
      omega
theorem rgc_up {lo hi c : Int} (hl : -100000 ≤ lo ∧ lo ≤ 100000) (hh : -100000 ≤ hi ∧ hi ≤ 100000) (hc : 1 ≤ c ∧ c ≤ 1000) : RgC lo hi c ((hi - lo + c - 1) / c).toNat := by
  have hs : Builtin.Range.rangeSize lo hi c = (((hi - lo + c - 1) / c).toNat : Int) := by
    unfold Builtin.Range.rangeSize
    rw [if_pos (by omega)]
    have e : hi - lo + c - 1 = (hi - lo - 1) + 1 * c := by omega
    rw [e, Int.add_mul_ediv_right _ _ (by omega)]
    split
    · have := Int.ediv_nonneg (show 0 ≤ hi - lo - 1 by omega) (show 0 ≤ c by omega)
      omega
    · have := Int.ediv_neg_of_neg_of_pos (show hi - lo - 1 < 0 by omega) (show 0 < c by omega)
      omega
  refine ⟨by omega, by omega, ?_, hs⟩
  unfold Builtin.Range.small
  have hd := div_small (x := hi - lo + c - 1) hc.1 (by omega)
  have f1 := fits_small (x := lo) (by omega)
  have f2 := fits_small (x := hi) (by omega)
  have f3 := fits_small (x := c) (by omega)
  have f4 := fits_small (x := (((hi - lo + c - 1) / c).toNat : Int)) (by omega)
  have f5 := fits_small (x := hi + (c - 1)) (by omega)
  rw [hs, f1, f2, f3, f4, if_pos (by omega), f5]
  simp
theorem srange_mem {lo hi c a : Int} (hc : 1 ≤ c) : a ∈ srange lo hi c ↔ ∃ m : Nat, a = lo + (m : Int) * c ∧ a < hi := by
  unfold srange
  simp only [List.mem_map, List.mem_range]
  have key : ∀ m : Nat, m < ((hi - lo + c - 1) / c).toNat ↔ lo + (m : Int) * c < hi := by
    intro m
    have h1 : m < ((hi - lo + c - 1) / c).toNat ↔ (m : Int) + 1 ≤ (hi - lo + c - 1) / c := by omega
    rw [h1, Int.le_ediv_iff_mul_le (by omega), Int.add_mul]
    omega
  constructor
  · rintro ⟨m, h, rfl⟩; exact ⟨m, rfl, (key m).mp h⟩
  · rintro ⟨m, rfl, h⟩; exact ⟨m, (key m).mpr h, rfl⟩
section
variable {K : PySem.W.Frag} {σ : L2.St} {w w' : Wd} {ta tb tc te tl : TE} {α : Type} {e : Rep α} {l : List α}
theorem ei_srange {lo hi c : Int} (h : EvD K ta σ w Rep.int lo) (h2 : EvD K tb σ w Rep.int hi) (h3 : EvD K tc σ w Rep.int c) (hl : -100000 ≤ lo ∧ lo ≤ 100000) (hh : -100000 ≤ hi ∧ hi ≤ 100000) (hc : 1 ≤ c ∧ c ≤ 1000) :
    EvI K (iRng3 (tCons ta (tCons tb (tCons tc tNil)))) σ w Rep.int (srange lo hi c) := ei_range3 h h2 h3 (rgc_up hl hh hc)
theorem atI_D {i : Int} {d : α} (h0 : 0 ≤ i) (h : i < l.length) : atI l i = some (l.getD i.toNat d) := by
  refine atI_int h0 ?_
  rw [List.getD_eq_getElem?_getD]
  have : i.toNat < l.length := by omega
  simp [this]
theorem getD_at {i : Nat} {d a : α} (h : l[i]? = some a) : l.getD i d = a := by rw [List.getD_eq_getElem?_getD, h]; rfl
theorem getD_some {i : Nat} {d : α} (h : i < l.length) : l[i]? = some (l.getD i d) := by
  rw [List.getD_eq_getElem?_getD]; simp [h]
end
theorem getD_bd {l : List Int} {B : Nat} (h : ∀ v ∈ l, v.natAbs ≤ B) (i : Nat) : (l.getD i 0).natAbs ≤ B := by
  rw [List.getD_eq_getElem?_getD]
  cases q : l[i]? with
  | none => exact Nat.zero_le _
  | some a => exact h a (List.mem_of_getElem? q)
/-- xs[lo::c] where the unit's own cells are told -/
theorem pe_stepK {X : Cx} {e a b : Expr} {te : TE} {tl ts : TO} {p2 pos : Pos} (K : PySem.W.Frag) (he : PE X e te) (ha : PO X (some a) tl) (hb : PO X (some b) ts) (hK : X.K = K := by rfl)
    (hsub : ∀ (x y : Value), subscripted (.Slice (some a) none (some b) p2) false x y = operate [x, y] (getItem x y) := by intros; rfl) : PE X (.Subscript e (.Slice (some a) none (some b) p2) pos) (tStep K te tl ts) := hK ▸ pe_step he ha hb hsub
end WK

/-! WK, part 13: sorted pairs, unpacked lists, xs[i] op= e, len(set(xs)), comprehensions whose test draws. -/
namespace WK
open PySem PySem.Spec PyProof.Rows L2
/-! ### pairs sorted -/
def leP (a b : Int × Int) : Bool := decide (a.1 < b.1) || (decide (a.1 = b.1) && decide (a.2 ≤ b.2))
def insP (a : Int × Int) : List (Int × Int) → List (Int × Int)
  | [] => [a]
  | b :: r => if leP a b = true then a :: b :: r else b :: insP a r
def sortP : List (Int × Int) → List (Int × Int)
  | [] => []
  | a :: r => insP a (sortP r)
theorem leP_iff {a b : Int × Int} : leP a b = true ↔ a.1 < b.1 ∨ (a.1 = b.1 ∧ a.2 ≤ b.2) := by unfold leP; simp
theorem insP_perm (a : Int × Int) : ∀ l, (insP a l).Perm (a :: l)
  | [] => .refl _
  | b :: r => by
    unfold insP
    split
    · exact .refl _
    · exact ((insP_perm a r).cons b).trans (.swap a b r)
theorem sortP_perm : ∀ l, (sortP l).Perm l
  | [] => .refl _
  | a :: r => (insP_perm a _).trans ((sortP_perm r).cons a)
theorem insP_sorted (a : Int × Int) : ∀ l : List (Int × Int), l.Pairwise (fun x y => leP x y = true) → (insP a l).Pairwise (fun x y => leP x y = true)
  | [], _ => by simp [insP]
  | b :: r, h => by
    unfold insP
    split
    · rename_i hab
      refine List.pairwise_cons.mpr ⟨fun x hx => ?_, h⟩
      rcases List.mem_cons.mp hx with e | hx
      · rw [e]; exact hab
      · have h1 := leP_iff.mp hab
        have h2 := leP_iff.mp ((List.pairwise_cons.mp h).1 x hx)
        exact leP_iff.mpr (by omega)
    · rename_i hab
      have hab' : ¬ (a.1 < b.1 ∨ (a.1 = b.1 ∧ a.2 ≤ b.2)) := fun z => hab (leP_iff.mpr z)
      refine List.pairwise_cons.mpr ⟨fun x hx => ?_, insP_sorted a r (List.pairwise_cons.mp h).2⟩
      rcases List.mem_cons.mp ((insP_perm a r).mem_iff.mp hx) with e | hx
      · rw [e]; exact leP_iff.mpr (by omega)
      · exact (List.pairwise_cons.mp h).1 x hx
theorem sortP_sorted : ∀ l, (sortP l).Pairwise (fun x y => leP x y = true)
  | [] => .nil
  | a :: r => insP_sorted a _ (sortP_sorted r)
theorem sortP_uniq {l m : List (Int × Int)} (h : m.Perm l) (h2 : m.Pairwise (fun x y => leP x y = true)) : m = sortP l := by
  refine List.Perm.eq_of_pairwise (le := fun x y => leP x y = true) ?_ h2 (sortP_sorted l) (h.trans (sortP_perm l).symm)
  intro a b _ _ h1 h2
  have h1 := leP_iff.mp h1
  have h2 := leP_iff.mp h2
  exact Prod.ext (by omega) (by omega)
/-- a tuple of two ints as it lies -/
def Rep.tupI : Rep (Int × Int) := ⟨fun _ H v a => ∃ t, v = .ref t ∧ H t = some (.tup [.int a.1, .int a.2]), fun x h => by obtain ⟨t, e, h⟩ := h; exact ⟨t, e, x _ _ h⟩⟩
theorem tupI_pair {K : PySem.W.Frag} {H : Hp} {v : V} {a : Int × Int} (h : Rep.tupI.r K H v a) : (Rep.pair Rep.int Rep.int).r K H v a := by
  obtain ⟨t, rfl, h⟩ := h
  exact ⟨t, _, _, rfl, SqT.of h, rfl, rfl⟩
def kOf (H : Hp) : V → Int × Int
  | .ref t => match H t with
    | some (.tup [.int a, .int b]) => (a, b)
    | _ => (0, 0)
  | _ => (0, 0)
theorem kOf_at {K : PySem.W.Frag} {H : Hp} {v : V} {a : Int × Int} (h : Rep.tupI.r K H v a) : kOf H v = a := by
  obtain ⟨t, rfl, h⟩ := h
  show (match H t with
    | some (.tup [.int a, .int b]) => (a, b)
    | _ => (0, 0)) = a
  rw [h]
section
variable {K : PySem.W.Frag} {σ : L2.St} {w w' : Wd} {ta tb tc te tl : TE} {t u : TT} {α β γ δ : Type} {r : Rep α} {rb : Rep β} {rc : Rep γ} {a : α} {e : Rep α} {l : List α} {v : V} {p : Addr} {D : Ends} {tz : TS}
theorem ev_tupI {x y : Int} (h : EvD K ta σ w Rep.int x) (h2 : EvD K tb σ w Rep.int y) : EvD K (tTup (tCons ta (tCons tb tNil))) σ w Rep.tupI (x, y) := fun w1 g Q q =>
  h w1 g _ fun v w2 g2 x => h2 w2 (g.trans g2) _ fun v' w3 g3 y => ⟨by show 2 ≤ sizeLine; decide, fun p hp => by
    cases x; cases y
    exact q _ (w3.put p _) ((g2.trans g3).trans (gr_put hp)) ⟨p, rfl, put_s⟩⟩
theorem paired_map_k {H : Hp} {K : PySem.W.Frag} : ∀ {xs : List V} {l : List (Int × Int)}, Paired (Rep.tupI.r K H) xs l → xs.map (kOf H) = l
  | _, _, .nil => rfl
  | _, _, .cons h t => by rw [List.map_cons, kOf_at h, paired_map_k t]
theorem paired_of_mem {H : Hp} {K : PySem.W.Frag} : ∀ {ys : List V}, (∀ y ∈ ys, Rep.tupI.r K H y (kOf H y)) → Paired (Rep.tupI.r K H) ys (ys.map (kOf H))
  | [], _ => .nil
  | y :: ys, h => .cons (h y List.mem_cons_self) (paired_of_mem fun z hz => h z (List.mem_cons_of_mem _ hz))
theorem paired_mem {α : Type} {F : V → α → Prop} {xs : List V} {l : List α} (h : Paired F xs l) {x : V} (hx : x ∈ xs) : ∃ a, F x a := by
  obtain ⟨i, hi⟩ := List.mem_iff_getElem?.mp hx
  obtain ⟨a, _, r⟩ := paired_get' h hi
  exact ⟨a, r⟩
theorem en_sortP {l : List (Int × Int)} (h : EvD K ta σ w (Rep.list Rep.tupI) l) : EvN K (tCB (rSortedPO K) (tCons ta tNil)) σ w Rep.tupI (sortP l) := fun w1 g Q q =>
  h w1 g _ fun v w2 g2 x => by
    obtain ⟨a, xs, rfl, hs, hp⟩ := x
    have hk : ∀ x ∈ xs, Rep.tupI.r K w2.S x (kOf w2.S x) := fun x hx => by
      obtain ⟨b, hb⟩ := paired_mem hp hx
      rw [kOf_at hb]; exact hb
    refine ⟨a, xs, kOf w2.S, rfl, Evl.ex_l w2.ex hs, fun x hx => ?_, fun ys s srt stb np => ?_⟩
    · obtain ⟨t, e1, e2⟩ := hk x hx
      exact ⟨t, e1, w2.ex _ _ e2⟩
    · have hy : ∀ y ∈ ys, Rep.tupI.r K w2.S y (kOf w2.S y) := fun y hy => hk y (stb.perm.mem_iff.mp hy)
      have e : ys.map (kOf w2.S) = sortP l := by
        refine sortP_uniq ?_ ?_
        · rw [← paired_map_k hp]; exact stb.perm.map _
        · refine List.pairwise_map.mpr (List.Pairwise.imp ?_ srt)
          intro x y hxy
          have := SrtO.lexB_no.mp hxy
          exact leP_iff.mpr (by omega)
      refine q s (w2.new s _ np) (g2.trans (gr_new np)) (fr_back g2 np) ⟨_, own_new np, ?_⟩
      rw [← e]
      exact paired_of_mem hy
/-! ### a, b = a list of two -/
theorem q_unl {i j n : Nat} {x y : α} (h : EvD K te σ w (Rep.list e) [x, y]) (hn : n = 2) (k : ∀ v v' w', Gr w w' → e.r K w'.S v x → e.r K w'.S v' y → tz D ((σ.set i (some v)).set j (some v')) w'.H) : tSeq (tAsg te (gUnl K n (gCons (gName i) (gCons (gName j) gNil)))) tz D σ w.H :=
  h.run fun v w' g hr => by
    obtain ⟨a, xs, rfl, hs, hp⟩ := hr
    cases hp with
    | cons r1 hp => cases hp with
      | cons r2 hp =>
        cases hp
        exact ⟨a, _, rfl, Evl.ex_l w'.ex hs, hn.symm, _, _, rfl, _, _, rfl, rfl, k _ _ w' g r1 r2⟩
/-! ### xs[k] op= e -/
theorem aug_run {i : Nat} {f : Int → Int → Int} {x y : Int} {l : List Int} {Q : L2.St → Hp → Prop} (o : OwnL K w p Rep.int l) (hi : σ[i]? = some (some (.ref p))) (hx : EvD K tb σ w Rep.int x) (he : EvD K te σ w Rep.int y) (hb : 0 ≤ x ∧ x < l.length) (k : ∀ w', Mt p w w' → OwnL K w' p Rep.int (l.set x.toNat (f (l.getD x.toNat 0) y)) → Q σ w'.H) :
    (fun D σ H => tAugS (tVar i) tb te (rIxL K) (ipI f) rSetL D σ H) { nx := Q, rt := fun _ _ => True, bk := fun _ _ => True, ct := fun _ _ => True } σ w.H := by
  refine ⟨_, hi, hx.run fun v w2 g2 r2 => ?_⟩
  cases r2
  obtain ⟨xs, ow, hp⟩ := o.gr g2
  have hxs := paired_ints hp
  refine ⟨p, xs, x, .int (l.getD x.toNat 0), rfl, rfl, SqL.of ow.h, ?_, ?_⟩
  · rw [hxs]
    have := atI_D (l := l.map V.int) (i := x) (d := .int 0) hb.1 (by rw [List.length_map]; exact hb.2)
    rw [this, List.getD_eq_getElem?_getD, List.getElem?_map, List.getD_eq_getElem?_getD]
    cases l[x.toNat]? <;> rfl
  · refine (he.gr g2).run fun v3 w3 g3 r3 => ?_
    cases r3
    refine ⟨_, _, rfl, rfl, ?_⟩
    obtain ⟨ys, oy, hy⟩ := (o.gr g2).gr g3
    refine ⟨p, ys, x, x.toNat, rfl, rfl, oy.h, ?_, ?_⟩
    · have : x = (x.toNat : Int) := by omega
      rw [this, Evl.ixN_nat (by rw [paired_len hy]; omega)]; rfl
    · exact k (w3.set p _ oy.s) (((g2.trans g3).mt o.ne).trans (mt_set oy.s)) ⟨_, own_set oy.s, paired_set (F := Rep.int.r K w3.S) (show _ = _ from rfl) _ hy⟩
theorem s_augO {i : Nat} {f : Int → Int → Int} {x y : Int} {l : List Int} (o : OwnL K w p Rep.int l) (hi : σ[i]? = some (some (.ref p))) (hx : EvD K tb σ w Rep.int x) (he : EvD K te σ w Rep.int y) (hb : 0 ≤ x ∧ x < l.length) (k : ∀ w', Mt p w w' → OwnL K w' p Rep.int (l.set x.toNat (f (l.getD x.toNat 0) y)) → D.nx σ w'.H) :
    tAugS (tVar i) tb te (rIxL K) (ipI f) rSetL D σ w.H := aug_run (Q := D.nx) o hi hx he hb k
theorem q_augO {i : Nat} {f : Int → Int → Int} {x y : Int} {l : List Int} (o : OwnL K w p Rep.int l) (hi : σ[i]? = some (some (.ref p))) (hx : EvD K tb σ w Rep.int x) (he : EvD K te σ w Rep.int y) (hb : 0 ≤ x ∧ x < l.length) (k : ∀ w', Mt p w w' → OwnL K w' p Rep.int (l.set x.toNat (f (l.getD x.toNat 0) y)) → tz D σ w'.H) :
    tSeq (tAugS (tVar i) tb te (rIxL K) (ipI f) rSetL) tz D σ w.H := aug_run (Q := tz D) o hi hx he hb k
/-! ### len(set(xs)) -/
theorem ev_lenSet {l : List Int} (h : EvD K ta σ w (Rep.list Rep.int) l) (hn : l.Nodup) (hz : l.length ≤ 4000) : EvD K (RZ.tLenSetI K ta) σ w Rep.int (l.length : Int) := fun w1 g Q q =>
  h w1 g _ fun v w2 g2 x => by
    obtain ⟨a, rfl, hs⟩ := lints_at x
    exact ⟨a, l, rfl, Evl.ex_l w2.ex hs, hn, hz, q _ w2 g2 rfl⟩
/-- [x for x in .. if t], t changes the object at p -/
theorem lc_jarIf {wi : TI} {j : Nat} {vs : List Nat} {tt : TT} {Q : VK} (I : Nat → Wd → Prop) (h : EvI K wi σ w e l) (hL : l.length ≤ 100000) (hw : ∀ x, wipe ((wipe σ vs).set j (some x)) vs = wipe σ vs)
    (hp : ∀ i w', I i w' → w'.H p ≠ none) (h0 : ∀ w1, Gr w w1 → I 0 w1) (hI : ∀ i w' w'', I i w' → Gr w' w'' → I i w'') (hM : ∀ i d w' w'', p ≠ d → I i w' → Mt d w' w'' → I i w'')
    (hb : ∀ i a v w', l[i]? = some a → Ex w.S w'.S → I i w' → e.r K w'.S v a → ∀ Q : Bool → Hp → Prop, (∀ b w2, Mt p w' w2 → I (i + 1) w2 → Q b w2.H) → tt ((wipe σ vs).set j (some v)) w'.H Q)
    (he : ∀ a v w', e.r K w'.S v a → EvD K te ((wipe σ vs).set j (some v)) w' e a)
    (k : ∀ q l' w', Mt p w w' → I l.length w' → w.H q = none → q ≠ p → OwnL K w' q e l' → l'.Sublist l → Q (.ref q) w'.H) : tLc wi (gName j) tt te vs σ w.H Q := h w (Gr.refl _) _ fun J w2 g2 hJ Dl hD => by
  have hpn : w.H p ≠ none := hp 0 w (h0 w (Gr.refl _))
  have hDp : Dl ≠ p := fun z => hpn (fr_back g2 (z ▸ hD))
  refine ⟨fun i m H => m = l.length - i ∧ i ≤ l.length ∧ ∃ w' : Wd, w'.H = H ∧ Mt p w w' ∧ I i w' ∧ Ex w2.S w'.S ∧ ∃ l', OwnL K w' Dl e l' ∧ l'.Sublist (l.take i),
    ⟨l.length, by simp, Nat.zero_le _, w2.new Dl _ hD, rfl, (g2.trans (gr_new hD)).mt hpn, hI _ _ _ (h0 w (Gr.refl _)) (g2.trans (gr_new hD)), exr _, [], ⟨[], own_new hD, .nil⟩, List.nil_sublist _⟩, ?_⟩
  rintro i m H ⟨rfl, hi, w', rfl, m3, i3, x3, l', o, hsub⟩
  obtain ⟨j1, j2⟩ := hJ w' x3 i
  by_cases hlt : i < l.length
  · have hget : l[i]? = some l[i] := by simp [hlt]
    obtain ⟨hgo, hy⟩ := j1 _ hget
    have htk : l.take (i + 1) = l.take i ++ [l[i]] := by rw [List.take_add_one, hget]; rfl
    refine .inr ⟨hgo, fun H => ∃ w4 : Wd, w4.H = H ∧ Mt p w w4 ∧ I (i + 1) w4 ∧ Ex w2.S w4.S ∧ ∃ l', OwnL K w4 Dl e l' ∧ l'.Sublist (l.take (i + 1)), fun H' hN => ⟨l.length - (i + 1), by omega, rfl, hlt, hN⟩, fun x H' hx => ?_⟩
    obtain ⟨w4, rfl, g4, hr⟩ := hy x H' hx
    have m4 : Mt p w w4 := m3.trans (g4.mt (m3.dom p hpn))
    refine ⟨hw x, hb i _ x w4 hget m4.s (hI _ _ _ i3 g4) hr _ fun b w5 m5 i5 => ?_⟩
    have o5 := (o.gr g4).mt m5 hDp
    have x5 := (x3.trans g4.s).trans m5.s
    cases b with
    | true =>
      refine (he l[i] x w5 (e.m m5.s hr)).run fun v w6 g6 r6 => ?_
      obtain ⟨xs, ow, hpd⟩ := o5.gr g6
      have hle : l'.length ≤ i := Nat.le_trans hsub.length_le (by rw [List.length_take]; omega)
      refine ⟨xs, ow.h, by rw [paired_len hpd]; exact sz5' (by omega), w6.set Dl _ ow.s, rfl, ((m4.trans m5).trans (g6.mt ((m4.trans m5).dom p hpn))).then (mt_set ow.s) (fr_back g2 hD), hM _ Dl _ _ (Ne.symm hDp) (hI _ _ _ i5 g6) (mt_set ow.s), (x5.trans g6.s), l' ++ [l[i]], ⟨_, own_set ow.s, paired_app hpd (.cons r6 .nil)⟩, ?_⟩
      rw [htk]
      exact hsub.append (List.Sublist.refl _)
    | false =>
      refine ⟨w5, rfl, m4.trans m5, i5, x5, l', o5, ?_⟩
      rw [htk]
      exact hsub.trans (List.sublist_append_left _ _)
  · have e0 : i = l.length := by omega
    subst e0
    rw [List.take_length] at hsub
    exact .inl ⟨j2 (Nat.le_refl _), k Dl l' w' m3 i3 (fr_back g2 hD) hDp o hsub⟩
end
section
variable {K : PySem.W.Frag} {σ : L2.St} {w w' : Wd} {ta tb tc te : TE} {α β γ : Type} {r : Rep α} {rb : Rep β} {rc : Rep γ} {a : α} {b : β} {c : γ} {D : Ends} {tz : TS} {p t : Addr}
theorem q_par3 {i j l : Nat} (h : EvD K ta σ w r a) (h2 : EvD K tb σ w rb b) (h3 : EvD K tc σ w rc c) (k : ∀ v v' v'' w', Gr w w' → r.r K w'.S v a → rb.r K w'.S v' b → rc.r K w'.S v'' c → tz D (((σ.set i (some v)).set j (some v')).set l (some v'')) w'.H) :
    tSeq (tPar3 i j l (tCons ta (tCons tb (tCons tc tNil)))) tz D σ w.H :=
  h w (Gr.refl _) _ fun v w2 g2 x => h2 w2 g2 _ fun v' w3 g3 y => h3 w3 (g2.trans g3) _ fun v'' w4 g4 z => ⟨v, v', v'', rfl, k v v' v'' w4 ((g2.trans g3).trans g4) (r.m (g3.trans g4).s x) (rb.m g4.s y) z⟩
theorem q_tup3 {i j l n : Nat} (h : EvD K ta σ w r a) (h2 : EvD K tb σ w rb b) (h3 : EvD K tc σ w rc c) (hn : n = 3) (k : ∀ v v' v'' w', Gr w w' → r.r K w'.S v a → rb.r K w'.S v' b → rc.r K w'.S v'' c → tz D (((σ.set i (some v)).set j (some v')).set l (some v'')) w'.H) :
    tSeq (tAsg (tTup (tCons ta (tCons tb (tCons tc tNil)))) (gTup K n (gCons (gName i) (gCons (gName j) (gCons (gName l) gNil))))) tz D σ w.H :=
  h w (Gr.refl _) _ fun x w2 g2 rx => h2 w2 g2 _ fun y w3 g3 ry => h3 w3 (g2.trans g3) _ fun z w4 g4 rz => ⟨by show 3 ≤ sizeLine; decide, fun p hp => ⟨p, [x, y, z], rfl, SqT.of upd_same, hn.symm, x, [y, z], rfl, y, [z], rfl, z, [], rfl, rfl,
    k x y z (w4.put p _) (((g2.trans g3).trans g4).trans (gr_put hp)) (r.m ((g3.trans g4).trans (gr_put hp)).s rx) (rb.m (g4.trans (gr_put hp)).s ry) (rc.m (gr_put hp).s rz)⟩⟩
theorem q_appT {i : Nat} {u : V} {xs : List V} (hi : σ[i]? = some (some (.ref t))) (ht : SqT K w.S t [u, .ref p]) (o : OwnL K w p Rep.raw xs) (hz : xs.length < 100000) (k : ∀ w', Mt p w w' → tz D σ w'.H) :
    tSeq (tDrop (tBM K "list" rAppend (tOp (rIxT K) (tVar i) (tC (.int 1))) (tCons (tC .non) tNil))) tz D σ w.H := by
  obtain ⟨ys, ow, hp⟩ := id o
  exact ⟨_, hi, t, [u, .ref p], 1, .ref p, rfl, rfl, Evl.ex_t w.ex ht, rfl, .inl ⟨rfl, _, SqL.of ow.h⟩, app_core (Q := fun _ H => tz D σ H) (a := V.non) o rfl hz fun w' m _ => k w' m⟩
theorem eqD_run {H : Hp} {Q : VK} (h : ta σ H fun x H1 => tb σ H1 fun y H2 => rEqD K x y H2 Q) : tOp (rEqD K) ta tb σ H Q := h
theorem call3R {sp : Sp} {E : XK} {t0 t1 t2 : TE} {H : Hp} {Q : VK} (h : t0 σ H fun a H1 => t1 σ H1 fun b H2 => t2 σ H2 fun c H3 => sp [c, b, a] H3 Q E) : tCallR sp E (tCons t0 (tCons t1 (tCons t2 tNil))) σ H Q := h
end
theorem EvD.gr_tup {K : PySem.W.Frag} {σ : L2.St} {w : Wd} {te : TE} {l : List (Int × Int)} (h : EvD K te σ w (Rep.list Rep.tupI) l) : EvD K te σ w (Rep.list (Rep.pair Rep.int Rep.int)) l := fun w1 g Q q => h w1 g Q fun v w2 g2 x => q v w2 g2 (by
  obtain ⟨a, xs, rfl, hs, hp⟩ := x
  exact ⟨a, xs, rfl, hs, paired_mono hp fun _ _ z => tupI_pair z⟩)
theorem q_parVN {K : PySem.W.Frag} {σ : L2.St} {w : Wd} {ta tb : TE} {α β : Type} {e : Rep α} {rb : Rep β} {l : List α} {b : β} {D : Ends} {tz : TS} {i j : Nat} (h : EvD K ta σ w rb b) (h2 : EvN K tb σ w e l) (k : ∀ v p w', Gr w w' → rb.r K w'.S v b → w.H p = none → OwnL K w' p e l → tz D ((σ.set i (some v)).set j (some (.ref p))) w'.H) : tSeq (tPar i j (tCons ta (tCons tb tNil))) tz D σ w.H :=
  h w (Gr.refl _) _ fun v w2 g2 x => h2 w2 g2 _ fun p w3 g3 n y => ⟨v, .ref p, rfl, k v p w3 (g2.trans g3) (rb.m g3.s x) (fr_back g2 n) y⟩
end WK

/-! WM1: the plain law of sums, offsets, classes, ways. -/
namespace WK
open PySem PySem.Spec PyProof.Rows L2
def gI (o : List Int) (i : Int) : Int := o.getD i.toNat 0
theorem atI_gI {l : List Int} {i : Int} (h0 : 0 ≤ i) (h : i < l.length) : atI l i = some (gI l i) := atI_D h0 h
/-! ### offsets -/
def offsK (s : List Int) (L k : Nat) : List Int := (List.range k).foldl (fun f p => f ++ [f.getD p 0 + s.getD (p + 1) 0 - s.getD p 0]) (List.replicate L 0)
def offs (s : List Int) (L : Int) : List Int := offsK s L.toNat (s.length - 1)
section
variable {s x o : List Int} {L most : Int} {k n : Nat}
theorem offsK_succ : offsK s n (k + 1) = offsK s n k ++ [(offsK s n k).getD k 0 + s.getD (k + 1) 0 - s.getD k 0] := by
  unfold offsK; rw [List.range_succ, List.foldl_append]; rfl
theorem offsK_len : (offsK s n k).length = n + k := by
  induction k with
  | zero => simp [offsK]
  | succ k ih => rw [offsK_succ, List.length_append, ih]; simp; omega
theorem offs_len : (offs s L).length = L.toNat + (s.length - 1) := offsK_len
/-! ### sums over 0 .. L - 1 -/
def isum (f : Int → Int) (L : Int) : Int := ((irange 0 L).map f).sum
theorem isum_nat {f : Int → Int} : isum f (n : Int) = ((List.range n).map fun (i : Nat) => f (i : Int)).sum := by
  unfold isum irange
  rw [List.map_map]
  have : ((n : Int) - 0).toNat = n := by omega
  rw [this]
  congr 1
  refine List.map_congr_left fun i _ => ?_
  show f (0 + (i : Int)) = _
  rw [Int.zero_add]
theorem isum_succ {f : Int → Int} : isum f ((n + 1 : Nat) : Int) = isum f (n : Int) + f (n : Int) := by
  rw [isum_nat, isum_nat, List.range_succ, List.map_append, List.sum_append]; simp
theorem isum_zero {f : Int → Int} : isum f ((0 : Nat) : Int) = 0 := by rw [isum_nat]; simp
theorem isum_tel {f : Int → Int} {p : Int} : isum (fun j => f (p + 1 + j)) (n : Int) - isum (fun j => f (p + j)) (n : Int) = f (p + n) - f p := by
  induction n with
  | zero => rw [isum_zero, isum_zero]; simp
  | succ n ih =>
    rw [isum_succ, isum_succ]
    have e : f (p + ((n + 1 : Nat) : Int)) = f (p + 1 + (n : Int)) := by congr 1; omega
    rw [e]
    omega
theorem isum_congr {f g : Int → Int} (h : ∀ i, 0 ≤ i → i < L → f i = g i) : isum f L = isum g L := by
  unfold isum
  congr 1
  refine List.map_congr_left fun i hi => ?_
  have := irange_mem.mp hi
  exact h i this.1 this.2
theorem isum_add {f g : Int → Int} : isum (fun i => f i + g i) (n : Int) = isum f n + isum g n := by
  induction n with
  | zero => rw [isum_zero, isum_zero, isum_zero]; rfl
  | succ n ih => rw [isum_succ, isum_succ, isum_succ, ih]; omega
theorem isum_le {f : Int → Int} {b : Int} (h : ∀ i, 0 ≤ i → i < (n : Int) → f i ≤ b) : isum f n ≤ n * b := by
  induction n with
  | zero => rw [isum_zero]; simp
  | succ n ih =>
    rw [isum_succ]
    have h1 := ih fun i h0 h1 => h i h0 (by omega)
    have h2 := h (n : Int) (by omega) (by omega)
    have : (((n + 1 : Nat) : Int)) * b = n * b + b := by rw [Int.natCast_add, Int.add_mul]; simp
    omega
theorem isum_nonneg {f : Int → Int} (h : ∀ i, 0 ≤ i → i < (n : Int) → 0 ≤ f i) : 0 ≤ isum f n := by
  induction n with
  | zero => rw [isum_zero]; exact Int.le_refl _
  | succ n ih =>
    rw [isum_succ]
    have h1 := ih fun i h0 h1 => h i h0 (by omega)
    have h2 := h (n : Int) (by omega) (by omega)
    omega
/-! ### what is asked of sums; a way -/
structure VS (s : List Int) (L : Int) : Prop where
  ne : 1 ≤ s.length
  lo : 1 ≤ L
  hi : L ≤ 8
  days : s.length + L ≤ 68
structure Way (s x : List Int) (L most : Int) : Prop where
  len : (x.length : Int) = s.length + L - 1
  sm : ∀ i : Nat, i < s.length → s.getD i 0 = isum (fun j => gI x (i + j)) L
  rg : ∀ v ∈ x, 0 ≤ v ∧ v ≤ most
theorem VS.offs (v : VS s L) : ((offs s L).length : Int) = s.length + L - 1 := by
  rw [offs_len]
  have := v.ne; have := v.lo
  omega
theorem Way.at (y : Way s x L most) {i : Int} (h0 : 0 ≤ i) (h : i < x.length) : 0 ≤ gI x i ∧ gI x i ≤ most := by
  unfold gI
  rw [List.getD_eq_getElem?_getD, List.getElem?_eq_getElem (by omega)]
  exact y.rg _ (List.getElem_mem _)
theorem gI_app_l {l m : List Int} {i : Int} (h : i.toNat < l.length) : gI (l ++ m) i = gI l i := by
  unfold gI; rw [List.getD_eq_getElem?_getD, List.getD_eq_getElem?_getD, List.getElem?_append_left h]
theorem offsK_way (y : Way s x L most) (v : VS s L) : ∀ k : Nat, k ≤ s.length - 1 → ∀ i : Int, 0 ≤ i → i < L + k → gI (offsK s L.toNat k) i = gI x i - gI x (i % L)
  | 0, _, i, h0, h => by
    have e : i % L = i := Int.emod_eq_of_lt h0 (by omega)
    rw [e]
    unfold gI offsK
    simp only [List.range_zero, List.foldl_nil]
    rw [List.getD_eq_getElem?_getD, List.getElem?_replicate, if_pos (by have := v.lo; omega)]
    simp
  | k + 1, hk, i, h0, h => by
    have ih := offsK_way y v k (by omega)
    have hl := v.lo
    rw [offsK_succ]
    by_cases hi : i < L + k
    · rw [gI_app_l (by rw [offsK_len]; omega)]
      exact ih i h0 hi
    · have e : i = L + k := by omega
      subst e
      have g1 : gI (offsK s L.toNat k ++ [(offsK s L.toNat k).getD k 0 + s.getD (k + 1) 0 - s.getD k 0]) (L + k) = (offsK s L.toNat k).getD k 0 + s.getD (k + 1) 0 - s.getD k 0 := by
        unfold gI
        rw [List.getD_eq_getElem?_getD, List.getElem?_append_right (by rw [offsK_len]; omega), offsK_len]
        have : (L + (k : Int)).toNat - (L.toNat + k) = 0 := by omega
        rw [this]; rfl
      rw [g1]
      have g2 := ih k (by omega) (by omega)
      have g3 : (offsK s L.toNat k).getD k 0 = gI (offsK s L.toNat k) (k : Int) := by unfold gI; rw [Int.toNat_natCast]
      rw [g3, g2, y.sm (k + 1) (by omega), y.sm k (by omega)]
      have t := isum_tel (f := gI x) (p := (k : Int)) (n := L.toNat)
      rw [show ((L.toNat : Nat) : Int) = L by omega] at t
      have e2 : (L + (k : Int)) % L = (k : Int) % L := Int.add_emod_left ..
      have e3 : ((k + 1 : Nat) : Int) = (k : Int) + 1 := by omega
      rw [e2, e3, Int.add_comm L (k : Int)]
      omega
theorem offs_way (y : Way s x L most) (v : VS s L) {i : Int} (h0 : 0 ≤ i) (h : i < x.length) : gI (offs s L) i = gI x i - gI x (i % L) :=
  offsK_way y v (s.length - 1) (Nat.le_refl _) i h0 (by have := y.len; have := v.ne; omega)
/-! ### classes -/
def cls (o : List Int) (L r : Int) : List Int := stepV o r.toNat L.toNat
def classes (o : List Int) (L : Int) : List (List Int) := (irange 0 L).map (cls o L)
theorem cls_get (hL : 1 ≤ L) {r : Int} (hr : 0 ≤ r) {j : Nat} : (cls o L r)[j]? = o[(r + L * j).toNat]? := by
  unfold cls
  rw [stepV_get (by omega)]
  congr 1
  have : L = (L.toNat : Int) := by omega
  have : r = (r.toNat : Int) := by omega
  rw [show (r + L * (j : Int)).toNat = r.toNat + L.toNat * j by
    rw [‹L = _›, ‹r = _›]
    simp only [Int.toNat_natCast]
    rw [← Int.natCast_mul, ← Int.natCast_add, Int.toNat_natCast]]
theorem cls_ne (hL : 1 ≤ L) {r : Int} (hr : 0 ≤ r) (h : r < o.length) : cls o L r ≠ [] := fun z => by
  have := cls_get (o := o) hL hr (j := 0)
  rw [z] at this
  rw [show (r + L * ((0 : Nat) : Int)).toNat = r.toNat by simp, List.getElem?_eq_getElem (l := o) (i := r.toNat) (by omega)] at this
  cases this
theorem cls_at (hL : 1 ≤ L) {r : Int} (hr : 0 ≤ r) {j : Nat} {a : Int} (h : (cls o L r)[j]? = some a) : r + L * j < o.length ∧ gI o (r + L * j) = a := by
  rw [cls_get hL hr] at h
  have h1 := (List.getElem?_eq_some_iff.mp h).1
  have h2 : 0 ≤ r + L * j := by
    have := Int.mul_nonneg (show 0 ≤ L by omega) (show (0 : Int) ≤ j by omega)
    omega
  refine ⟨by omega, ?_⟩
  unfold gI
  exact getD_at h
theorem cls_mem (hL : 1 ≤ L) {i : Int} (hi : 0 ≤ i) (h : i < o.length) : gI o i ∈ cls o L (i % L) := by
  have h0 := Int.emod_nonneg i (show L ≠ 0 by omega)
  have e : i % L + L * (i / L) = i := Int.emod_add_mul_ediv i L
  have h1 : 0 ≤ i / L := Int.ediv_nonneg hi (by omega)
  have := cls_get (o := o) hL h0 (j := (i / L).toNat)
  rw [Int.toNat_of_nonneg h1, e, getD_some (l := o) (d := 0) (by omega)] at this
  exact List.mem_of_getElem? this
/-- the greatest or the least -/
def exV (hi : Bool) (l : List Int) : Int := if hi = true then maxL l else minL l
theorem exV_mem {hi : Bool} {l : List Int} (h : l ≠ []) : exV hi l ∈ l := by
  unfold exV; split
  · exact (maxL_spec h).1
  · exact (minL_spec h).1
def endDay (o : List Int) (L : Int) (hi : Bool) (r : Int) : Int := r + L * (((cls o L r).idxOf (exV hi (cls o L r)) : Nat) : Int)
def endsU (o : List Int) (L : Int) (hi : Bool) : List Int := (irange 0 L).map (endDay o L hi)
def ends (o : List Int) (L : Int) (hi : Bool) : List Int := sortI (endsU o L hi)
theorem idxOf_get {l : List Int} {a : Int} (h : a ∈ l) : l[l.idxOf a]? = some a := by
  rw [List.getElem?_eq_getElem (List.idxOf_lt_length_of_mem h), List.getElem_idxOf]
theorem idxOf_first {l : List Int} {a y : Int} {m : Nat} (hm : m < l.idxOf a) (hy : l[m]? = some y) : y ≠ a := by
  intro e
  subst e
  have hl := (List.getElem?_eq_some_iff.mp hy)
  obtain ⟨h1, h2⟩ := hl
  have := List.not_of_lt_findIdx (p := (· == y)) (xs := l) (i := m) hm
  rw [h2] at this
  simp at this
theorem end_spec {hi : Bool} {r : Int} (hL : 1 ≤ L) (hr : 0 ≤ r) (hr2 : r < L) (ho : L ≤ o.length) : 0 ≤ endDay o L hi r ∧ endDay o L hi r < o.length ∧ endDay o L hi r % L = r ∧ gI o (endDay o L hi r) = exV hi (cls o L r) := by
  have hne := cls_ne (o := o) hL hr (by omega)
  have hm := exV_mem (hi := hi) hne
  obtain ⟨h1, h2⟩ := cls_at hL hr (idxOf_get hm)
  refine ⟨?_, h1, ?_, h2⟩
  · unfold endDay
    have := Int.mul_nonneg (show 0 ≤ L by omega) (show (0 : Int) ≤ (((cls o L r).idxOf (exV hi (cls o L r)) : Nat) : Int) by omega)
    omega
  · unfold endDay
    rw [Int.add_mul_emod_self_left]
    exact Int.emod_eq_of_lt hr hr2
theorem ends_mem {hi : Bool} {d : Int} (hL : 1 ≤ L) (ho : L ≤ o.length) (h : d ∈ ends o L hi) : 0 ≤ d ∧ d < o.length := by
  have := (sortI_perm _).mem_iff.mp h
  obtain ⟨r, hr, rfl⟩ := List.mem_map.mp this
  have := irange_mem.mp hr
  have := end_spec (o := o) (hi := hi) hL this.1 this.2 ho
  exact ⟨this.1, this.2.1⟩
/-! ### totals -/
def totalIn (s : List Int) (L : Int) (ds : List Int) : Int := gI s 0 + (ds.map fun d => gI (offs s L) d).sum
theorem perm_sum {l m : List Int} (h : l.Perm m) : l.sum = m.sum := by
  induction h with
  | nil => rfl
  | cons a _ ih => rw [List.sum_cons, List.sum_cons, ih]
  | swap a b l => rw [List.sum_cons, List.sum_cons, List.sum_cons, List.sum_cons]; omega
  | trans _ _ h1 h2 => exact h1.trans h2
theorem sum_ends {hi : Bool} : ((ends o L hi).map fun d => gI o d).sum = isum (fun r => gI o (endDay o L hi r)) L := by
  unfold ends
  rw [perm_sum ((sortI_perm (endsU o L hi)).map _)]
  unfold endsU isum
  rw [List.map_map]; rfl
theorem sum_exV {hi : Bool} (hL : 1 ≤ L) (ho : L ≤ o.length) : ((ends o L hi).map fun d => gI o d).sum = ((classes o L).map (exV hi)).sum := by
  rw [sum_ends]
  unfold isum classes
  rw [List.map_map]
  congr 1
  refine List.map_congr_left fun r hr => ?_
  have := irange_mem.mp hr
  exact (end_spec hL this.1 this.2 ho).2.2.2
theorem total_way {hi : Bool} (y : Way s x L most) (v : VS s L) : totalIn s L (ends (offs s L) L hi) = isum (fun r => gI x (endDay (offs s L) L hi r)) L := by
  have hl : ((offs s L).length : Int) = x.length := by rw [v.offs, y.len]
  have h1 := v.lo
  have h2 := v.ne
  unfold totalIn
  rw [sum_ends]
  have e1 : gI s 0 = isum (fun j => gI x j) L := by
    have := y.sm 0 (by omega)
    unfold gI
    rw [show (0 : Int).toNat = 0 from rfl, this]
    exact isum_congr fun i _ _ => by rw [show ((0 : Nat) : Int) + i = i by omega]; rfl
  have e2 : isum (fun r => gI (offs s L) (endDay (offs s L) L hi r)) L = isum (fun r => gI x (endDay (offs s L) L hi r) + - gI x r) L := isum_congr fun r h0 h3 => by
    have := v.offs
    obtain ⟨a, b, c, _⟩ := end_spec (o := offs s L) (hi := hi) h1 h0 h3 (by omega)
    rw [offs_way y v a (by omega), c]; omega
  rw [e1, e2]
  have hn : L = (L.toNat : Int) := by omega
  rw [hn, isum_add]
  have e3 : isum (fun j => gI x j) (L.toNat : Int) + isum (fun j => - gI x j) (L.toNat : Int) = 0 := by
    rw [← isum_add]
    have : isum (fun i => gI x i + - gI x i) (L.toNat : Int) = isum (fun _ => 0) (L.toNat : Int) := isum_congr fun i _ _ => by omega
    rw [this]
    have a := isum_le (f := fun _ => 0) (b := 0) (n := L.toNat) fun _ _ _ => Int.le_refl _
    have b := isum_nonneg (f := fun _ => 0) (n := L.toNat) fun _ _ _ => Int.le_refl _
    omega
  omega
/-! ### conflicts -/
def apart (o : List Int) (L least : Int) : Option (List Int) := (irange 0 o.length).findSome? fun i => (srange (i + L) o.length L).findSome? fun j => if least ≤ ((gI o j - gI o i).natAbs : Int) then some [i, j] else none
def conf (s : List Int) (L most : Int) : Option (Str × List Int) := match apart (offs s L) L (most + 1) with
  | some d => some ("apart", d)
  | none => if totalIn s L (ends (offs s L) L false) < 0 then some ("low", ends (offs s L) L false) else if L * most < totalIn s L (ends (offs s L) L true) then some ("high", ends (offs s L) L true) else none
theorem apart_none {least : Int} (h : ∀ i j : Int, 0 ≤ i → i < j → j < o.length → j % L = i % L → ((gI o j - gI o i).natAbs : Int) < least) (hL : 1 ≤ L) : apart o L least = none := by
  unfold apart
  refine List.findSome?_eq_none_iff.mpr fun i hi => List.findSome?_eq_none_iff.mpr fun j hj => ?_
  have h1 := irange_mem.mp hi
  obtain ⟨m, e, h2⟩ := (srange_mem hL).mp hj
  have h3 := Int.mul_nonneg (show (0 : Int) ≤ m by omega) (show 0 ≤ L by omega)
  have h4 := h i j h1.1 (by omega) h2 (by rw [e, Int.add_mul_emod_self_right, Int.add_emod_right])
  rw [if_neg (by omega)]
theorem way_pair (y : Way s x L most) (v : VS s L) {i j : Int} (h0 : 0 ≤ i) (h1 : i < j) (h2 : j < (offs s L).length) (h3 : j % L = i % L) : ((gI (offs s L) j - gI (offs s L) i).natAbs : Int) ≤ most := by
  have hl := v.offs
  have hy := y.len
  rw [offs_way y v (by omega) (by omega), offs_way y v h0 (by omega), h3]
  have a := y.at (i := i) h0 (by omega)
  have b := y.at (i := j) (by omega) (by omega)
  omega
theorem conf_none (y : Way s x L most) (v : VS s L) : conf s L most = none := by
  have hl := v.offs
  have hy := y.len
  have h1 := v.lo
  have h2 := v.ne
  unfold conf
  rw [apart_none (fun i j a b c d => by have := way_pair y v a b c d; omega) h1]
  have hat : ∀ hi r, 0 ≤ r → r < L → 0 ≤ gI x (endDay (offs s L) L hi r) ∧ gI x (endDay (offs s L) L hi r) ≤ most := fun hi r h3 h4 => by
    obtain ⟨a, b, _⟩ := end_spec (o := offs s L) (hi := hi) h1 h3 h4 (by omega)
    exact y.at a (by omega)
  have hn : L = (L.toNat : Int) := by omega
  have t1 : 0 ≤ totalIn s L (ends (offs s L) L false) := by
    rw [total_way y v, show isum (fun r => gI x (endDay (offs s L) L false r)) L = isum (fun r => gI x (endDay (offs s L) L false r)) (L.toNat : Int) by rw [← hn]]
    exact isum_nonneg fun i a b => (hat _ i a (by omega)).1
  have t2 : totalIn s L (ends (offs s L) L true) ≤ L * most := by
    rw [total_way y v, show isum (fun r => gI x (endDay (offs s L) L true r)) L = isum (fun r => gI x (endDay (offs s L) L true r)) (L.toNat : Int) by rw [← hn]]
    have := isum_le (f := fun r => gI x (endDay (offs s L) L true r)) (b := most) (n := L.toNat) fun i a b => (hat _ i a (by omega)).2
    rw [← hn] at this ⊢
    exact this
  simp only
  rw [if_neg (by omega), if_neg (by omega)]
end
end WK

/-! WM2: the plain law of levels. -/
namespace WK
open PySem PySem.Spec PyProof.Rows L2
def mins (s : List Int) (L : Int) : List Int := (classes (offs s L) L).map minL
def maxs (s : List Int) (L : Int) : List Int := (classes (offs s L) L).map maxL
def spread (s : List Int) (L : Int) : Int := maxL (((mins s L).zip (maxs s L)).map fun p => p.2 - p.1)
def mhigh (s : List Int) (L : Int) : Int := -((-(gI s 0 + (maxs s L).sum)) / L)
def mlow (s : List Int) (L : Int) : Int := (gI s 0 + (mins s L).sum) / L
def peakI (s : List Int) (L : Int) : Int := max (spread s L) (mhigh s L)
def floorI (s : List Int) (L m : Int) : Int := min (m - spread s L) (mlow s L)
def lspread (s : List Int) (L : Int) : Int := max (spread s L) (mhigh s L - mlow s L)
def paper (s : List Int) (L : Int) : Str × List Int := match apart (offs s L) L (peakI s L) with
  | none => ("high", ends (offs s L) L true)
  | some d => ("apart", d)
section
variable {s o : List Int} {L m : Int}
theorem spread_eq : spread s L = maxL ((irange 0 L).map fun r => maxL (cls (offs s L) L r) - minL (cls (offs s L) L r)) := by
  unfold spread mins maxs classes
  rw [List.map_map, List.map_map, List.zip_map', List.map_map]; rfl
theorem vs_cls_ne (v : VS s L) {r : Int} (h0 : 0 ≤ r) (h : r < L) : cls (offs s L) L r ≠ [] := cls_ne v.lo h0 (by have := v.offs; have := v.ne; omega)
theorem vs_rg_ne (v : VS s L) {β : Type} {f : Int → β} : (irange 0 L).map f ≠ [] := fun z => by
  have h := congrArg List.length z
  rw [List.length_map, irange_len, List.length_nil] at h
  have := v.lo
  omega
theorem spread_ge (v : VS s L) {i j : Int} (h0 : 0 ≤ i) (h1 : i < (offs s L).length) (h2 : 0 ≤ j) (h3 : j < (offs s L).length) (h : j % L = i % L) : ((gI (offs s L) j - gI (offs s L) i).natAbs : Int) ≤ spread s L := by
  have hL := v.lo
  rw [spread_eq]
  have m0 := Int.emod_nonneg i (show L ≠ 0 by omega)
  have m1 := Int.emod_lt_of_pos i (show 0 < L by omega)
  have hm := (maxL_spec (vs_rg_ne v (f := fun r => maxL (cls (offs s L) L r) - minL (cls (offs s L) L r)))).2 _ (List.mem_map.mpr ⟨i % L, irange_mem.mpr ⟨m0, m1⟩, rfl⟩)
  have c1 := cls_mem (o := offs s L) hL h0 h1
  have c2 := cls_mem (o := offs s L) hL h2 h3
  rw [h] at c2
  have hne := vs_cls_ne v m0 m1
  have a1 := (maxL_spec hne).2 _ c1
  have a2 := (maxL_spec hne).2 _ c2
  have b1 := (minL_spec hne).2 _ c1
  have b2 := (minL_spec hne).2 _ c2
  omega
theorem spread_at (v : VS s L) : ∃ i j : Int, 0 ≤ i ∧ i < (offs s L).length ∧ 0 ≤ j ∧ j < (offs s L).length ∧ j % L = i % L ∧ ((gI (offs s L) j - gI (offs s L) i).natAbs : Int) = spread s L := by
  have hL := v.lo
  rw [spread_eq]
  have hm := (maxL_spec (vs_rg_ne v (f := fun r => maxL (cls (offs s L) L r) - minL (cls (offs s L) L r)))).1
  obtain ⟨r, hr, e⟩ := List.mem_map.mp hm
  have hr := irange_mem.mp hr
  have hne := vs_cls_ne v hr.1 hr.2
  obtain ⟨k1, e1⟩ := List.getElem?_of_mem (minL_spec hne).1
  obtain ⟨k2, e2⟩ := List.getElem?_of_mem (maxL_spec hne).1
  obtain ⟨a1, a2⟩ := cls_at hL hr.1 e1
  obtain ⟨b1, b2⟩ := cls_at hL hr.1 e2
  have n1 := Int.mul_nonneg (show 0 ≤ L by omega) (show (0 : Int) ≤ k1 by omega)
  have n2 := Int.mul_nonneg (show 0 ≤ L by omega) (show (0 : Int) ≤ k2 by omega)
  refine ⟨r + L * k1, r + L * k2, by omega, a1, by omega, b1, by rw [Int.add_mul_emod_self_left, Int.add_mul_emod_self_left], ?_⟩
  rw [a2, b2, ← e]
  have := (maxL_spec hne).2 _ (minL_spec hne).1
  omega
/-! ### the law's way to the same -/
def wideL (o : List Int) (L : Int) : Int := (irange 0 o.length).foldl (fun w i => (srange (i + L) o.length L).foldl (fun w j => max w ((gI o j - gI o i).natAbs : Int)) w) 0
theorem fold_max {β : Type} (F : β → Int) : ∀ (l : List β) (b : Int), b ≤ l.foldl (fun w j => max w (F j)) b ∧ (∀ j ∈ l, F j ≤ l.foldl (fun w j => max w (F j)) b) ∧ (l.foldl (fun w j => max w (F j)) b = b ∨ ∃ j ∈ l, l.foldl (fun w j => max w (F j)) b = F j)
  | [], b => ⟨Int.le_refl _, by simp, .inl rfl⟩
  | a :: r, b => by
    obtain ⟨h1, h2, h3⟩ := fold_max F r (max b (F a))
    simp only [List.foldl_cons]
    refine ⟨by omega, fun j hj => ?_, ?_⟩
    · rcases List.mem_cons.mp hj with e | hj
      · subst e; omega
      · exact h2 j hj
    · rcases h3 with h3 | ⟨j, hj, h3⟩
      · rcases Int.le_total b (F a) with h | h
        · exact .inr ⟨a, List.mem_cons_self, by rw [h3]; omega⟩
        · exact .inl (by rw [h3]; omega)
      · exact .inr ⟨j, List.mem_cons_of_mem _ hj, h3⟩
theorem fold_max2 {β γ : Type} (G : β → List γ) (F : β → γ → Int) : ∀ (l : List β) (b : Int), b ≤ l.foldl (fun w i => (G i).foldl (fun w j => max w (F i j)) w) b ∧ (∀ i ∈ l, ∀ j ∈ G i, F i j ≤ l.foldl (fun w i => (G i).foldl (fun w j => max w (F i j)) w) b) ∧
    (l.foldl (fun w i => (G i).foldl (fun w j => max w (F i j)) w) b = b ∨ ∃ i ∈ l, ∃ j ∈ G i, l.foldl (fun w i => (G i).foldl (fun w j => max w (F i j)) w) b = F i j)
  | [], b => ⟨Int.le_refl _, by simp, .inl rfl⟩
  | a :: r, b => by
    obtain ⟨g1, g2, g3⟩ := fold_max (F a) (G a) b
    obtain ⟨h1, h2, h3⟩ := fold_max2 G F r ((G a).foldl (fun w j => max w (F a j)) b)
    simp only [List.foldl_cons]
    refine ⟨by omega, fun i hi j hj => ?_, ?_⟩
    · rcases List.mem_cons.mp hi with e | hi
      · subst e; have := g2 j hj; omega
      · exact h2 i hi j hj
    · rcases h3 with h3 | ⟨i, hi, j, hj, h3⟩
      · rcases g3 with g3 | ⟨j, hj, g3⟩
        · exact .inl (h3.trans g3)
        · exact .inr ⟨a, List.mem_cons_self, j, hj, h3.trans g3⟩
      · exact .inr ⟨i, List.mem_cons_of_mem _ hi, j, hj, h3⟩
theorem same_class {i j : Int} (hL : 1 ≤ L) (h : i < j) (e : j % L = i % L) : ∃ k : Nat, j = i + L + (k : Int) * L := by
  have e1 := Int.emod_add_mul_ediv i L
  have e2 := Int.emod_add_mul_ediv j L
  have h1 : L * (i / L) < L * (j / L) := by omega
  have h2 : i / L < j / L := Int.lt_of_mul_lt_mul_left h1 (by omega)
  refine ⟨(j / L - i / L - 1).toNat, ?_⟩
  rw [Int.toNat_of_nonneg (by omega), Int.sub_mul, Int.sub_mul, Int.mul_comm (j / L), Int.mul_comm (i / L)]
  omega
theorem wide_eq (v : VS s L) : wideL (offs s L) L = spread s L := by
  have hL := v.lo
  have hne := v.ne
  have hl := v.offs
  obtain ⟨g1, g2, g3⟩ := fold_max2 (fun i => srange (i + L) (offs s L).length L) (fun i j => ((gI (offs s L) j - gI (offs s L) i).natAbs : Int)) (irange 0 (offs s L).length) 0
  refine Int.le_antisymm ?_ ?_
  · rcases g3 with g3 | ⟨i, hi, j, hj, g3⟩
    · unfold wideL
      rw [g3]
      have := spread_ge v (i := 0) (j := 0) (Int.le_refl _) (by omega) (Int.le_refl _) (by omega) rfl
      omega
    · unfold wideL
      rw [g3]
      have hi := irange_mem.mp hi
      obtain ⟨k, e, hj⟩ := (srange_mem hL).mp hj
      have := Int.mul_nonneg (show (0 : Int) ≤ k by omega) (show 0 ≤ L by omega)
      exact spread_ge v hi.1 hi.2 (by omega) hj (by rw [e, Int.add_mul_emod_self_right, Int.add_emod_right])
  · obtain ⟨i, j, h0, h1, h2, h3, h4, h5⟩ := spread_at v
    rw [← h5]
    unfold wideL
    have case : ∀ i j : Int, 0 ≤ i → i < j → j < (offs s L).length → j % L = i % L → ((gI (offs s L) j - gI (offs s L) i).natAbs : Int) ≤ wideL (offs s L) L := fun i j a b c d => by
      obtain ⟨k, e⟩ := same_class hL b d
      exact g2 i (irange_mem.mpr ⟨a, by omega⟩) j ((srange_mem hL).mpr ⟨k, e, c⟩)
    rcases Int.lt_trichotomy i j with h | h | h
    · exact case i j h0 h h3 h4
    · subst h
      have : ((gI (offs s L) i - gI (offs s L) i).natAbs : Int) = 0 := by omega
      rw [this]; exact g1
    · have := case j i h2 h h1 h4.symm
      have e : ((gI (offs s L) j - gI (offs s L) i).natAbs : Int) = ((gI (offs s L) i - gI (offs s L) j).natAbs : Int) := by omega
      rw [e]; exact this
def lendU (o : List Int) (L sg r : Int) : Int := (srange r o.length L).foldl (fun b one => if sg * gI o b < sg * gI o one then one else b) r
def lends (o : List Int) (L sg : Int) : List Int := sortI ((irange 0 L).map (lendU o L sg))
theorem srange_sorted {lo hi c : Int} (hc : 1 ≤ c) : (srange lo hi c).Pairwise (· < ·) := by
  unfold srange
  refine List.pairwise_map.mpr (List.Pairwise.imp (R := fun a b : Nat => a < b) ?_ List.pairwise_lt_range)
  intro a b h
  have := Int.mul_lt_mul_of_pos_right (show (a : Int) < b by omega) (show 0 < c by omega)
  omega
theorem fold_first (f : Int → Int) : ∀ (l : List Int) (b : Int), l.Pairwise (· < ·) → (∀ y ∈ l, b ≤ y) →
    (l.foldl (fun b one => if f b < f one then one else b) b ∈ b :: l) ∧ ∀ y ∈ b :: l, f y ≤ f (l.foldl (fun b one => if f b < f one then one else b) b) ∧ (y < l.foldl (fun b one => if f b < f one then one else b) b → f y < f (l.foldl (fun b one => if f b < f one then one else b) b))
  | [], b, _, _ => ⟨by simp, fun y hy => by simp at hy; subst hy; simp⟩
  | a :: t, b, hp, hb => by
    have hp2 := List.pairwise_cons.mp hp
    simp only [List.foldl_cons]
    by_cases h : f b < f a
    · rw [if_pos h]
      obtain ⟨h1, h2⟩ := fold_first f t a hp2.2 fun y hy => Int.le_of_lt (hp2.1 y hy)
      refine ⟨List.mem_cons_of_mem _ h1, fun y hy => ?_⟩
      rcases List.mem_cons.mp hy with e | hy
      · subst e
        have := (h2 a List.mem_cons_self).1
        exact ⟨by omega, fun _ => by omega⟩
      · exact h2 y hy
    · rw [if_neg h]
      obtain ⟨h1, h2⟩ := fold_first f t b hp2.2 fun y hy => hb y (List.mem_cons_of_mem _ hy)
      refine ⟨?_, fun y hy => ?_⟩
      · rcases List.mem_cons.mp h1 with e | h1
        · rw [e]; exact List.mem_cons_self
        · exact List.mem_cons_of_mem _ (List.mem_cons_of_mem _ h1)
      · have hbb := h2 b List.mem_cons_self
        rcases List.mem_cons.mp hy with e | hy
        · subst e; exact hbb
        · rcases List.mem_cons.mp hy with e | hy
          · subst e
            have := hb y List.mem_cons_self
            exact ⟨by omega, fun hlt => by have := hbb.2 (by omega); omega⟩
          · exact h2 y (List.mem_cons_of_mem _ hy)
theorem lendU_eq {hi : Bool} {r : Int} (hL : 1 ≤ L) (h0 : 0 ≤ r) (h1 : r < L) (ho : L ≤ o.length) : lendU o L (if hi = true then 1 else -1) r = endDay o L hi r := by
  have hsr := srange_sorted (lo := r) (hi := o.length) (c := L) hL
  have hge : ∀ y ∈ srange r o.length L, r ≤ y := fun y hy => by
    obtain ⟨k, e, _⟩ := (srange_mem hL).mp hy
    have := Int.mul_nonneg (show (0 : Int) ≤ k by omega) (show 0 ≤ L by omega)
    omega
  have hr : r ∈ srange r o.length L := (srange_mem hL).mpr ⟨0, by simp, by omega⟩
  obtain ⟨a1, a2⟩ := fold_first (fun y => (if hi = true then 1 else -1) * gI o y) (srange r o.length L) r hsr hge
  have a1 : lendU o L (if hi = true then 1 else -1) r ∈ r :: srange r o.length L := a1
  have a2 : ∀ y ∈ r :: srange r o.length L, (if hi = true then 1 else -1) * gI o y ≤ (if hi = true then 1 else -1) * gI o (lendU o L (if hi = true then 1 else -1) r) ∧ (y < lendU o L (if hi = true then 1 else -1) r → (if hi = true then 1 else -1) * gI o y < (if hi = true then 1 else -1) * gI o (lendU o L (if hi = true then 1 else -1) r)) := a2
  generalize lendU o L (if hi = true then 1 else -1) r = B at a1 a2
  have hB : B ∈ srange r o.length L := by
    rcases List.mem_cons.mp a1 with e | h
    · rw [e]; exact hr
    · exact h
  have hne := cls_ne (o := o) hL h0 (by omega)
  obtain ⟨d0, d1, d2, d3⟩ := end_spec (o := o) (hi := hi) hL h0 h1 ho
  have hD : endDay o L hi r ∈ srange r o.length L := (srange_mem hL).mpr ⟨(cls o L r).idxOf (exV hi (cls o L r)), by unfold endDay; rw [Int.mul_comm L], d1⟩
  have place : ∀ y ∈ srange r o.length L, ∃ k : Nat, y = r + L * k ∧ (cls o L r)[k]? = some (gI o y) := fun y hy => by
    obtain ⟨k, e, hlt⟩ := (srange_mem hL).mp hy
    refine ⟨k, by rw [e, Int.mul_comm], ?_⟩
    have := Int.mul_nonneg (show (0 : Int) ≤ k by omega) (show 0 ≤ L by omega)
    rw [cls_get hL h0, ← Int.mul_comm (k : Int), ← e]
    exact getD_some (by omega)
  have best : ∀ y ∈ srange r o.length L, (if hi = true then 1 else -1) * gI o y ≤ (if hi = true then 1 else -1) * gI o (endDay o L hi r) := fun y hy => by
    obtain ⟨k, _, hk⟩ := place y hy
    rw [d3]
    unfold exV
    cases hi with
    | true => have := (maxL_spec hne).2 _ (List.mem_of_getElem? hk); simp; omega
    | false => have := (minL_spec hne).2 _ (List.mem_of_getElem? hk); simp; omega
  have first : ∀ y ∈ srange r o.length L, y < endDay o L hi r → gI o y ≠ gI o (endDay o L hi r) := fun y hy hlt => by
    obtain ⟨k, e, hk⟩ := place y hy
    rw [d3]
    refine idxOf_first (m := k) ?_ hk
    have : L * (k : Int) < L * (((cls o L r).idxOf (exV hi (cls o L r)) : Nat) : Int) := by unfold endDay at hlt; omega
    have := Int.lt_of_mul_lt_mul_left this (by omega)
    omega
  rcases Int.lt_trichotomy B (endDay o L hi r) with h | h | h
  · have x1 := first B hB h
    have x2 := best B hB
    have x3 := (a2 _ (List.mem_cons_of_mem _ hD)).1
    exfalso
    refine x1 ?_
    cases hi with
    | true => simp at x2 x3; omega
    | false => simp at x2 x3; omega
  · exact h
  · have x2 := best B hB
    have x3 := (a2 _ (List.mem_cons_of_mem _ hD)).2 h
    omega
theorem lends_eq {hi : Bool} (hL : 1 ≤ L) (ho : L ≤ o.length) : lends o L (if hi = true then 1 else -1) = ends o L hi := by
  unfold lends ends endsU
  congr 1
  refine List.map_congr_left fun r hr => ?_
  have := irange_mem.mp hr
  exact lendU_eq hL this.1 this.2 ho
theorem ceil_eq {a : Int} (h1 : 1 ≤ L) (h8 : L ≤ 8) : (a + L - 1) / L = -((-a) / L) := by
  have : L = 1 ∨ L = 2 ∨ L = 3 ∨ L = 4 ∨ L = 5 ∨ L = 6 ∨ L = 7 ∨ L = 8 := by omega
  rcases this with rfl | rfl | rfl | rfl | rfl | rfl | rfl | rfl <;> omega
theorem high_eq (v : VS s L) : (gI s 0 + ((lends (offs s L) L 1).map fun d => gI (offs s L) d).sum + L - 1) / L = mhigh s L := by
  have hl := v.offs
  have := v.ne
  have e : lends (offs s L) L 1 = ends (offs s L) L true := lends_eq (hi := true) v.lo (by omega)
  rw [e, sum_exV v.lo (by omega), ceil_eq v.lo v.hi]; rfl
theorem low_eq (v : VS s L) : (gI s 0 + ((lends (offs s L) L (-1)).map fun d => gI (offs s L) d).sum) / L = mlow s L := by
  have hl := v.offs
  have := v.ne
  have e : lends (offs s L) L (-1) = ends (offs s L) L false := lends_eq (hi := false) v.lo (by omega)
  rw [e, sum_exV v.lo (by omega)]; rfl
def lpair (o : List Int) (L pk : Int) : Option (List Int) := (irange 0 o.length).findSome? fun i => (srange (i + L) o.length L).findSome? fun j => if ((gI o j - gI o i).natAbs : Int) = pk then some [i, j] else none
theorem findSome_congr {β γ : Type} {f g : β → Option γ} : ∀ {l : List β}, (∀ a ∈ l, f a = g a) → l.findSome? f = l.findSome? g
  | [], _ => rfl
  | a :: r, h => by
    rw [List.findSome?_cons, List.findSome?_cons, h a List.mem_cons_self, findSome_congr fun b hb => h b (List.mem_cons_of_mem _ hb)]
theorem lpair_eq (v : VS s L) {pk : Int} (hp : spread s L ≤ pk) : lpair (offs s L) L pk = apart (offs s L) L pk := by
  have hL := v.lo
  unfold lpair apart
  refine findSome_congr fun i hi => findSome_congr fun j hj => ?_
  have hi := irange_mem.mp hi
  obtain ⟨k, e, hj⟩ := (srange_mem hL).mp hj
  have := Int.mul_nonneg (show (0 : Int) ≤ k by omega) (show 0 ≤ L by omega)
  have := spread_ge v hi.1 hi.2 (show 0 ≤ j by omega) hj (by rw [e, Int.add_mul_emod_self_right, Int.add_emod_right])
  by_cases h : ((gI (offs s L) j - gI (offs s L) i).natAbs : Int) = pk
  · rw [if_pos h, if_pos (by omega)]
  · rw [if_neg h, if_neg (by omega)]
end
theorem findSome_take {α β : Type} {f : α → Option β} {l : List α} {i : Nat} {a : α} (h : l[i]? = some a) : (l.take (i + 1)).findSome? f = ((l.take i).findSome? f).or (f a) := by
  rw [List.take_add_one, h, List.findSome?_append]; simp
theorem fold_take {α β : Type} {f : β → α → β} {l : List α} {i : Nat} {a : α} {b : β} (h : l[i]? = some a) : (l.take (i + 1)).foldl f b = f ((l.take i).foldl f b) a := by
  rw [List.take_add_one, h, List.foldl_append]; rfl
end WK

/-! WM3: the plain law of greedy totals. -/
namespace WK
open PySem PySem.Spec PyProof.Rows L2
def lowsM (s : List Int) (L : Int) : List Int := (classes (offs s L) L).map fun c => 0 - minL c
def highsM (s : List Int) (L m : Int) : List Int := (classes (offs s L) L).map fun c => m - maxL c
def dot (ws f : List Int) : Int := ((ws.zip f).map fun p => p.1 * p.2).sum
def prs (ws : List Int) : List (Int × Int) := (enumI ws).map fun p => (p.2, p.1)
def neg (ws : List Int) : List Int := ws.map fun w => 0 - w
section
variable (lo hi : List Int)
def capM (p : Int) : Int := gI hi p - gI lo p
def gstep (st x : Int × Int) : Int × Int := (st.1 + x.1 * min st.2 (capM lo hi x.2), st.2 - min st.2 (capM lo hi x.2))
def fstep (st : List Int × Int) (p : Int) : List Int × Int := (st.1.set p.toNat (gI st.1 p + min st.2 (capM lo hi p)), st.2 - min st.2 (capM lo hi p))
def weighedM (ws : List Int) (tot : Int) : Int := ((sortP (prs ws)).foldl (gstep lo hi) (dot ws lo, tot - lo.sum)).1
def filledM (tot : Int) (ord : List Int) : List Int := (ord.foldl (fstep lo hi) (lo, tot - lo.sum)).1
end
def ordM (ws : List Int) : List Int := (sortP (prs ws)).map fun p => p.2
section
variable {lo hi ws f : List Int} {tot : Int}
theorem gstep_swap (h : ∀ p, 0 ≤ capM lo hi p) {st : Int × Int} {w p q : Int} : gstep lo hi (gstep lo hi st (w, p)) (w, q) = gstep lo hi (gstep lo hi st (w, q)) (w, p) := by
  obtain ⟨a, l⟩ := st
  have hp := h p
  have hq := h q
  unfold gstep
  simp only
  have e : min l (capM lo hi p) + min (l - min l (capM lo hi p)) (capM lo hi q) = min l (capM lo hi q) + min (l - min l (capM lo hi q)) (capM lo hi p) := by omega
  refine Prod.ext ?_ ?_
  · show a + w * _ + w * _ = a + w * _ + w * _
    rw [Int.add_assoc, Int.add_assoc, ← Int.mul_add, ← Int.mul_add, e]
  · show l - _ - _ = l - _ - _
    omega
theorem gfold_move (h : ∀ p, 0 ≤ capM lo hi p) {a : Int × Int} : ∀ (P : List (Int × Int)) (st : Int × Int), (∀ x ∈ P, x.1 = a.1) → gstep lo hi (P.foldl (gstep lo hi) st) a = P.foldl (gstep lo hi) (gstep lo hi st a)
  | [], _, _ => rfl
  | x :: P, st, hx => by
    simp only [List.foldl_cons]
    rw [gfold_move h P _ fun y hy => hx y (List.mem_cons_of_mem _ hy)]
    have e := hx x List.mem_cons_self
    obtain ⟨x1, x2⟩ := x
    obtain ⟨a1, a2⟩ := a
    cases e
    rw [gstep_swap h]
theorem gfold_perm (h : ∀ p, 0 ≤ capM lo hi p) : ∀ (A B : List (Int × Int)) (st : Int × Int), A.Perm B → A.Pairwise (fun x y => x.1 ≤ y.1) → B.Pairwise (fun x y => x.1 ≤ y.1) → A.foldl (gstep lo hi) st = B.foldl (gstep lo hi) st
  | [], B, st, hp, _, _ => by rw [List.nil_perm.mp hp]
  | a :: A, B, st, hp, ha, hb => by
    have hm : a ∈ B := hp.mem_iff.mp List.mem_cons_self
    obtain ⟨P, Q, rfl⟩ := List.append_of_mem hm
    have hp2 : A.Perm (P ++ Q) := (List.perm_cons a).mp (hp.trans List.perm_middle)
    have ha2 := List.pairwise_cons.mp ha
    have hb2 := List.pairwise_append.mp hb
    have hb3 := List.pairwise_cons.mp hb2.2.1
    have hP : ∀ x ∈ P, x.1 = a.1 := fun x hx => by
      have h1 := hb2.2.2 x hx a List.mem_cons_self
      have h2 := ha2.1 x (hp2.mem_iff.mpr (List.mem_append.mpr (.inl hx)))
      omega
    rw [List.foldl_append, List.foldl_cons, List.foldl_cons, gfold_move h P st hP, ← List.foldl_append]
    refine gfold_perm h A (P ++ Q) _ hp2 ha2.2 ?_
    exact List.pairwise_append.mpr ⟨hb2.1, hb3.2, fun x hx y hy => hb2.2.2 x hx y (List.mem_cons_of_mem _ hy)⟩
theorem gfold_neg : ∀ (l : List (Int × Int)) (a c : Int), (l.map fun x => (0 - x.1, x.2)).foldl (gstep lo hi) (0 - a, c) = (0 - (l.foldl (gstep lo hi) (a, c)).1, (l.foldl (gstep lo hi) (a, c)).2)
  | [], a, c => rfl
  | x :: l, a, c => by
    simp only [List.map_cons, List.foldl_cons]
    have e : gstep lo hi (0 - a, c) (0 - x.1, x.2) = (0 - (a + x.1 * min c (capM lo hi x.2)), c - min c (capM lo hi x.2)) := by
      unfold gstep
      refine Prod.ext ?_ rfl
      show 0 - a + (0 - x.1) * min c (capM lo hi x.2) = 0 - (a + x.1 * min c (capM lo hi x.2))
      rw [Int.sub_mul, Int.zero_mul]
      omega
    rw [e, gfold_neg l]
    rfl
theorem dot_neg : ∀ (ws f : List Int), dot (neg ws) f = 0 - dot ws f
  | [], f => by simp [dot, neg]
  | w :: ws, [] => by simp [dot, neg]
  | w :: ws, a :: f => by
    have ih := dot_neg ws f
    unfold dot neg at ih ⊢
    simp only [List.map_cons, List.zip_cons_cons, List.sum_cons]
    rw [ih, Int.sub_mul, Int.zero_mul]
    omega
theorem dot_set : ∀ (ws f : List Int) (i : Nat) (d : Int), i < ws.length → f.length = ws.length → dot ws (f.set i (f.getD i 0 + d)) = dot ws f + ws.getD i 0 * d
  | [], _, _, _, h, _ => by simp at h
  | w :: ws, [], _, _, _, e => by simp at e
  | w :: ws, a :: f, 0, d, _, _ => by
    unfold dot
    simp only [List.set_cons_zero, List.getD_cons_zero, List.zip_cons_cons, List.map_cons, List.sum_cons]
    rw [Int.mul_add]
    omega
  | w :: ws, a :: f, i + 1, d, h, e => by
    have ih := dot_set ws f i d (by simpa using h) (by simpa using e)
    unfold dot at ih ⊢
    simp only [List.set_cons_succ, List.getD_cons_succ, List.zip_cons_cons, List.map_cons, List.sum_cons]
    rw [ih]
    omega
theorem fill_dot : ∀ (l : List (Int × Int)) (f : List Int) (c : Int), (∀ x ∈ l, 0 ≤ x.2 ∧ x.2 < ws.length ∧ x.1 = gI ws x.2) → f.length = ws.length →
    dot ws ((l.map fun p => p.2).foldl (fstep lo hi) (f, c)).1 = (l.foldl (gstep lo hi) (dot ws f, c)).1
  | [], _, _, _, _ => rfl
  | x :: l, f, c, h, hf => by
    simp only [List.map_cons, List.foldl_cons]
    obtain ⟨h0, h1, h2⟩ := h x List.mem_cons_self
    have e : gstep lo hi (dot ws f, c) x = (dot ws (f.set x.2.toNat (gI f x.2 + min c (capM lo hi x.2))), c - min c (capM lo hi x.2)) := by
      unfold gstep
      refine Prod.ext ?_ rfl
      show dot ws f + x.1 * _ = _
      have := dot_set ws f x.2.toNat (min c (capM lo hi x.2)) (by omega) hf
      unfold gI
      rw [this, h2]; rfl
    rw [e]
    exact fill_dot l _ _ (fun y hy => h y (List.mem_cons_of_mem _ hy)) (by rw [List.length_set]; exact hf)
theorem prs_mem {x : Int × Int} (h : x ∈ prs ws) : 0 ≤ x.2 ∧ x.2 < ws.length ∧ x.1 = gI ws x.2 := by
  unfold prs at h
  obtain ⟨y, hy, rfl⟩ := List.mem_map.mp h
  obtain ⟨i, hi⟩ := List.mem_iff_getElem?.mp hy
  rw [enumI_get] at hi
  cases hw : ws[i]? with
  | none => rw [hw] at hi; cases hi
  | some a =>
    rw [hw] at hi
    cases hi
    have := (List.getElem?_eq_some_iff.mp hw).1
    refine ⟨by show (0 : Int) ≤ (i : Int); omega, by show (i : Int) < _; omega, ?_⟩
    unfold gI
    show a = ws.getD (i : Int).toNat 0
    rw [Int.toNat_natCast]
    exact (getD_at hw).symm
theorem prs_neg : prs (neg ws) = (prs ws).map fun x => (0 - x.1, x.2) := by
  unfold prs neg enumI
  rw [List.zipIdx_map, List.map_map, List.map_map, List.map_map, List.map_map]
  rfl
theorem sortP_fst (l : List (Int × Int)) : (sortP l).Pairwise (fun x y => x.1 ≤ y.1) := (sortP_sorted l).imp fun h => by have := leP_iff.mp h; omega
theorem best_lo (hl : lo.length = ws.length) : dot ws (filledM lo hi tot (ordM ws)) = weighedM lo hi ws tot := by
  unfold filledM ordM weighedM
  exact fill_dot _ _ _ (fun x hx => prs_mem ((sortP_perm _).mem_iff.mp hx)) hl
theorem best_hi (h : ∀ p, 0 ≤ capM lo hi p) (hl : lo.length = ws.length) : dot ws (filledM lo hi tot (ordM ws).reverse) = 0 - weighedM lo hi (neg ws) tot := by
  unfold filledM ordM
  rw [← List.map_reverse, fill_dot _ _ _ (fun x hx => prs_mem ((sortP_perm _).mem_iff.mp (List.mem_reverse.mp hx))) hl]
  have hn := gfold_neg (lo := lo) (hi := hi) (sortP (prs ws)).reverse (dot ws lo) (tot - lo.sum)
  have hp := gfold_perm h ((sortP (prs ws)).reverse.map fun x => (0 - x.1, x.2)) (sortP (prs (neg ws))) (0 - dot ws lo, tot - lo.sum)
    (((List.reverse_perm _).map _).trans (((sortP_perm _).map _).trans (by rw [← prs_neg]; exact (sortP_perm _).symm)))
    (List.pairwise_map.mpr (List.pairwise_reverse.mpr ((sortP_fst _).imp fun h => by show 0 - _ ≤ 0 - _; omega))) (sortP_fst _)
  unfold weighedM
  rw [dot_neg, ← hp, hn]
  show _ = 0 - (0 - _)
  omega
/-! ### how great -/
theorem gfold_bd {W B : Nat} (h : ∀ p, 0 ≤ capM lo hi p) : ∀ (l : List (Int × Int)) (st : Int × Int), (∀ x ∈ l, x.1.natAbs ≤ W) → 0 ≤ st.2 → st.2 ≤ B →
    0 ≤ (l.foldl (gstep lo hi) st).2 ∧ (l.foldl (gstep lo hi) st).2 ≤ B ∧ (l.foldl (gstep lo hi) st).1.natAbs ≤ st.1.natAbs + l.length * (W * B)
  | [], st, _, h0, h1 => ⟨h0, h1, by simp⟩
  | x :: l, st, hx, h0, h1 => by
    simp only [List.foldl_cons, List.length_cons]
    have hc := h x.2
    have hm : (min st.2 (capM lo hi x.2)).natAbs ≤ B := by omega
    have hw := Nat.mul_le_mul (hx x List.mem_cons_self) hm
    rw [← Int.natAbs_mul] at hw
    obtain ⟨a, b, c⟩ := gfold_bd h l (gstep lo hi st x) (fun y hy => hx y (List.mem_cons_of_mem _ hy)) (by show 0 ≤ st.2 - min st.2 (capM lo hi x.2); omega) (by show st.2 - min st.2 (capM lo hi x.2) ≤ (B : Int); omega)
    refine ⟨a, b, Nat.le_trans c ?_⟩
    have : (gstep lo hi st x).1.natAbs ≤ st.1.natAbs + W * B := by
      show (st.1 + x.1 * _).natAbs ≤ _
      omega
    rw [Nat.add_mul]
    omega
theorem dot_bd {A B : Nat} : ∀ (ws f : List Int), (∀ x ∈ ws, x.natAbs ≤ A) → (∀ x ∈ f, x.natAbs ≤ B) → (dot ws f).natAbs ≤ ws.length * (A * B)
  | [], f, _, _ => by simp [dot]
  | w :: ws, [], _, _ => by simp [dot]
  | w :: ws, a :: f, h, hf => by
    have ih := dot_bd ws f (fun x hx => h x (List.mem_cons_of_mem _ hx)) fun x hx => hf x (List.mem_cons_of_mem _ hx)
    have := Nat.mul_le_mul (h w List.mem_cons_self) (hf a List.mem_cons_self)
    rw [← Int.natAbs_mul] at this
    unfold dot at ih ⊢
    simp only [List.zip_cons_cons, List.map_cons, List.sum_cons, List.length_cons]
    rw [Nat.add_mul]
    omega
theorem sum_bd {B : Nat} : ∀ (l : List Int), (∀ x ∈ l, x.natAbs ≤ B) → l.sum.natAbs ≤ l.length * B
  | [], _ => by simp
  | a :: l, h => by
    have ih := sum_bd l fun x hx => h x (List.mem_cons_of_mem _ hx)
    have := h a List.mem_cons_self
    rw [List.sum_cons, List.length_cons, Nat.add_mul]
    omega
end
/-! ### ranges -/
def wts (L : Int) (ds : List Int) : List Int := ds.foldl (fun ws d => ws.set (d % L).toNat (gI ws (d % L) + 1)) (List.replicate L.toNat 0)
def wdiff (L a b : Int) : List Int := ((List.replicate L.toNat (0 : Int)).set (a % L).toNat (gI (List.replicate L.toNat (0 : Int)) (a % L) - 1)).set (b % L).toNat (gI ((List.replicate L.toNat (0 : Int)).set (a % L).toNat (gI (List.replicate L.toNat (0 : Int)) (a % L) - 1)) (b % L) + 1)
def rangeM (s : List Int) (L m : Int) (ws : List Int) (more : Int) : Int × Int :=
  (weighedM (lowsM s L) (highsM s L m) ws (gI s 0) + more, 0 - weighedM (lowsM s L) (highsM s L m) (neg ws) (gI s 0) + more)
def drange (s : List Int) (L m : Int) (ds : List Int) : Int × Int := rangeM s L m (wts L ds) (ds.map (gI (offs s L))).sum
def diffM (s : List Int) (L m a b : Int) : Int × Int := rangeM s L m (wdiff L a b) (gI (offs s L) b - gI (offs s L) a)
section
variable {s o x : List Int} {L m : Int}
/-! the law's way -/
def dstep (o : List Int) (L sg : Int) (st : List Int × Int) (d : Int) : List Int × Int := (st.1.set (d % L).toNat (gI st.1 (d % L) + sg), st.2 + sg * gI o d)
def dueW (o : List Int) (L : Int) (plus minus : List Int) : List Int × Int := minus.foldl (dstep o L (-1)) (plus.foldl (dstep o L 1) (List.replicate L.toNat 0, 0))
def bestM (s : List Int) (L m : Int) (ws : List Int) : List Int := [dot ws (filledM (lowsM s L) (highsM s L m) (gI s 0) (ordM ws)), dot ws (filledM (lowsM s L) (highsM s L m) (gI s 0) (ordM ws).reverse)]
def dueM (s : List Int) (L m : Int) (plus minus : List Int) : Int × Int := (gI (bestM s L m (dueW (offs s L) L plus minus).1) 0 + (dueW (offs s L) L plus minus).2, gI (bestM s L m (dueW (offs s L) L plus minus).1) 1 + (dueW (offs s L) L plus minus).2)
theorem dstep_days : ∀ (ds : List Int) (ws : List Int) (c : Int), ds.foldl (dstep o L 1) (ws, c) = (ds.foldl (fun ws d => ws.set (d % L).toNat (gI ws (d % L) + 1)) ws, c + (ds.map (gI o)).sum)
  | [], ws, c => by simp
  | d :: ds, ws, c => by
    simp only [List.foldl_cons, List.map_cons, List.sum_cons]
    have e : dstep o L 1 (ws, c) d = (ws.set (d % L).toNat (gI ws (d % L) + 1), c + gI o d) := by
      unfold dstep
      rw [Int.one_mul]
    rw [e, dstep_days ds, Int.add_assoc]
theorem due_days {ds : List Int} : dueW o L ds [] = (wts L ds, (ds.map (gI o)).sum) := by
  unfold dueW
  rw [List.foldl_nil, dstep_days, Int.zero_add]; rfl
theorem gI_set {l : List Int} {i j : Int} {a : Int} (hi : 0 ≤ i) (hj : 0 ≤ j) (h : i < l.length) : gI (l.set i.toNat a) j = if j = i then a else gI l j := by
  unfold gI
  rw [List.getD_eq_getElem?_getD, List.getD_eq_getElem?_getD, List.getElem?_set]
  by_cases e : j = i
  · subst e
    rw [if_pos rfl, if_pos rfl, if_pos (by omega)]; rfl
  · rw [if_neg e, if_neg (by omega)]
theorem due_diff {a b : Int} (hL : 1 ≤ L) : dueW o L [b] [a] = (wdiff L a b, gI o b - gI o a) := by
  have a0 := Int.emod_nonneg a (show L ≠ 0 by omega)
  have a1 := Int.emod_lt_of_pos a (show 0 < L by omega)
  have b0 := Int.emod_nonneg b (show L ≠ 0 by omega)
  have b1 := Int.emod_lt_of_pos b (show 0 < L by omega)
  unfold dueW wdiff dstep
  simp only [List.foldl_cons, List.foldl_nil]
  refine Prod.ext ?_ ?_
  · simp only
    rw [gI_set b0 a0 (by simp; omega), gI_set a0 b0 (by simp; omega)]
    by_cases e : a % L = b % L
    · rw [e, if_pos rfl, if_pos rfl, List.set_set, List.set_set]
      congr 1
      omega
    · rw [if_neg e, if_neg (fun z => e z.symm), List.set_comm _ _ (by omega)]
      rfl
  · simp only
    omega
theorem lowsM_len : (lowsM s L).length = L.toNat := by unfold lowsM classes; rw [List.length_map, List.length_map, irange_len]; omega
theorem highsM_len : (highsM s L m).length = L.toNat := by unfold highsM classes; rw [List.length_map, List.length_map, irange_len]; omega
theorem gI_out {l : List Int} {i : Int} (h : l.length ≤ i.toNat) : gI l i = 0 := by
  unfold gI
  rw [List.getD_eq_getElem?_getD, List.getElem?_eq_none h]; rfl
theorem lowsM_at {r : Int} (h0 : 0 ≤ r) (h : r < L) : gI (lowsM s L) r = 0 - minL (cls (offs s L) L r) := by
  unfold gI lowsM classes
  refine getD_at ?_
  rw [List.map_map, List.getElem?_map, irange_get (by omega)]
  show some (0 - minL (cls (offs s L) L (0 + (r.toNat : Int)))) = _
  rw [show 0 + (r.toNat : Int) = r by omega]
theorem highsM_at {r : Int} (h0 : 0 ≤ r) (h : r < L) : gI (highsM s L m) r = m - maxL (cls (offs s L) L r) := by
  unfold gI highsM classes
  refine getD_at ?_
  rw [List.map_map, List.getElem?_map, irange_get (by omega)]
  show some (m - maxL (cls (offs s L) L (0 + (r.toNat : Int)))) = _
  rw [show 0 + (r.toNat : Int) = r by omega]
theorem cap_nonneg (y : Way s x L m) (v : VS s L) (p : Int) : 0 ≤ capM (lowsM s L) (highsM s L m) p := by
  have hl := v.offs; have hy := y.len; have h1 := v.lo; have h2 := v.ne
  have key : ∀ r, 0 ≤ r → r < L → 0 ≤ gI (highsM s L m) r - gI (lowsM s L) r := fun r h0 h => by
    rw [lowsM_at h0 h, highsM_at h0 h]
    have hne := vs_cls_ne v h0 h
    obtain ⟨k1, e1⟩ := List.getElem?_of_mem (minL_spec hne).1
    obtain ⟨k2, e2⟩ := List.getElem?_of_mem (maxL_spec hne).1
    obtain ⟨a1, a2⟩ := cls_at h1 h0 e1
    obtain ⟨b1, b2⟩ := cls_at h1 h0 e2
    have n1 := Int.mul_nonneg (show 0 ≤ L by omega) (show (0 : Int) ≤ k1 by omega)
    have n2 := Int.mul_nonneg (show 0 ≤ L by omega) (show (0 : Int) ≤ k2 by omega)
    rw [← a2, ← b2, offs_way y v (by omega) (by omega), offs_way y v (by omega) (by omega), Int.add_mul_emod_self_left, Int.add_mul_emod_self_left]
    have xa := y.at (i := r + L * k1) (by omega) (by omega)
    have xb := y.at (i := r + L * k2) (by omega) (by omega)
    omega
  unfold capM
  by_cases h : p.toNat < L.toNat
  · by_cases h0 : 0 ≤ p
    · exact key p h0 (by omega)
    · have := key 0 (Int.le_refl _) (by omega)
      have e : ∀ l : List Int, gI l p = gI l 0 := fun l => by unfold gI; rw [show p.toNat = (0 : Int).toNat by omega]
      rw [e, e]; exact this
  · rw [gI_out (by rw [highsM_len]; omega), gI_out (by rw [lowsM_len]; omega)]; exact Int.le_refl _
theorem due_eq (y : Way s x L m) (v : VS s L) {plus minus : List Int} (hw : (dueW (offs s L) L plus minus).1.length = L.toNat) : dueM s L m plus minus = rangeM s L m (dueW (offs s L) L plus minus).1 (dueW (offs s L) L plus minus).2 := by
  unfold dueM rangeM bestM
  rw [best_lo (by rw [lowsM_len, hw]), best_hi (cap_nonneg y v) (by rw [lowsM_len, hw])]
  rfl
theorem fold_len {sg : Int} : ∀ (ds : List Int) (st : List Int × Int), (ds.foldl (dstep o L sg) st).1.length = st.1.length
  | [], _ => rfl
  | d :: ds, st => by
    rw [List.foldl_cons, fold_len ds]
    unfold dstep; rw [List.length_set]
theorem dueW_len {plus minus : List Int} : (dueW o L plus minus).1.length = L.toNat := by
  unfold dueW
  rw [fold_len, fold_len, List.length_replicate]
theorem fold_wbd {sg : Int} (hs : sg.natAbs ≤ 1) : ∀ (ds : List Int) (st : List Int × Int) (A : Nat), (∀ w ∈ st.1, w.natAbs ≤ A) → ∀ w ∈ (ds.foldl (dstep o L sg) st).1, w.natAbs ≤ A + ds.length
  | [], _, _, h => h
  | d :: ds, st, A, h => by
    rw [List.foldl_cons, List.length_cons]
    have := fold_wbd hs ds (dstep o L sg st d) (A + 1) fun w hw => by
      unfold dstep at hw
      rcases List.mem_or_eq_of_mem_set hw with z | z
      · have := h w z; omega
      · have := getD_bd h (d % L).toNat
        rw [z]
        have : (gI st.1 (d % L)).natAbs ≤ A := this
        omega
    intro w hw
    have := this w hw
    omega
theorem dueW_bd {plus minus : List Int} : ∀ w ∈ (dueW o L plus minus).1, w.natAbs ≤ plus.length + minus.length := fun w hw => by
  have h1 := fold_wbd (o := o) (L := L) (sg := 1) (by decide) plus (List.replicate L.toNat 0, 0) 0 fun w hw => by rw [List.eq_of_mem_replicate hw]; decide
  have h2 := fold_wbd (o := o) (L := L) (sg := -1) (by decide) minus (plus.foldl (dstep o L 1) (List.replicate L.toNat 0, 0)) plus.length fun w hw => by have := h1 w hw; omega
  exact h2 w hw
end
end WK

/-! WM4: how great the ranges are. -/
namespace WK
open PySem PySem.Spec PyProof.Rows L2
/-- what the greedy total asks of its arguments -/
structure GOK (ws lo hi : List Int) (tot : Int) : Prop where
  l1 : lo.length = ws.length
  l2 : hi.length = ws.length
  l3 : ws.length ≤ 8
  w : ∀ x ∈ ws, x.natAbs ≤ 200
  b : ∀ x ∈ lo, x.natAbs ≤ 10 ^ 30
  c : ∀ p, 0 ≤ capM lo hi p
  t0 : 0 ≤ tot - lo.sum
  t1 : tot - lo.sum ≤ 8 * 10 ^ 30
section
variable {ws lo hi s x o : List Int} {tot L m : Int}
theorem GOK.neg (g : GOK ws lo hi tot) : GOK (WK.neg ws) lo hi tot where
  l1 := by unfold WK.neg; rw [List.length_map]; exact g.l1
  l2 := by unfold WK.neg; rw [List.length_map]; exact g.l2
  l3 := by unfold WK.neg; rw [List.length_map]; exact g.l3
  w := fun x hx => by
    obtain ⟨y, hy, rfl⟩ := List.mem_map.mp hx
    have := g.w y hy
    omega
  b := g.b
  c := g.c
  t0 := g.t0
  t1 := g.t1
theorem prs_len : (prs ws).length = ws.length := by unfold prs; rw [List.length_map, enumI_len]
theorem GOK.fold (g : GOK ws lo hi tot) (k : Nat) : 0 ≤ (((sortP (prs ws)).take k).foldl (gstep lo hi) (dot ws lo, tot - lo.sum)).2 ∧ (((sortP (prs ws)).take k).foldl (gstep lo hi) (dot ws lo, tot - lo.sum)).2 ≤ 8 * 10 ^ 30 ∧
    (((sortP (prs ws)).take k).foldl (gstep lo hi) (dot ws lo, tot - lo.sum)).1.natAbs ≤ 10 ^ 36 := by
  have hd := dot_bd (A := 200) (B := 10 ^ 30) ws lo g.w g.b
  have := gfold_bd (W := 200) (B := 8 * 10 ^ 30) g.c ((sortP (prs ws)).take k) (dot ws lo, tot - lo.sum) (fun y hy => by
    have h := (sortP_perm _).mem_iff.mp (List.mem_of_mem_take hy)
    obtain ⟨h0, h1, h2⟩ := prs_mem h
    rw [h2]
    exact getD_bd g.w _) g.t0 g.t1
  refine ⟨this.1, this.2.1, Nat.le_trans this.2.2 ?_⟩
  have hl : ((sortP (prs ws)).take k).length ≤ 8 := by
    rw [List.length_take, (sortP_perm _).length_eq, prs_len]
    have := g.l3
    omega
  have h1 := Nat.mul_le_mul_right (200 * (8 * 10 ^ 30)) hl
  have h2 := Nat.mul_le_mul_right (200 * 10 ^ 30) g.l3
  have h3 : (dot ws lo, tot - lo.sum).1.natAbs = (dot ws lo).natAbs := rfl
  omega
theorem GOK.bd (g : GOK ws lo hi tot) : (weighedM lo hi ws tot).natAbs ≤ 10 ^ 36 := by
  have := (g.fold (sortP (prs ws)).length).2.2
  rw [List.take_length] at this
  exact this
theorem sum_neg : ∀ l : List (List Int), (l.map fun c => 0 - minL c).sum = 0 - (l.map minL).sum
  | [] => rfl
  | c :: l => by simp only [List.map_cons, List.sum_cons]; rw [sum_neg l]; omega
theorem left_rg (y : Way s x L m) (v : VS s L) : 0 ≤ gI s 0 - (lowsM s L).sum ∧ gI s 0 - (lowsM s L).sum ≤ L * m := by
  have hl := v.offs; have hy := y.len; have h1 := v.lo; have h2 := v.ne
  have e := total_way (hi := false) y v
  unfold totalIn at e
  rw [sum_exV h1 (by omega)] at e
  have e2 : gI s 0 - (lowsM s L).sum = isum (fun r => gI x (endDay (offs s L) L false r)) L := by
    unfold lowsM
    rw [sum_neg, ← e]
    show _ = gI s 0 + ((classes (offs s L) L).map minL).sum
    omega
  have hat : ∀ r, 0 ≤ r → r < L → 0 ≤ gI x (endDay (offs s L) L false r) ∧ gI x (endDay (offs s L) L false r) ≤ m := fun r h3 h4 => by
    obtain ⟨a, b, _⟩ := end_spec (o := offs s L) (hi := false) h1 h3 h4 (by omega)
    exact y.at a (by omega)
  have hn : L = (L.toNat : Int) := by omega
  rw [e2, show isum (fun r => gI x (endDay (offs s L) L false r)) L = isum (fun r => gI x (endDay (offs s L) L false r)) (L.toNat : Int) by rw [← hn]]
  have a := isum_le (f := fun r => gI x (endDay (offs s L) L false r)) (b := m) (n := L.toNat) fun i a b => (hat i a (by omega)).2
  have b := isum_nonneg (f := fun r => gI x (endDay (offs s L) L false r)) (n := L.toNat) fun i a b => (hat i a (by omega)).1
  refine ⟨b, ?_⟩
  rw [show L * m = (L.toNat : Int) * m by rw [← hn]]
  exact a
theorem offs_bd (y : Way s x L m) (v : VS s L) {i : Int} (h0 : 0 ≤ i) (h : i < (offs s L).length) : (gI (offs s L) i).natAbs ≤ m.natAbs := by
  have hl := v.offs; have hy := y.len; have h1 := v.lo; have h2 := v.ne
  rw [offs_way y v h0 (by omega)]
  have m0 := Int.emod_nonneg i (show L ≠ 0 by omega)
  have m1 := Int.emod_lt_of_pos i (show 0 < L by omega)
  have a := y.at (i := i) h0 (by omega)
  have b := y.at (i := i % L) m0 (by omega)
  omega
theorem cls_bd (y : Way s x L m) (v : VS s L) {r : Int} (h0 : 0 ≤ r) {a : Int} (h : a ∈ cls (offs s L) L r) : a.natAbs ≤ m.natAbs := by
  obtain ⟨k, e⟩ := List.getElem?_of_mem h
  obtain ⟨a1, a2⟩ := cls_at v.lo h0 e
  have := Int.mul_nonneg (show 0 ≤ L by have := v.lo; omega) (show (0 : Int) ≤ k by omega)
  rw [← a2]
  exact offs_bd y v (by omega) a1
theorem gok (y : Way s x L m) (v : VS s L) (hm : m ≤ 10 ^ 30) (hw : ws.length = L.toNat) (hb : ∀ w ∈ ws, w.natAbs ≤ 200) : GOK ws (lowsM s L) (highsM s L m) (gI s 0) where
  l1 := by rw [lowsM_len, hw]
  l2 := by rw [highsM_len, hw]
  l3 := by have := v.hi; omega
  w := hb
  b := fun z hz => by
    unfold lowsM classes at hz
    rw [List.map_map] at hz
    obtain ⟨r, hr, rfl⟩ := List.mem_map.mp hz
    have hr := irange_mem.mp hr
    have := cls_bd y v hr.1 (minL_spec (vs_cls_ne v hr.1 hr.2)).1
    have hm0 := y.at (i := 0) (Int.le_refl _) (by have := y.len; have := v.ne; have := v.lo; omega)
    show (0 - minL (cls (offs s L) L r)).natAbs ≤ 10 ^ 30
    omega
  c := cap_nonneg y v
  t0 := (left_rg y v).1
  t1 := by
    have := (left_rg y v).2
    have hm0 := y.at (i := 0) (Int.le_refl _) (by have := y.len; have := v.ne; have := v.lo; omega)
    have h8 := Int.mul_le_mul_of_nonneg_right v.hi (show 0 ≤ m by omega)
    omega
theorem range_bd (y : Way s x L m) (v : VS s L) (hm : m ≤ 10 ^ 30) (hw : ws.length = L.toNat) (hb : ∀ w ∈ ws, w.natAbs ≤ 200) {more : Int} (hr : more.natAbs ≤ 10 ^ 36) : (rangeM s L m ws more).1.natAbs < 10 ^ 40 ∧ (rangeM s L m ws more).2.natAbs < 10 ^ 40 := by
  have g := gok y v hm hw hb
  have a := g.bd
  have b := g.neg.bd
  refine ⟨?_, ?_⟩
  · show (weighedM _ _ _ _ + more).natAbs < _
    omega
  · show (0 - weighedM _ _ _ _ + more).natAbs < _
    omega
theorem wts_len {ds : List Int} : (wts L ds).length = L.toNat := by
  have := dueW_len (o := ([] : List Int)) (L := L) (plus := ds) (minus := [])
  rw [due_days] at this
  exact this
theorem wts_bd {ds : List Int} : ∀ w ∈ wts L ds, w.natAbs ≤ ds.length := by
  have := dueW_bd (o := ([] : List Int)) (L := L) (plus := ds) (minus := [])
  rw [due_days] at this
  exact this
theorem wdiff_len {a b : Int} : (wdiff L a b).length = L.toNat := by unfold wdiff; simp
theorem wdiff_bd {a b : Int} (hL : 1 ≤ L) : ∀ w ∈ wdiff L a b, w.natAbs ≤ 2 := by
  have := dueW_bd (o := ([] : List Int)) (L := L) (plus := [b]) (minus := [a])
  rw [due_diff hL] at this
  exact this
theorem days_bd (y : Way s x L m) (v : VS s L) (hm : m ≤ 10 ^ 30) {ds : List Int} (hn : ds.length ≤ 1000) (hd : ∀ d ∈ ds, 0 ≤ d ∧ d < (offs s L).length) : ((ds.map (gI (offs s L))).sum).natAbs ≤ 10 ^ 36 := by
  have hm0 := y.at (i := 0) (Int.le_refl _) (by have := y.len; have := v.ne; have := v.lo; omega)
  have := sum_bd (B := 10 ^ 30) (ds.map (gI (offs s L))) fun z hz => by
    obtain ⟨d, h, rfl⟩ := List.mem_map.mp hz
    have := offs_bd y v (hd d h).1 (hd d h).2
    omega
  rw [List.length_map] at this
  have := Nat.mul_le_mul_right (10 ^ 30) hn
  omega
theorem drange_bd (y : Way s x L m) (v : VS s L) (hm : m ≤ 10 ^ 30) {ds : List Int} (hn : ds.length ≤ 200) (hd : ∀ d ∈ ds, 0 ≤ d ∧ d < (offs s L).length) : (drange s L m ds).1.natAbs < 10 ^ 40 ∧ (drange s L m ds).2.natAbs < 10 ^ 40 :=
  range_bd y v hm wts_len (fun w hw => Nat.le_trans (wts_bd w hw) hn) (days_bd y v hm (by omega) hd)
theorem diff_bd (y : Way s x L m) (v : VS s L) (hm : m ≤ 10 ^ 30) {a b : Int} (ha : 0 ≤ a ∧ a < (offs s L).length) (hb : 0 ≤ b ∧ b < (offs s L).length) : (diffM s L m a b).1.natAbs < 10 ^ 40 ∧ (diffM s L m a b).2.natAbs < 10 ^ 40 :=
  range_bd y v hm wdiff_len (fun w hw => Nat.le_trans (wdiff_bd v.lo w hw) (by decide)) (by
    have hm0 := y.at (i := 0) (Int.le_refl _) (by have := y.len; have := v.ne; have := v.lo; omega)
    have := offs_bd y v ha.1 ha.2
    have := offs_bd y v hb.1 hb.2
    omega)
/-- a list's slice summed -/
theorem slice_sum {x : List Int} {i n : Nat} (h : i + n ≤ x.length) : ((x.drop i).take n).sum = isum (fun j => gI x ((i : Int) + j)) (n : Int) := by
  induction n with
  | zero => rw [isum_zero]; simp
  | succ n ih =>
    rw [isum_succ, ← ih (by omega), List.take_add_one, List.sum_append]
    congr 1
    rw [List.getElem?_drop, List.getElem?_eq_getElem (by omega)]
    unfold gI
    rw [show ((i : Int) + (n : Int)).toNat = i + n by omega, List.getD_eq_getElem?_getD, List.getElem?_eq_getElem (by omega)]
    simp
end
end WK

namespace WK
open PySem PySem.Spec PyProof.Rows L2
def topS (i : Nat) : Stmt := PySem.Challenge.pw_weeksums_k10_ranges_of_great_numbers.main.body.getD i (.Pass ⟨0, 0, 0, 0⟩)
abbrev s_Impossible___init__ : Stmt := inClass (topS 8) 0
abbrev s_is_integer : Stmt := topS 12
abbrev s_are_integers : Stmt := topS 13
abbrev s_is_sums : Stmt := topS 14
abbrev s_need_length : Stmt := topS 15
abbrev s_need_sums : Stmt := topS 16
abbrev s_need_day : Stmt := topS 17
abbrev s_day_count : Stmt := topS 18
abbrev s_offsets_in : Stmt := topS 19
abbrev s_sums_of : Stmt := topS 20
abbrev s_total_in : Stmt := topS 21
abbrev s_need_most : Stmt := topS 24
abbrev s_need_all : Stmt := topS 25
abbrev s_classes_in : Stmt := topS 26
abbrev s_bounds_in : Stmt := topS 27
abbrev s_apart_days : Stmt := topS 28
abbrev s_end_days : Stmt := topS 29
abbrev s_conflict_in : Stmt := topS 30
abbrev s_need_way : Stmt := topS 31
abbrev s_weighed : Stmt := topS 33
abbrev s_weighed_range : Stmt := topS 34
abbrev s_range_of_days : Stmt := topS 35
abbrev s_range_in : Stmt := topS 36
abbrev s_next_in : Stmt := topS 37
abbrev s_day_range : Stmt := topS 38
abbrev s_all_in : Stmt := topS 39
abbrev s_all_ranges : Stmt := topS 40
abbrev s_certain_days : Stmt := topS 41
abbrev s_row_range : Stmt := topS 42
abbrev s_need_days : Stmt := topS 43
abbrev s_total_range : Stmt := topS 44
abbrev s_difference_range : Stmt := topS 45
abbrev s_next_range : Stmt := topS 46
abbrev s__law_jar : Stmt := topS 48
abbrev s__law_dip : Stmt := topS 49
abbrev s__law_sums : Stmt := topS 50
abbrev s__law_days : Stmt := topS 51
abbrev s__law_top : Stmt := topS 52
abbrev s__law_high : Stmt := topS 53
abbrev s__law_size : Stmt := topS 54
abbrev s__law_gaps : Stmt := topS 55
abbrev s__law_box : Stmt := topS 56
abbrev s__law_fits : Stmt := topS 57
abbrev s__law_filled : Stmt := topS 58
abbrev s__law_best : Stmt := topS 59
abbrev s__law_due : Stmt := topS 60
abbrev s__law_right : Stmt := topS 61
abbrev s_law : Stmt := topS 62
abbrev FnP (K : PySem.W.Frag) (x qual : Str) (st : Stmt) (f : Addr) (fd : FuncData) : Prop := FunD K x qual (defArgs st) (defBody st) (defScope st) [] [] f fd
theorem sc_Impossible___init__ : FnScope ["self", "word", "days"] ["self", "word", "days"] (defScope s_Impossible___init__) := ⟨rfl, rfl, rfl, by decide +kernel, rfl, by decide +kernel, by decide +kernel⟩
theorem sc_is_integer : FnScope ["thing"] ["thing"] (defScope s_is_integer) := ⟨rfl, rfl, rfl, by decide +kernel, rfl, by decide +kernel, by decide +kernel⟩
theorem sc_are_integers : FnScope ["thing", "number"] ["thing"] (defScope s_are_integers) := ⟨rfl, rfl, rfl, by decide +kernel, rfl, by decide +kernel, by decide +kernel⟩
theorem sc_is_sums : FnScope ["thing"] ["thing"] (defScope s_is_sums) := ⟨rfl, rfl, rfl, by decide +kernel, rfl, by decide +kernel, by decide +kernel⟩
theorem sc_need_length : FnScope ["length"] ["length"] (defScope s_need_length) := ⟨rfl, rfl, rfl, by decide +kernel, rfl, by decide +kernel, by decide +kernel⟩
theorem sc_need_sums : FnScope ["sums", "length"] ["sums", "length"] (defScope s_need_sums) := ⟨rfl, rfl, rfl, by decide +kernel, rfl, by decide +kernel, by decide +kernel⟩
theorem sc_need_day : FnScope ["day", "count"] ["day", "count"] (defScope s_need_day) := ⟨rfl, rfl, rfl, by decide +kernel, rfl, by decide +kernel, by decide +kernel⟩
theorem sc_day_count : FnScope ["sums", "length"] ["sums", "length"] (defScope s_day_count) := ⟨rfl, rfl, rfl, by decide +kernel, rfl, by decide +kernel, by decide +kernel⟩
theorem sc_offsets_in : FnScope ["sums", "length", "found", "place"] ["sums", "length"] (defScope s_offsets_in) := ⟨rfl, rfl, rfl, by decide +kernel, rfl, by decide +kernel, by decide +kernel⟩
theorem sc_sums_of : FnScope ["numbers", "length", "place"] ["numbers", "length"] (defScope s_sums_of) := ⟨rfl, rfl, rfl, by decide +kernel, rfl, by decide +kernel, by decide +kernel⟩
theorem sc_total_in : FnScope ["sums", "length", "days", "offsets", "day"] ["sums", "length", "days"] (defScope s_total_in) := ⟨rfl, rfl, rfl, by decide +kernel, rfl, by decide +kernel, by decide +kernel⟩
theorem sc_need_most : FnScope ["most"] ["most"] (defScope s_need_most) := ⟨rfl, rfl, rfl, by decide +kernel, rfl, by decide +kernel, by decide +kernel⟩
theorem sc_need_all : FnScope ["sums", "length", "most"] ["sums", "length", "most"] (defScope s_need_all) := ⟨rfl, rfl, rfl, by decide +kernel, rfl, by decide +kernel, by decide +kernel⟩
theorem sc_classes_in : FnScope ["values", "length", "rest"] ["values", "length"] (defScope s_classes_in) := ⟨rfl, rfl, rfl, by decide +kernel, rfl, by decide +kernel, by decide +kernel⟩
theorem sc_bounds_in : FnScope ["sums", "length", "most", "classes", "offsets"] ["sums", "length", "most"] (defScope s_bounds_in) := ⟨rfl, rfl, rfl, by decide +kernel, rfl, by decide +kernel, by decide +kernel⟩
theorem sc_apart_days : FnScope ["offsets", "length", "least", "first", "second"] ["offsets", "length", "least"] (defScope s_apart_days) := ⟨rfl, rfl, rfl, by decide +kernel, rfl, by decide +kernel, by decide +kernel⟩
theorem sc_end_days : FnScope ["offsets", "length", "is_high", "found", "rest", "values"] ["offsets", "length", "is_high"] (defScope s_end_days) := ⟨rfl, rfl, rfl, by decide +kernel, rfl, by decide +kernel, by decide +kernel⟩
theorem sc_conflict_in : FnScope ["sums", "length", "most", "offsets", "days"] ["sums", "length", "most"] (defScope s_conflict_in) := ⟨rfl, rfl, rfl, by decide +kernel, rfl, by decide +kernel, by decide +kernel⟩
theorem sc_need_way : FnScope ["sums", "length", "most", "found", "word", "days"] ["sums", "length", "most"] (defScope s_need_way) := ⟨rfl, rfl, rfl, by decide +kernel, rfl, by decide +kernel, by decide +kernel⟩
theorem sc_weighed : FnScope ["weights", "lows", "highs", "total", "left", "found", "weight", "place", "more", "low"] ["weights", "lows", "highs", "total"] (defScope s_weighed) := ⟨rfl, rfl, rfl, by decide +kernel, rfl, by decide +kernel, by decide +kernel⟩
theorem sc_weighed_range : FnScope ["sums", "length", "most", "weights", "more", "lows", "highs", "least", "greatest", "weight"] ["sums", "length", "most", "weights", "more"] (defScope s_weighed_range) := ⟨rfl, rfl, rfl, by decide +kernel, rfl, by decide +kernel, by decide +kernel⟩
theorem sc_range_of_days : FnScope ["sums", "length", "most", "days", "offsets", "weights", "day"] ["sums", "length", "most", "days"] (defScope s_range_of_days) := ⟨rfl, rfl, rfl, by decide +kernel, rfl, by decide +kernel, by decide +kernel⟩
theorem sc_range_in : FnScope ["sums", "length", "most", "day"] ["sums", "length", "most", "day"] (defScope s_range_in) := ⟨rfl, rfl, rfl, by decide +kernel, rfl, by decide +kernel, by decide +kernel⟩
theorem sc_next_in : FnScope ["sums", "length", "most", "least", "greatest"] ["sums", "length", "most"] (defScope s_next_in) := ⟨rfl, rfl, rfl, by decide +kernel, rfl, by decide +kernel, by decide +kernel⟩
theorem sc_day_range : FnScope ["sums", "length", "most", "day"] ["sums", "length", "most", "day"] (defScope s_day_range) := ⟨rfl, rfl, rfl, by decide +kernel, rfl, by decide +kernel, by decide +kernel⟩
theorem sc_all_in : FnScope ["sums", "length", "most", "day"] ["sums", "length", "most"] (defScope s_all_in) := ⟨rfl, rfl, rfl, by decide +kernel, rfl, by decide +kernel, by decide +kernel⟩
theorem sc_all_ranges : FnScope ["sums", "length", "most"] ["sums", "length", "most"] (defScope s_all_ranges) := ⟨rfl, rfl, rfl, by decide +kernel, rfl, by decide +kernel, by decide +kernel⟩
theorem sc_certain_days : FnScope ["sums", "length", "most", "found", "day", "ends", "least", "greatest"] ["sums", "length", "most"] (defScope s_certain_days) := ⟨rfl, rfl, rfl, by decide +kernel, rfl, by decide +kernel, by decide +kernel⟩
theorem sc_row_range : FnScope ["sums", "length", "most", "first", "beyond"] ["sums", "length", "most", "first", "beyond"] (defScope s_row_range) := ⟨rfl, rfl, rfl, by decide +kernel, rfl, by decide +kernel, by decide +kernel⟩
theorem sc_need_days : FnScope ["thing", "count", "day"] ["thing", "count"] (defScope s_need_days) := ⟨rfl, rfl, rfl, by decide +kernel, rfl, by decide +kernel, by decide +kernel⟩
theorem sc_total_range : FnScope ["sums", "length", "most", "days"] ["sums", "length", "most", "days"] (defScope s_total_range) := ⟨rfl, rfl, rfl, by decide +kernel, rfl, by decide +kernel, by decide +kernel⟩
theorem sc_difference_range : FnScope ["sums", "length", "most", "first", "second", "offsets", "weights"] ["sums", "length", "most", "first", "second"] (defScope s_difference_range) := ⟨rfl, rfl, rfl, by decide +kernel, rfl, by decide +kernel, by decide +kernel⟩
theorem sc_next_range : FnScope ["sums", "length", "most"] ["sums", "length", "most"] (defScope s_next_range) := ⟨rfl, rfl, rfl, by decide +kernel, rfl, by decide +kernel, by decide +kernel⟩
theorem sc__law_jar : FnScope ["script", "k", "cell_here"] ["script", "k"] (defScope s__law_jar) := ⟨rfl, rfl, rfl, by decide +kernel, rfl, by decide +kernel, by decide +kernel⟩
theorem sc__law_dip : FnScope ["jar", "many", "digit", "mixed"] ["jar", "many"] (defScope s__law_dip) := ⟨rfl, rfl, rfl, by decide +kernel, rfl, by decide +kernel, by decide +kernel⟩
theorem sc__law_sums : FnScope ["numbers_here", "size", "found", "place_here", "total", "spot"] ["numbers_here", "size"] (defScope s__law_sums) := ⟨rfl, rfl, rfl, by decide +kernel, rfl, by decide +kernel, by decide +kernel⟩
theorem sc__law_days : FnScope ["jar", "many", "top", "way_here", "found", "turn", "one"] ["jar", "many", "top"] (defScope s__law_days) := ⟨rfl, rfl, rfl, by decide +kernel, rfl, by decide +kernel, by decide +kernel⟩
theorem sc__law_top : FnScope ["jar", "way_here"] ["jar"] (defScope s__law_top) := ⟨rfl, rfl, rfl, by decide +kernel, rfl, by decide +kernel, by decide +kernel⟩
theorem sc__law_high : FnScope ["jar", "parts", "top"] ["jar", "parts"] (defScope s__law_high) := ⟨rfl, rfl, rfl, by decide +kernel, rfl, by decide +kernel, by decide +kernel⟩
theorem sc__law_size : FnScope ["jar", "most_days", "size"] ["jar", "most_days"] (defScope s__law_size) := ⟨rfl, rfl, rfl, by decide +kernel, rfl, by decide +kernel, by decide +kernel⟩
theorem sc__law_gaps : FnScope ["sums_here", "size", "found", "place_here", "step"] ["sums_here", "size"] (defScope s__law_gaps) := ⟨rfl, rfl, rfl, by decide +kernel, rfl, by decide +kernel, by decide +kernel⟩
theorem sc__law_box : FnScope ["sums_here", "size", "top", "gaps", "lows", "highs", "rest", "some", "day_here"] ["sums_here", "size", "top"] (defScope s__law_box) := ⟨rfl, rfl, rfl, by decide +kernel, rfl, by decide +kernel, by decide +kernel⟩
theorem sc__law_fits : FnScope ["lows", "highs", "total", "wrong", "spot", "low"] ["lows", "highs", "total"] (defScope s__law_fits) := ⟨rfl, rfl, rfl, by decide +kernel, rfl, by decide +kernel, by decide +kernel⟩
theorem sc__law_filled : FnScope ["lows", "highs", "total", "order_here", "found", "left", "spot", "more"] ["lows", "highs", "total", "order_here"] (defScope s__law_filled) := ⟨rfl, rfl, rfl, by decide +kernel, rfl, by decide +kernel, by decide +kernel⟩
theorem sc__law_best : FnScope ["sums_here", "size", "top", "weights", "lows", "highs", "pairs_here", "order_here", "found", "some", "firsts", "spot", "weight", "one"] ["sums_here", "size", "top", "weights"] (defScope s__law_best) := ⟨rfl, rfl, rfl, by decide +kernel, rfl, by decide +kernel, by decide +kernel⟩
theorem sc__law_due : FnScope ["sums_here", "size", "top", "plus", "minus", "gaps", "weights", "more", "some", "sign", "one", "least", "greatest"] ["sums_here", "size", "top", "plus", "minus"] (defScope s__law_due) := ⟨rfl, rfl, rfl, by decide +kernel, rfl, by decide +kernel, by decide +kernel⟩
theorem sc__law_right : FnScope ["jar", "sums_here", "size", "top", "many", "due", "sure", "least", "greatest", "ahead", "turn", "one", "two", "told", "first_day", "last_day", "some", "picked", "spot", "ends"] ["jar", "sums_here", "size", "top"] (defScope s__law_right) := ⟨rfl, rfl, rfl, by decide +kernel, rfl, by decide +kernel, by decide +kernel⟩
theorem sc_law : FnScope ["script", "k", "jar", "turn", "size", "many", "top", "some", "spot"] ["script"] (defScope s_law) := ⟨rfl, rfl, rfl, by decide +kernel, rfl, by decide +kernel, by decide +kernel⟩
structure Tx (K : PySem.W.Frag) (mg : Str → Option Value) where
  n_range : mg "range" = none
  n_enumerate : mg "enumerate" = none
  n_sorted : mg "sorted" = none
  n_sum : mg "sum" = none
  n_isinstance : mg "isinstance" = none
  n_int : mg "int" = none
  n_list : mg "list" = none
  n_all : mg "all" = none
  n_len : mg "len" = none
  n_min : mg "min" = none
  n_abs : mg "abs" = none
  n_max : mg "max" = none
  n_repr : mg "repr" = none
  n_bool : mg "bool" = none
  n_set : mg "set" = none
  n_zip : mg "zip" = none
  c_MOST_DAYS : ∃ t, mg "MOST_DAYS" = some (.int 67 t)
  c_MOST_LENGTH : ∃ t, mg "MOST_LENGTH" = some (.int 8 t)
  c_MOST_MOST : ∃ t, mg "MOST_MOST" = some (.int 999999999999999999999999999999 t)
  d_is_integer : FuncData
  F_is_integer : FnP K "is_integer" "is_integer" s_is_integer (He.ga K "is_integer") d_is_integer
  g_is_integer : mg "is_integer" = some (.ref (He.ga K "is_integer"))
  d_are_integers : FuncData
  F_are_integers : FnP K "are_integers" "are_integers" s_are_integers (He.ga K "are_integers") d_are_integers
  g_are_integers : mg "are_integers" = some (.ref (He.ga K "are_integers"))
  d_is_sums : FuncData
  F_is_sums : FnP K "is_sums" "is_sums" s_is_sums (He.ga K "is_sums") d_is_sums
  g_is_sums : mg "is_sums" = some (.ref (He.ga K "is_sums"))
  d_need_length : FuncData
  F_need_length : FnP K "need_length" "need_length" s_need_length (He.ga K "need_length") d_need_length
  g_need_length : mg "need_length" = some (.ref (He.ga K "need_length"))
  d_need_sums : FuncData
  F_need_sums : FnP K "need_sums" "need_sums" s_need_sums (He.ga K "need_sums") d_need_sums
  g_need_sums : mg "need_sums" = some (.ref (He.ga K "need_sums"))
  d_need_day : FuncData
  F_need_day : FnP K "need_day" "need_day" s_need_day (He.ga K "need_day") d_need_day
  g_need_day : mg "need_day" = some (.ref (He.ga K "need_day"))
  d_day_count : FuncData
  F_day_count : FnP K "day_count" "day_count" s_day_count (He.ga K "day_count") d_day_count
  g_day_count : mg "day_count" = some (.ref (He.ga K "day_count"))
  d_offsets_in : FuncData
  F_offsets_in : FnP K "offsets_in" "offsets_in" s_offsets_in (He.ga K "offsets_in") d_offsets_in
  g_offsets_in : mg "offsets_in" = some (.ref (He.ga K "offsets_in"))
  d_sums_of : FuncData
  F_sums_of : FnP K "sums_of" "sums_of" s_sums_of (He.ga K "sums_of") d_sums_of
  g_sums_of : mg "sums_of" = some (.ref (He.ga K "sums_of"))
  d_total_in : FuncData
  F_total_in : FnP K "total_in" "total_in" s_total_in (He.ga K "total_in") d_total_in
  g_total_in : mg "total_in" = some (.ref (He.ga K "total_in"))
  d_need_most : FuncData
  F_need_most : FnP K "need_most" "need_most" s_need_most (He.ga K "need_most") d_need_most
  g_need_most : mg "need_most" = some (.ref (He.ga K "need_most"))
  d_need_all : FuncData
  F_need_all : FnP K "need_all" "need_all" s_need_all (He.ga K "need_all") d_need_all
  g_need_all : mg "need_all" = some (.ref (He.ga K "need_all"))
  d_classes_in : FuncData
  F_classes_in : FnP K "classes_in" "classes_in" s_classes_in (He.ga K "classes_in") d_classes_in
  g_classes_in : mg "classes_in" = some (.ref (He.ga K "classes_in"))
  d_bounds_in : FuncData
  F_bounds_in : FnP K "bounds_in" "bounds_in" s_bounds_in (He.ga K "bounds_in") d_bounds_in
  g_bounds_in : mg "bounds_in" = some (.ref (He.ga K "bounds_in"))
  d_apart_days : FuncData
  F_apart_days : FnP K "apart_days" "apart_days" s_apart_days (He.ga K "apart_days") d_apart_days
  g_apart_days : mg "apart_days" = some (.ref (He.ga K "apart_days"))
  d_end_days : FuncData
  F_end_days : FnP K "end_days" "end_days" s_end_days (He.ga K "end_days") d_end_days
  g_end_days : mg "end_days" = some (.ref (He.ga K "end_days"))
  d_conflict_in : FuncData
  F_conflict_in : FnP K "conflict_in" "conflict_in" s_conflict_in (He.ga K "conflict_in") d_conflict_in
  g_conflict_in : mg "conflict_in" = some (.ref (He.ga K "conflict_in"))
  d_need_way : FuncData
  F_need_way : FnP K "need_way" "need_way" s_need_way (He.ga K "need_way") d_need_way
  g_need_way : mg "need_way" = some (.ref (He.ga K "need_way"))
  d_weighed : FuncData
  F_weighed : FnP K "weighed" "weighed" s_weighed (He.ga K "weighed") d_weighed
  g_weighed : mg "weighed" = some (.ref (He.ga K "weighed"))
  d_weighed_range : FuncData
  F_weighed_range : FnP K "weighed_range" "weighed_range" s_weighed_range (He.ga K "weighed_range") d_weighed_range
  g_weighed_range : mg "weighed_range" = some (.ref (He.ga K "weighed_range"))
  d_range_of_days : FuncData
  F_range_of_days : FnP K "range_of_days" "range_of_days" s_range_of_days (He.ga K "range_of_days") d_range_of_days
  g_range_of_days : mg "range_of_days" = some (.ref (He.ga K "range_of_days"))
  d_range_in : FuncData
  F_range_in : FnP K "range_in" "range_in" s_range_in (He.ga K "range_in") d_range_in
  g_range_in : mg "range_in" = some (.ref (He.ga K "range_in"))
  d_next_in : FuncData
  F_next_in : FnP K "next_in" "next_in" s_next_in (He.ga K "next_in") d_next_in
  g_next_in : mg "next_in" = some (.ref (He.ga K "next_in"))
  d_day_range : FuncData
  F_day_range : FnP K "day_range" "day_range" s_day_range (He.ga K "day_range") d_day_range
  g_day_range : mg "day_range" = some (.ref (He.ga K "day_range"))
  d_all_in : FuncData
  F_all_in : FnP K "all_in" "all_in" s_all_in (He.ga K "all_in") d_all_in
  g_all_in : mg "all_in" = some (.ref (He.ga K "all_in"))
  d_all_ranges : FuncData
  F_all_ranges : FnP K "all_ranges" "all_ranges" s_all_ranges (He.ga K "all_ranges") d_all_ranges
  g_all_ranges : mg "all_ranges" = some (.ref (He.ga K "all_ranges"))
  d_certain_days : FuncData
  F_certain_days : FnP K "certain_days" "certain_days" s_certain_days (He.ga K "certain_days") d_certain_days
  g_certain_days : mg "certain_days" = some (.ref (He.ga K "certain_days"))
  d_row_range : FuncData
  F_row_range : FnP K "row_range" "row_range" s_row_range (He.ga K "row_range") d_row_range
  g_row_range : mg "row_range" = some (.ref (He.ga K "row_range"))
  d_need_days : FuncData
  F_need_days : FnP K "need_days" "need_days" s_need_days (He.ga K "need_days") d_need_days
  g_need_days : mg "need_days" = some (.ref (He.ga K "need_days"))
  d_total_range : FuncData
  F_total_range : FnP K "total_range" "total_range" s_total_range (He.ga K "total_range") d_total_range
  g_total_range : mg "total_range" = some (.ref (He.ga K "total_range"))
  d_difference_range : FuncData
  F_difference_range : FnP K "difference_range" "difference_range" s_difference_range (He.ga K "difference_range") d_difference_range
  g_difference_range : mg "difference_range" = some (.ref (He.ga K "difference_range"))
  d_next_range : FuncData
  F_next_range : FnP K "next_range" "next_range" s_next_range (He.ga K "next_range") d_next_range
  g_next_range : mg "next_range" = some (.ref (He.ga K "next_range"))
  d__law_jar : FuncData
  F__law_jar : FnP K "_law_jar" "_law_jar" s__law_jar (He.ga K "_law_jar") d__law_jar
  g__law_jar : mg "_law_jar" = some (.ref (He.ga K "_law_jar"))
  d__law_dip : FuncData
  F__law_dip : FnP K "_law_dip" "_law_dip" s__law_dip (He.ga K "_law_dip") d__law_dip
  g__law_dip : mg "_law_dip" = some (.ref (He.ga K "_law_dip"))
  d__law_sums : FuncData
  F__law_sums : FnP K "_law_sums" "_law_sums" s__law_sums (He.ga K "_law_sums") d__law_sums
  g__law_sums : mg "_law_sums" = some (.ref (He.ga K "_law_sums"))
  d__law_days : FuncData
  F__law_days : FnP K "_law_days" "_law_days" s__law_days (He.ga K "_law_days") d__law_days
  g__law_days : mg "_law_days" = some (.ref (He.ga K "_law_days"))
  d__law_top : FuncData
  F__law_top : FnP K "_law_top" "_law_top" s__law_top (He.ga K "_law_top") d__law_top
  g__law_top : mg "_law_top" = some (.ref (He.ga K "_law_top"))
  d__law_high : FuncData
  F__law_high : FnP K "_law_high" "_law_high" s__law_high (He.ga K "_law_high") d__law_high
  g__law_high : mg "_law_high" = some (.ref (He.ga K "_law_high"))
  d__law_size : FuncData
  F__law_size : FnP K "_law_size" "_law_size" s__law_size (He.ga K "_law_size") d__law_size
  g__law_size : mg "_law_size" = some (.ref (He.ga K "_law_size"))
  d__law_gaps : FuncData
  F__law_gaps : FnP K "_law_gaps" "_law_gaps" s__law_gaps (He.ga K "_law_gaps") d__law_gaps
  g__law_gaps : mg "_law_gaps" = some (.ref (He.ga K "_law_gaps"))
  d__law_box : FuncData
  F__law_box : FnP K "_law_box" "_law_box" s__law_box (He.ga K "_law_box") d__law_box
  g__law_box : mg "_law_box" = some (.ref (He.ga K "_law_box"))
  d__law_fits : FuncData
  F__law_fits : FnP K "_law_fits" "_law_fits" s__law_fits (He.ga K "_law_fits") d__law_fits
  g__law_fits : mg "_law_fits" = some (.ref (He.ga K "_law_fits"))
  d__law_filled : FuncData
  F__law_filled : FnP K "_law_filled" "_law_filled" s__law_filled (He.ga K "_law_filled") d__law_filled
  g__law_filled : mg "_law_filled" = some (.ref (He.ga K "_law_filled"))
  d__law_best : FuncData
  F__law_best : FnP K "_law_best" "_law_best" s__law_best (He.ga K "_law_best") d__law_best
  g__law_best : mg "_law_best" = some (.ref (He.ga K "_law_best"))
  d__law_due : FuncData
  F__law_due : FnP K "_law_due" "_law_due" s__law_due (He.ga K "_law_due") d__law_due
  g__law_due : mg "_law_due" = some (.ref (He.ga K "_law_due"))
  d__law_right : FuncData
  F__law_right : FnP K "_law_right" "_law_right" s__law_right (He.ga K "_law_right") d__law_right
  g__law_right : mg "_law_right" = some (.ref (He.ga K "_law_right"))
  d_law : FuncData
  F_law : FnP K "law" "law" s_law (He.ga K "law") d_law
  g_law : mg "law" = some (.ref (He.ga K "law"))
theorem b_is_integer {K : PySem.W.Frag} {mg : Str → Option Value} (T : Tx K mg) : Binds K T.d_is_integer ["thing"] [] := FunD.bindsN T.F_is_integer fun _ _ _ _ _ _ us hl => match us, hl with | [_], _ => rfl
theorem b_are_integers {K : PySem.W.Frag} {mg : Str → Option Value} (T : Tx K mg) : Binds K T.d_are_integers ["thing"] [] := FunD.bindsN T.F_are_integers fun _ _ _ _ _ _ us hl => match us, hl with | [_], _ => rfl
theorem b_is_sums {K : PySem.W.Frag} {mg : Str → Option Value} (T : Tx K mg) : Binds K T.d_is_sums ["thing"] [] := FunD.bindsN T.F_is_sums fun _ _ _ _ _ _ us hl => match us, hl with | [_], _ => rfl
theorem b_need_length {K : PySem.W.Frag} {mg : Str → Option Value} (T : Tx K mg) : Binds K T.d_need_length ["length"] [] := FunD.bindsN T.F_need_length fun _ _ _ _ _ _ us hl => match us, hl with | [_], _ => rfl
theorem b_need_sums {K : PySem.W.Frag} {mg : Str → Option Value} (T : Tx K mg) : Binds K T.d_need_sums ["sums", "length"] [] := FunD.bindsN T.F_need_sums fun _ _ _ _ _ _ us hl => match us, hl with | [_, _], _ => rfl
theorem b_need_day {K : PySem.W.Frag} {mg : Str → Option Value} (T : Tx K mg) : Binds K T.d_need_day ["day", "count"] [] := FunD.bindsN T.F_need_day fun _ _ _ _ _ _ us hl => match us, hl with | [_, _], _ => rfl
theorem b_day_count {K : PySem.W.Frag} {mg : Str → Option Value} (T : Tx K mg) : Binds K T.d_day_count ["sums", "length"] [] := FunD.bindsN T.F_day_count fun _ _ _ _ _ _ us hl => match us, hl with | [_, _], _ => rfl
theorem b_offsets_in {K : PySem.W.Frag} {mg : Str → Option Value} (T : Tx K mg) : Binds K T.d_offsets_in ["sums", "length"] [] := FunD.bindsN T.F_offsets_in fun _ _ _ _ _ _ us hl => match us, hl with | [_, _], _ => rfl
theorem b_sums_of {K : PySem.W.Frag} {mg : Str → Option Value} (T : Tx K mg) : Binds K T.d_sums_of ["numbers", "length"] [] := FunD.bindsN T.F_sums_of fun _ _ _ _ _ _ us hl => match us, hl with | [_, _], _ => rfl
theorem b_total_in {K : PySem.W.Frag} {mg : Str → Option Value} (T : Tx K mg) : Binds K T.d_total_in ["sums", "length", "days"] [] := FunD.bindsN T.F_total_in fun _ _ _ _ _ _ us hl => match us, hl with | [_, _, _], _ => rfl
theorem b_need_most {K : PySem.W.Frag} {mg : Str → Option Value} (T : Tx K mg) : Binds K T.d_need_most ["most"] [] := FunD.bindsN T.F_need_most fun _ _ _ _ _ _ us hl => match us, hl with | [_], _ => rfl
theorem b_need_all {K : PySem.W.Frag} {mg : Str → Option Value} (T : Tx K mg) : Binds K T.d_need_all ["sums", "length", "most"] [] := FunD.bindsN T.F_need_all fun _ _ _ _ _ _ us hl => match us, hl with | [_, _, _], _ => rfl
theorem b_classes_in {K : PySem.W.Frag} {mg : Str → Option Value} (T : Tx K mg) : Binds K T.d_classes_in ["values", "length"] [] := FunD.bindsN T.F_classes_in fun _ _ _ _ _ _ us hl => match us, hl with | [_, _], _ => rfl
theorem b_bounds_in {K : PySem.W.Frag} {mg : Str → Option Value} (T : Tx K mg) : Binds K T.d_bounds_in ["sums", "length", "most"] [] := FunD.bindsN T.F_bounds_in fun _ _ _ _ _ _ us hl => match us, hl with | [_, _, _], _ => rfl
theorem b_apart_days {K : PySem.W.Frag} {mg : Str → Option Value} (T : Tx K mg) : Binds K T.d_apart_days ["offsets", "length", "least"] [] := FunD.bindsN T.F_apart_days fun _ _ _ _ _ _ us hl => match us, hl with | [_, _, _], _ => rfl
theorem b_end_days {K : PySem.W.Frag} {mg : Str → Option Value} (T : Tx K mg) : Binds K T.d_end_days ["offsets", "length", "is_high"] [] := FunD.bindsN T.F_end_days fun _ _ _ _ _ _ us hl => match us, hl with | [_, _, _], _ => rfl
theorem b_conflict_in {K : PySem.W.Frag} {mg : Str → Option Value} (T : Tx K mg) : Binds K T.d_conflict_in ["sums", "length", "most"] [] := FunD.bindsN T.F_conflict_in fun _ _ _ _ _ _ us hl => match us, hl with | [_, _, _], _ => rfl
theorem b_need_way {K : PySem.W.Frag} {mg : Str → Option Value} (T : Tx K mg) : Binds K T.d_need_way ["sums", "length", "most"] [] := FunD.bindsN T.F_need_way fun _ _ _ _ _ _ us hl => match us, hl with | [_, _, _], _ => rfl
theorem b_weighed {K : PySem.W.Frag} {mg : Str → Option Value} (T : Tx K mg) : Binds K T.d_weighed ["weights", "lows", "highs", "total"] [] := FunD.bindsN T.F_weighed fun _ _ _ _ _ _ us hl => match us, hl with | [_, _, _, _], _ => rfl
theorem b_weighed_range {K : PySem.W.Frag} {mg : Str → Option Value} (T : Tx K mg) : Binds K T.d_weighed_range ["sums", "length", "most", "weights", "more"] [] := FunD.bindsN T.F_weighed_range fun _ _ _ _ _ _ us hl => match us, hl with | [_, _, _, _, _], _ => rfl
theorem b_range_of_days {K : PySem.W.Frag} {mg : Str → Option Value} (T : Tx K mg) : Binds K T.d_range_of_days ["sums", "length", "most", "days"] [] := FunD.bindsN T.F_range_of_days fun _ _ _ _ _ _ us hl => match us, hl with | [_, _, _, _], _ => rfl
theorem b_range_in {K : PySem.W.Frag} {mg : Str → Option Value} (T : Tx K mg) : Binds K T.d_range_in ["sums", "length", "most", "day"] [] := FunD.bindsN T.F_range_in fun _ _ _ _ _ _ us hl => match us, hl with | [_, _, _, _], _ => rfl
theorem b_next_in {K : PySem.W.Frag} {mg : Str → Option Value} (T : Tx K mg) : Binds K T.d_next_in ["sums", "length", "most"] [] := FunD.bindsN T.F_next_in fun _ _ _ _ _ _ us hl => match us, hl with | [_, _, _], _ => rfl
theorem b_day_range {K : PySem.W.Frag} {mg : Str → Option Value} (T : Tx K mg) : Binds K T.d_day_range ["sums", "length", "most", "day"] [] := FunD.bindsN T.F_day_range fun _ _ _ _ _ _ us hl => match us, hl with | [_, _, _, _], _ => rfl
theorem b_all_in {K : PySem.W.Frag} {mg : Str → Option Value} (T : Tx K mg) : Binds K T.d_all_in ["sums", "length", "most"] [] := FunD.bindsN T.F_all_in fun _ _ _ _ _ _ us hl => match us, hl with | [_, _, _], _ => rfl
theorem b_all_ranges {K : PySem.W.Frag} {mg : Str → Option Value} (T : Tx K mg) : Binds K T.d_all_ranges ["sums", "length", "most"] [] := FunD.bindsN T.F_all_ranges fun _ _ _ _ _ _ us hl => match us, hl with | [_, _, _], _ => rfl
theorem b_certain_days {K : PySem.W.Frag} {mg : Str → Option Value} (T : Tx K mg) : Binds K T.d_certain_days ["sums", "length", "most"] [] := FunD.bindsN T.F_certain_days fun _ _ _ _ _ _ us hl => match us, hl with | [_, _, _], _ => rfl
theorem b_row_range {K : PySem.W.Frag} {mg : Str → Option Value} (T : Tx K mg) : Binds K T.d_row_range ["sums", "length", "most", "first", "beyond"] [] := FunD.bindsN T.F_row_range fun _ _ _ _ _ _ us hl => match us, hl with | [_, _, _, _, _], _ => rfl
theorem b_need_days {K : PySem.W.Frag} {mg : Str → Option Value} (T : Tx K mg) : Binds K T.d_need_days ["thing", "count"] [] := FunD.bindsN T.F_need_days fun _ _ _ _ _ _ us hl => match us, hl with | [_, _], _ => rfl
theorem b_total_range {K : PySem.W.Frag} {mg : Str → Option Value} (T : Tx K mg) : Binds K T.d_total_range ["sums", "length", "most", "days"] [] := FunD.bindsN T.F_total_range fun _ _ _ _ _ _ us hl => match us, hl with | [_, _, _, _], _ => rfl
theorem b_difference_range {K : PySem.W.Frag} {mg : Str → Option Value} (T : Tx K mg) : Binds K T.d_difference_range ["sums", "length", "most", "first", "second"] [] := FunD.bindsN T.F_difference_range fun _ _ _ _ _ _ us hl => match us, hl with | [_, _, _, _, _], _ => rfl
theorem kr_next_range {K : PySem.W.Frag} {mg : Str → Option Value} (T : Tx K mg) : KRev T.d_next_range ["sums", "length", "most"] := FunD.revN T.F_next_range fun _ _ _ _ _ _ us hl => match us, hl with | [_, _, _], _ => rfl
theorem b_next_range {K : PySem.W.Frag} {mg : Str → Option Value} (T : Tx K mg) : Binds K T.d_next_range ["sums", "length", "most"] [] := FunD.bindsN T.F_next_range fun _ _ _ _ _ _ us hl => match us, hl with | [_, _, _], _ => rfl
theorem b__law_jar {K : PySem.W.Frag} {mg : Str → Option Value} (T : Tx K mg) : Binds K T.d__law_jar ["script", "k"] [] := FunD.bindsN T.F__law_jar fun _ _ _ _ _ _ us hl => match us, hl with | [_, _], _ => rfl
theorem b__law_dip {K : PySem.W.Frag} {mg : Str → Option Value} (T : Tx K mg) : Binds K T.d__law_dip ["jar", "many"] [] := FunD.bindsN T.F__law_dip fun _ _ _ _ _ _ us hl => match us, hl with | [_, _], _ => rfl
theorem b__law_sums {K : PySem.W.Frag} {mg : Str → Option Value} (T : Tx K mg) : Binds K T.d__law_sums ["numbers_here", "size"] [] := FunD.bindsN T.F__law_sums fun _ _ _ _ _ _ us hl => match us, hl with | [_, _], _ => rfl
theorem b__law_days {K : PySem.W.Frag} {mg : Str → Option Value} (T : Tx K mg) : Binds K T.d__law_days ["jar", "many", "top"] [] := FunD.bindsN T.F__law_days fun _ _ _ _ _ _ us hl => match us, hl with | [_, _, _], _ => rfl
theorem b__law_top {K : PySem.W.Frag} {mg : Str → Option Value} (T : Tx K mg) : Binds K T.d__law_top ["jar"] [] := FunD.bindsN T.F__law_top fun _ _ _ _ _ _ us hl => match us, hl with | [_], _ => rfl
theorem b__law_high {K : PySem.W.Frag} {mg : Str → Option Value} (T : Tx K mg) : Binds K T.d__law_high ["jar", "parts"] [] := FunD.bindsN T.F__law_high fun _ _ _ _ _ _ us hl => match us, hl with | [_, _], _ => rfl
theorem b__law_size {K : PySem.W.Frag} {mg : Str → Option Value} (T : Tx K mg) : Binds K T.d__law_size ["jar", "most_days"] [] := FunD.bindsN T.F__law_size fun _ _ _ _ _ _ us hl => match us, hl with | [_, _], _ => rfl
theorem b__law_gaps {K : PySem.W.Frag} {mg : Str → Option Value} (T : Tx K mg) : Binds K T.d__law_gaps ["sums_here", "size"] [] := FunD.bindsN T.F__law_gaps fun _ _ _ _ _ _ us hl => match us, hl with | [_, _], _ => rfl
theorem b__law_box {K : PySem.W.Frag} {mg : Str → Option Value} (T : Tx K mg) : Binds K T.d__law_box ["sums_here", "size", "top"] [] := FunD.bindsN T.F__law_box fun _ _ _ _ _ _ us hl => match us, hl with | [_, _, _], _ => rfl
theorem b__law_fits {K : PySem.W.Frag} {mg : Str → Option Value} (T : Tx K mg) : Binds K T.d__law_fits ["lows", "highs", "total"] [] := FunD.bindsN T.F__law_fits fun _ _ _ _ _ _ us hl => match us, hl with | [_, _, _], _ => rfl
theorem b__law_filled {K : PySem.W.Frag} {mg : Str → Option Value} (T : Tx K mg) : Binds K T.d__law_filled ["lows", "highs", "total", "order_here"] [] := FunD.bindsN T.F__law_filled fun _ _ _ _ _ _ us hl => match us, hl with | [_, _, _, _], _ => rfl
theorem b__law_best {K : PySem.W.Frag} {mg : Str → Option Value} (T : Tx K mg) : Binds K T.d__law_best ["sums_here", "size", "top", "weights"] [] := FunD.bindsN T.F__law_best fun _ _ _ _ _ _ us hl => match us, hl with | [_, _, _, _], _ => rfl
theorem b__law_due {K : PySem.W.Frag} {mg : Str → Option Value} (T : Tx K mg) : Binds K T.d__law_due ["sums_here", "size", "top", "plus", "minus"] [] := FunD.bindsN T.F__law_due fun _ _ _ _ _ _ us hl => match us, hl with | [_, _, _, _, _], _ => rfl
theorem b__law_right {K : PySem.W.Frag} {mg : Str → Option Value} (T : Tx K mg) : Binds K T.d__law_right ["jar", "sums_here", "size", "top"] [] := FunD.bindsN T.F__law_right fun _ _ _ _ _ _ us hl => match us, hl with | [_, _, _, _], _ => rfl
theorem b_law {K : PySem.W.Frag} {mg : Str → Option Value} (T : Tx K mg) : Binds K T.d_law ["script"] [] := FunD.bindsN T.F_law fun _ _ _ _ _ _ us hl => match us, hl with | [_], _ => rfl
end WK

namespace WK
open PySem PySem.Spec PyProof.Rows L2
local macro_rules | `(tactic| walk_at "rp") => `(tactic| first
  | assumption
  | (refine rp_gr (by assumption) ?_; walk_at "rp")
  | (refine rp_mt (by assumption) ?_; walk_at "rp")
  | (refine rp_ex (by assumption) ?_; walk_at "rp"))
local macro_rules | `(tactic| walk_at "ow") => `(tactic| first
  | assumption
  | (refine OwnL.gr ?_ (by assumption); walk_at "ow")
  | (refine OwnL.mt ?_ (by assumption) (by first | assumption | exact Ne.symm (by assumption)); walk_at "ow"))
local macro_rules | `(tactic| walk_at "gc") => `(tactic| first
  | assumption
  | exact gc_refl
  | (refine gc_gr ?_ (by assumption); walk_at "gc")
  | (refine gc_mt ?_ (by assumption) (by assumption); walk_at "gc"))
local macro_rules | `(tactic| walk_at "ev") => `(tactic| first
  | exact ev_int
  | exact ev_varI rfl
  | exact ev_varB rfl
  | exact ev_varS rfl
  | exact ev_bl
  | exact ev_str
  | (refine ev_var rfl ?_; walk_at "rp")
  | (refine ev_add ?_ ?_ <;> walk_at "ev")
  | (refine ev_sub ?_ ?_ <;> walk_at "ev")
  | (refine ev_lt ?_ ?_ <;> walk_at "ev")
  | (refine ev_le ?_ ?_ <;> walk_at "ev")
  | (refine ev_gt ?_ ?_ <;> walk_at "ev")
  | (refine ev_ge ?_ ?_ <;> walk_at "ev")
  | (refine ev_eqI ?_ ?_ <;> walk_at "ev")
  | (refine ev_neI ?_ ?_ <;> walk_at "ev")
  | (refine ev_neg ?_; walk_at "ev")
  | (refine ev_max2 ?_ ?_ <;> walk_at "ev")
  | (refine ev_min2 ?_ ?_ <;> walk_at "ev")
  | (refine ev_abs ?_; walk_at "ev")
  | (refine ev_intI ?_; walk_at "ev")
  | (refine ev_intB ?_; walk_at "ev")
  | (refine ev_len ?_; walk_at "ev")
  | (refine ev_sum ?_; walk_at "ev")
  | (refine ev_mod ?_ ?_ (by omega) <;> walk_at "ev")
  | (refine ev_leLe ?_ ?_ ?_ <;> walk_at "ev")
  | (refine ev_leLt ?_ ?_ ?_ <;> walk_at "ev"))
local macro_rules | `(tactic| walk_at "et") => `(tactic| first
  | (refine et_not ?_; walk_at "et")
  | (refine et_test ?_; walk_at "ev")
  | (refine et_B ?_; walk_at "ev"))
end WK

namespace WK
open PySem PySem.Spec PyProof.Rows L2
section
variable {P : Program} {w : World} {K : PySem.W.Frag} {mg : Str → Option Value} {base : Heap}
theorem ok_need_length (T : Tx K mg) : FnOk P w K mg base CX0 2 (He.ga K "need_length") T.d_need_length ["length"] (spD1 K Rep.int (fun l => 1 ≤ l ∧ l ≤ 8) Rep.non (fun _ => ())) := by
  have nd := sc_need_length.nd
  refine okD1 T.F_need_length sc_need_length rfl fun cdv A outer s H E hr => ⟨_, (pss_one (ps_if (pt_not (pt_chain op_le op_le pe_int (pv 0) (pe_glob (v := .int 8) rfl (T.c_MOST_LENGTH).choose_spec ⟨_, rfl⟩))) (pss_one ps_never) pss_nil)), fun wd x l Q hx hp q => ?_⟩
  cases hx
  refine s_when (K := K) (b := false) (EvT.eq (et_not (et_test (ev_leLe ev_int (ev_varI rfl) ev_int))) (by simp [hp.1, hp.2])) (fun h => nomatch h) fun _ w' g => ?_
  exact q .non w' g rfl
end
end WK

namespace WK
open PySem PySem.Spec PyProof.Rows L2
section
variable {P : Program} {w : World} {K : PySem.W.Frag} {mg : Str → Option Value} {base : Heap}
theorem ok_is_integer (T : Tx K mg) : FnOk P w K mg base CX0 1 (He.ga K "is_integer") T.d_is_integer ["thing"] (spD1 K Rep.int (fun _ => True) Rep.bl (fun _ => true)) := by
  have nd := sc_is_integer.nd
  refine okD1 T.F_is_integer sc_is_integer rfl fun cdv A outer s H E hr => ⟨_, (pss_one (ps_ret (pe_and (pe_callB (show CallR _ _ (rIsi K) from call_isi) (by rfl) T.n_isinstance (by decide +kernel) (pa_cons (pv 0) (pa_cons (pe_bltn (by rfl) T.n_int (by decide +kernel) (rel_ty "int")) pa_nil))) (pe_one (pe_not (pe_callB (show CallR _ _ (rIsi K) from call_isi) (by rfl) T.n_isinstance (by decide +kernel) (pa_cons (pv 0) (pa_cons (pe_bltn (by rfl) T.n_bool (by decide +kernel) (rel_ty "bool")) pa_nil)))))))), fun wd x l Q hx hp q => ?_⟩
  cases hx
  refine s_ret (K := K) (ev_andV (ev_isiI (ev_varI rfl) rfl) fun _ => ev_notV (ev_isiI (ev_varI rfl) rfl)) fun v w' g r => ?_
  cases r
  exact q _ w' g rfl
theorem ok_are_integers (T : Tx K mg) : FnOk P w K mg base CX0 2 (He.ga K "are_integers") T.d_are_integers ["thing"] (spD1 K (Rep.list Rep.int) (fun l => l.length ≤ 1000) Rep.bl (fun _ => true)) := by
  have nd := sc_are_integers.nd
  refine okD1 T.F_are_integers sc_are_integers rfl fun cdv A outer s H E hr => ⟨_, (pss_one (ps_ret (pe_and (pe_callB (show CallR _ _ (rIsi K) from call_isi) (by rfl) T.n_isinstance (by decide +kernel) (pa_cons (pv 0) (pa_cons (pe_bltn (by rfl) T.n_list (by decide +kernel) (rel_ty "list")) pa_nil))) (pe_one (pe_callB (show CallR _ _ (rAll K) from (cr_all rfl)) (by rfl) T.n_all (by decide +kernel) (pa_cons (pe_lc (own := [("number", 1)]) (g := gName 1) (tt := tYes) rfl nd (pi_list (pv 0)) (blkOk_by (own := [("number", 1)]) (N := ["thing", "number"]) (sc := defScope s_are_integers) (by decide +kernel)) (fun _ _ _ _ _ => (pg_name (i := 1) nd rfl (by first | exact Or.inl rfl | exact Or.inr rfl))) (fun _ _ _ _ _ => pts_nil) (fun _ _ _ _ _ => (pe_call (ok_is_integer T) (hr.mono (by decide)) (by rfl) T.g_is_integer T.F_is_integer.kp (b_is_integer T) .nil pass0 (pa_cons (pv 1) pa_nil)))) pa_nil)))))), fun wd x l Q hx hp q => ?_⟩
  refine s_ret (K := K) (EvD.eq (ev_andV (ev_isiL (ev_var rfl hx) rfl) fun _ => ev_all (EvN.d (en_lc (e' := Rep.bl) (by omega) (fun _ => true) (ei_list (ev_var rfl hx)) (fun _ => rfl) fun a v w' ha g r => ev_call1 (ev_var rfl r) trivial))) (show _ = true by simp)) fun v w' g r => ?_
  cases r
  exact q _ w' g rfl
theorem ok_is_sums (T : Tx K mg) : FnOk P w K mg base CX0 3 (He.ga K "is_sums") T.d_is_sums ["thing"] (spD1 K (Rep.list Rep.int) (fun l => 1 ≤ l.length ∧ l.length ≤ 67) Rep.bl (fun _ => true)) := by
  have nd := sc_is_sums.nd
  refine okD1 T.F_is_sums sc_is_sums rfl fun cdv A outer s H E hr => ⟨_, (pss_one (ps_ret (pe_and (pe_callB (show CallR _ _ (rIsi K) from call_isi) (by rfl) T.n_isinstance (by decide +kernel) (pa_cons (pv 0) (pa_cons (pe_bltn (by rfl) T.n_list (by decide +kernel) (rel_ty "list")) pa_nil))) (pe_and (pe_chain op_le op_le pe_int (pe_callB (show CallR _ _ (Evl.rLenS K) from call_len_seq) (by rfl) T.n_len (by decide +kernel) (pa_cons (pv 0) pa_nil)) (pe_glob (v := .int 67) rfl (T.c_MOST_DAYS).choose_spec ⟨_, rfl⟩)) (pe_one (pe_call (ok_are_integers T) (hr.mono (by decide)) (by rfl) T.g_are_integers T.F_are_integers.kp (b_are_integers T) .nil pass0 (pa_cons (pv 0) pa_nil))))))), fun wd x l Q hx hp q => ?_⟩
  refine s_ret (K := K) (EvD.eq (ev_andV (ev_isiL (ev_var rfl hx) rfl) fun _ => ev_andV (ev_leLe ev_int (ev_len (ev_var rfl hx)) ev_int) fun _ => ev_call1 (ev_var rfl hx) (by omega)) (show _ = true by simp; omega)) fun v w' g r => ?_
  cases r
  exact q _ w' g rfl
theorem ok_need_sums (T : Tx K mg) : FnOk P w K mg base CX0 4 (He.ga K "need_sums") T.d_need_sums ["sums", "length"] (spD2 K (Rep.list Rep.int) Rep.int VS Rep.non (fun _ _ => ())) := by
  have nd := sc_need_sums.nd
  refine okD2 T.F_need_sums sc_need_sums rfl fun cdv A outer s H E hr => ⟨_, (pss_cons (ps_if (pt_not (pt_val (pe_call (ok_is_sums T) (hr.mono (by decide)) (by rfl) T.g_is_sums T.F_is_sums.kp (b_is_sums T) .nil pass0 (pa_cons (pv 0) pa_nil)))) (pss_one ps_never) pss_nil)
      (pss_cons (ps_expr (pe_call (ok_need_length T) (hr.mono (by decide)) (by rfl) T.g_need_length T.F_need_length.kp (b_need_length T) .nil pass0 (pa_cons (pv 1) pa_nil)))
      (pss_one (ps_if (pt_cmpR op_gt (pe_op op_sub (pe_op op_add (pe_callB (show CallR _ _ (Evl.rLenS K) from call_len_seq) (by rfl) T.n_len (by decide +kernel) (pa_cons (pv 0) pa_nil)) (pv 1)) pe_int) (pe_glob (v := .int 67) rfl (T.c_MOST_DAYS).choose_spec ⟨_, rfl⟩) (nomark _)) (pss_one ps_never) pss_nil)))), fun wd x y l L Q hx hy hp q => ?_⟩
  cases hy
  have h1 := hp.ne; have h2 := hp.lo; have h3 := hp.hi; have h4 := hp.days
  refine q_when (K := K) (b := false) (EvT.eq (et_not (et_test (ev_call1 (ev_var rfl hx) ⟨h1, by omega⟩))) (by simp)) (fun h => nomatch h) fun _ w1 g1 => ?_
  refine q_drop (K := K) (ev_call1 (ev_varI rfl) ⟨h2, h3⟩) fun w2 g2 => ?_
  refine s_when (K := K) (b := false) (EvT.eq (et_test (ev_gt (ev_sub (ev_add (ev_len (ev_var rfl (rp_gr (g1.trans g2) hx))) (ev_varI rfl)) ev_int) ev_int)) (by simp; omega)) (fun h => nomatch h) fun _ w3 g3 => ?_
  exact q .non w3 ((g1.trans g2).trans g3) rfl
theorem ok_offsets_in (T : Tx K mg) : FnOk P w K mg base CX0 1 (He.ga K "offsets_in") T.d_offsets_in ["sums", "length"] (spN2 K (Rep.list Rep.int) Rep.int VS Rep.int offs) := by
  have nd := sc_offsets_in.nd
  refine okN2 T.F_offsets_in sc_offsets_in rfl fun cdv A outer s H E hr => ⟨_, (pss_cons (ps_set (i := 2) nd rfl (Or.inl rfl) (pe_op op_rep (pe_lst (pa_cons pe_int pa_nil)) (pv 1)))
      (pss_cons (ps_for PassesOwn.never rfl (pi_range1 (by rfl) T.n_range (pa_cons (pe_op op_sub (pe_callB (show CallR _ _ (Evl.rLenS K) from call_len_seq) (by rfl) T.n_len (by decide +kernel) (pa_cons (pv 0) pa_nil)) pe_int) pa_nil)) (pg_name (i := 3) nd rfl (Or.inl rfl)) (pss_one (ps_expr (pe_bm PySem.F.plainAttrs_list PySem.F.slot_list_append PySem.F.type_list_append mt_append (pv 2) (pa_cons (pe_op op_sub (pe_op op_add (pe_ix (show IxR _ (rIxL K) from ix_list) (pv 2) (pv 3) (fun _ _ => rfl)) (pe_ix (show IxR _ (rIxL K) from ix_list) (pv 0) (pe_op op_add (pv 3) pe_int) (fun _ _ => rfl))) (pe_ix (show IxR _ (rIxL K) from ix_list) (pv 0) (pv 3) (fun _ _ => rfl))) pa_nil)))))
      (pss_one (ps_ret (pv 2))))), fun wd x y l L Q hx hy hp q => ?_⟩
  cases hy
  have h1 := hp.ne; have h2 := hp.lo; have h3 := hp.hi; have h4 := hp.days
  refine q_asgN (K := K) (en_rep (en_lst (el_cons ev_int el_nil)) (ev_varI rfl) ⟨by omega, by simp; omega, by omega⟩) fun p w1 g1 n1 o1 => ?_
  have e0 : (List.replicate L.toNat ([0] : List Int)).flatten = offsK l L.toNat 0 := by
    unfold offsK; simp
  rw [e0] at o1
  refine q_for (K := K) (ei_range1 (ev_sub (ev_len (ev_var rfl (rp_gr g1 hx))) ev_int) (by omega)) (fun i σ z => ∃ y1 : Option V, σ = [some x, some (.int L), some (.ref p), y1] ∧ GrC wd z ∧ OwnL K z p Rep.int (offsK l L.toNat i)) (fun z g => ⟨none, rfl, ⟨g1.trans g⟩, o1.gr g⟩) ?_ ?_
  · intro i a v σ z z2 ha hxz hI gz hra
    obtain ⟨y1, rfl, cz, oz⟩ := hI
    cases hra
    obtain ⟨rfl, hi⟩ := irange_get' ha
    have o2 := oz.gr gz
    have hr2 := rp_gr gz (rp_gr cz.g hx)
    have hlen : (offsK l L.toNat i).length = L.toNat + i := offsK_len
    refine s_app (K := K) o2 rfl (ev_sub (ev_add (ev_ixO o2 rfl (ev_varI rfl) (atI_D (d := 0) (by omega) (by omega))) (ev_ix (ev_var rfl hr2) (ev_add (ev_varI rfl) ev_int) (atI_D (d := 0) (by omega) (by omega)))) (ev_ix (ev_var rfl hr2) (ev_varI rfl) (atI_D (d := 0) (by omega) (by omega)))) (by omega) fun w4 m4 o4 => ?_
    dsimp only
    refine nxt ?_ ?_
    · exact gz.s.trans m4.s
    · refine ⟨_, rfl, gc_mt (gc_gr cz gz) m4 n1, ?_⟩
      rw [offsK_succ]
      rw [show (0 + (i : Int) + 1).toNat = i + 1 by omega, show (0 + (i : Int)).toNat = i by omega] at o4
      exact o4
  · intro σ z hxz hI
    obtain ⟨y1, rfl, cz, oz⟩ := hI
    refine s_retO rfl ?_
    refine q p z cz.g n1 ?_
    rw [irange_len] at oz
    unfold offs
    rw [show ((l.length : Int) - 1 - 0).toNat = l.length - 1 by omega] at oz
    exact oz
theorem ok_total_in (T : Tx K mg) : FnOk P w K mg base CX0 2 (He.ga K "total_in") T.d_total_in ["sums", "length", "days"] (spD3 K (Rep.list Rep.int) Rep.int (Rep.list Rep.int) (fun s L ds => VS s L ∧ ds.length ≤ 1000 ∧ ∀ d ∈ ds, 0 ≤ d ∧ d < (offs s L).length) Rep.int totalIn) := by
  have nd := sc_total_in.nd
  refine okD3 T.F_total_in sc_total_in rfl fun cdv A outer s H E hr => ⟨_, (pss_cons (ps_set (i := 3) nd rfl (Or.inr rfl) (pe_call (ok_offsets_in T) (hr.mono (by decide)) (by rfl) T.g_offsets_in T.F_offsets_in.kp (b_offsets_in T) .nil pass0 (pa_cons (pv 0) (pa_cons (pv 1) pa_nil))))
      (pss_one (ps_ret (pe_op op_add (pe_ix (show IxR _ (rIxL K) from ix_list) (pv 0) pe_int (fun _ _ => rfl)) (pe_callB (show CallR _ _ (rSum K) from (cr_sum rfl)) (by rfl) T.n_sum (by decide +kernel) (pa_cons (pe_lc (own := [("day", 4)]) (g := gName 4) (tt := tYes) rfl nd (pi_list (pv 2)) (blkOk_by (own := [("day", 4)]) (N := ["sums", "length", "days", "offsets", "day"]) (sc := defScope s_total_in) (by decide +kernel)) (fun _ _ _ _ _ => (pg_name (i := 4) nd rfl (by first | exact Or.inl rfl | exact Or.inr rfl))) (fun _ _ _ _ _ => pts_nil) (fun _ _ _ _ _ => (pe_ix (show IxR _ (rIxL K) from ix_list) (pv 3) (pv 4) (fun _ _ => rfl)))) pa_nil)))))), fun wd x y z l L ds Q hx hy hz hp q => ?_⟩
  cases hy
  obtain ⟨hv, hn, hd⟩ := hp
  have h1 := hv.ne
  refine q_asg (K := K) (EvN.d (en_call2 (ev_var rfl hx) (ev_varI rfl) hv)) fun vo w1 g1 r1 => ?_
  refine s_ret (K := K) (ev_add (ev_ix (ev_var rfl (rp_gr g1 hx)) ev_int (atI_D (d := 0) (by omega) (by omega))) (ev_sum (EvN.d (en_lc (e' := Rep.int) (by omega) (gI (offs l L)) (ei_list (ev_var rfl (rp_gr g1 hz))) (fun _ => rfl) fun a v w' ha g r => by
    cases r
    exact ev_ix (ev_var rfl (rp_gr g r1)) (ev_varI rfl) (atI_D (d := 0) (hd a ha).1 (hd a ha).2))))) fun v w' g r => q v w' (g1.trans g) r
end
end WK

namespace WK
open PySem PySem.Spec PyProof.Rows L2
/-! ### conflicts: a tuple that holds an own list -/
def PreW (s : List Int) (L m : Int) : Prop := VS s L ∧ 0 ≤ m ∧ m ≤ 10 ^ 30 - 1 ∧ conf s L m = none
def Rep.rf : Rep Unit := ⟨fun _ _ v _ => ∃ p, v = .ref p, fun _ h => h⟩
theorem nn_rf : Rep.rf.NN := fun _ _ _ _ h e => by obtain ⟨p, z⟩ := h; rw [z] at e; cases e
def spConf (K : PySem.W.Frag) : Sp := fun vs H Q _ => ∃ (wd : Wd) (x : V) (l : List Int) (L most : Int), wd.H = H ∧ vs = [x, .int L, .int most] ∧ (Rep.list Rep.int).r K wd.S x l ∧ VS l L ∧ 0 ≤ most ∧ most ≤ 10 ^ 31 ∧
  (conf l L most = none → ∀ w', Gr wd w' → Q .non w'.H) ∧ (∀ s d, conf l L most = some (s, d) → ∀ t p w', Gr wd w' → wd.H p = none → SqT K w'.S t [.str s, .ref p] → OwnL K w' p Rep.int d → Q (.ref t) w'.H)
section
variable {K : PySem.W.Frag} {σ : L2.St} {w w' : Wd} {ta tb tc te : TE} {D : Ends} {tz : TS} {p : Addr}
theorem s_retTO {i : Nat} {s : Str} (hi : σ[i]? = some (some (.ref p))) (k : ∀ t w', Gr w w' → w.H t = none → SqT K w'.S t [.str s, .ref p] → D.rt (.ref t) w'.H) : tRet (tTup (tCons (tC (.str s)) (tCons (tVar i) tNil))) D σ w.H :=
  ⟨_, hi, by show 2 ≤ sizeLine; decide, fun t ht => k t (w.put t _) (gr_put ht) ht (SqT.of put_s)⟩
theorem et_notRef {i : Nat} (hi : σ[i]? = some (some (.ref p))) : EvT K (tTest (tOp (fun x y H Q => y = .non ∧ Q (.bl (!decide (x = .non))) H) (tVar i) (tC .non))) σ w true :=
  et_test (EvD.eq (ev_notN nn_rf (ev_var hi (show (Rep.opt Rep.rf).r K _ _ (some ()) from ⟨p, rfl⟩))) rfl)
theorem et_notNon {i : Nat} (hi : σ[i]? = some (some .non)) : EvT K (tTest (tOp (fun x y H Q => y = .non ∧ Q (.bl (!decide (x = .non))) H) (tVar i) (tC .non))) σ w false :=
  et_test (EvD.eq (ev_notN nn_rf (ev_var hi (show (Rep.opt Rep.rf).r K _ _ none from rfl))) rfl)
theorem conf_run {l : List Int} {L most : Int} {E : XK} {Q : VK} (h0 : EvD K ta σ w (Rep.list Rep.int) l) (h1 : EvD K tb σ w Rep.int L) (h2 : EvD K tc σ w Rep.int most) (hv : VS l L) (hm : 0 ≤ most ∧ most ≤ 10 ^ 31)
    (q0 : conf l L most = none → ∀ w', Gr w w' → Q .non w'.H) (q1 : ∀ s d, conf l L most = some (s, d) → ∀ t p w', Gr w w' → w.H p = none → SqT K w'.S t [.str s, .ref p] → OwnL K w' p Rep.int d → Q (.ref t) w'.H) :
    tCall (spConf K) [] E (tCons ta (tCons tb (tCons tc tNil))) σ w.H Q :=
  h0.run fun v0 u0 k0 z0 => (h1.gr k0).run fun v1 u1 k1 z1 => (h2.gr (k0.trans k1)).run fun v2 u2 k2 z2 => ⟨u2, v0, l, L, most, rfl, by cases z1; cases z2; rfl, (Rep.list Rep.int).m (k1.s.trans k2.s) z0, hv, hm.1, hm.2,
    fun e w' g' => q0 e w' (((k0.trans k1).trans k2).trans g'), fun s d e t p w' g' n a o => q1 s d e t p w' (((k0.trans k1).trans k2).trans g') (fr_back ((k0.trans k1).trans k2) n) a o⟩
end
section
variable {P : Program} {w : World} {K : PySem.W.Frag} {mg : Str → Option Value} {base : Heap}
theorem ok_need_most (T : Tx K mg) : FnOk P w K mg base CX0 2 (He.ga K "need_most") T.d_need_most ["most"] (spD1 K Rep.int (fun m => 0 ≤ m ∧ m ≤ 10 ^ 30 - 1) Rep.non (fun _ => ())) := by
  have nd := sc_need_most.nd
  refine okD1 T.F_need_most sc_need_most rfl fun cdv A outer s H E hr => ⟨_, (pss_one (ps_if (pt_not (pt_chain op_le op_le pe_int (pv 0) (pe_glob (v := .int 999999999999999999999999999999) rfl (T.c_MOST_MOST).choose_spec ⟨_, rfl⟩))) (pss_one ps_never) pss_nil)), fun wd x m Q hx hp q => ?_⟩
  cases hx
  refine s_when (K := K) (b := false) (EvT.eq (et_not (et_test (ev_leLe ev_int (ev_varI rfl) ev_int))) (by simp; omega)) (fun h => nomatch h) fun _ w1 g1 => ?_
  exact q .non w1 g1 rfl
theorem ok_need_all (T : Tx K mg) : FnOk P w K mg base CX0 5 (He.ga K "need_all") T.d_need_all ["sums", "length", "most"] (spD3 K (Rep.list Rep.int) Rep.int Rep.int (fun s L m => VS s L ∧ 0 ≤ m ∧ m ≤ 10 ^ 30 - 1) Rep.non (fun _ _ _ => ())) := by
  have nd := sc_need_all.nd
  refine okD3 T.F_need_all sc_need_all rfl fun cdv A outer s H E hr => ⟨_, (pss_cons (ps_expr (pe_call (ok_need_sums T) (hr.mono (by decide)) (by rfl) T.g_need_sums T.F_need_sums.kp (b_need_sums T) .nil pass0 (pa_cons (pv 0) (pa_cons (pv 1) pa_nil))))
      (pss_one (ps_expr (pe_call (ok_need_most T) (hr.mono (by decide)) (by rfl) T.g_need_most T.F_need_most.kp (b_need_most T) .nil pass0 (pa_cons (pv 2) pa_nil))))), fun wd x y z l L m Q hx hy hz hp q => ?_⟩
  cases hy; cases hz
  refine q_drop (K := K) (ev_call2 (ev_var rfl hx) (ev_varI rfl) hp.1) fun w1 g1 => ?_
  refine s_drop (K := K) (ev_call1 (ev_varI rfl) hp.2) fun w2 g2 => ?_
  exact q .non w2 (g1.trans g2) rfl
theorem ok_classes_in (T : Tx K mg) : FnOk P w K mg base CX0 1 (He.ga K "classes_in") T.d_classes_in ["values", "length"] (spN2 K (Rep.list Rep.int) Rep.int (fun o L => 1 ≤ L ∧ L ≤ 8 ∧ L ≤ o.length) (Rep.list Rep.int) classes) := by
  have nd := sc_classes_in.nd
  refine okN2 T.F_classes_in sc_classes_in rfl fun cdv A outer s H E hr => ⟨_, (pss_one (ps_ret (pe_lc (own := [("rest", 2)]) (g := gName 2) (tt := tYes) rfl nd (pi_range1 (by rfl) T.n_range (pa_cons (pv 1) pa_nil)) (blkOk_by (own := [("rest", 2)]) (N := ["values", "length", "rest"]) (sc := defScope s_classes_in) (by decide +kernel)) (fun _ _ _ _ _ => (pg_name (i := 2) nd rfl (by first | exact Or.inl rfl | exact Or.inr rfl))) (fun _ _ _ _ _ => pts_nil) (fun _ _ _ _ _ => (pe_stepK K (pv 0) (po_some (pv 2)) (po_some (pv 1))))))), fun wd x y o L Q hx hy hp q => ?_⟩
  cases hy
  refine s_retN (K := K) (en_lc (e' := Rep.list Rep.int) (by rw [irange_len]; omega) (cls o L) (ei_range1 (ev_varI rfl) (by omega)) (fun _ => rfl) fun a v w' ha g r => ?_) q
  cases r
  have := irange_mem.mp ha
  exact EvN.d (en_step (ev_var rfl (rp_gr g hx)) (ev_varI rfl) (ev_varI rfl) (by omega))
theorem ok_apart_days (T : Tx K mg) : FnOk P w K mg base CX0 1 (He.ga K "apart_days") T.d_apart_days ["offsets", "length", "least"] (spO3 K (Rep.list Rep.int) Rep.int Rep.int (fun o L m => 1 ≤ L ∧ L ≤ 8 ∧ o.length ≤ 1000) Rep.int apart) := by
  have nd := sc_apart_days.nd
  refine okO3 T.F_apart_days sc_apart_days rfl fun cdv A outer s H E hr => ⟨_, (pss_cons (ps_for PassesOwn.never rfl (pi_range1 (by rfl) T.n_range (pa_cons (pe_callB (show CallR _ _ (Evl.rLenS K) from call_len_seq) (by rfl) T.n_len (by decide +kernel) (pa_cons (pv 0) pa_nil)) pa_nil)) (pg_name (i := 3) nd rfl (Or.inl rfl)) (pss_one (ps_for PassesOwn.never rfl (pi_range3 (by rfl) T.n_range (pa_cons (pe_op op_add (pv 3) (pv 1)) (pa_cons (pe_callB (show CallR _ _ (Evl.rLenS K) from call_len_seq) (by rfl) T.n_len (by decide +kernel) (pa_cons (pv 0) pa_nil)) (pa_cons (pv 1) pa_nil)))) (pg_name (i := 4) nd rfl (Or.inl rfl)) (pss_one (ps_if (pt_cmpR op_ge (pe_callB call_abs (by rfl) T.n_abs (by decide +kernel) (pa_cons (pe_op op_sub (pe_ix (show IxR _ (rIxL K) from ix_list) (pv 0) (pv 4) (fun _ _ => rfl)) (pe_ix (show IxR _ (rIxL K) from ix_list) (pv 0) (pv 3) (fun _ _ => rfl))) pa_nil)) (pv 2) (nomark _)) (pss_one (ps_ret (pe_lst (pa_cons (pv 3) (pa_cons (pv 4) pa_nil))))) pss_nil)))))
      (pss_one (ps_ret pe_non))), fun wd x y z o L m Q hx hy hz hp q0 q1 => ?_⟩
  cases hy; cases hz
  refine q_for (K := K) (ei_range1 (ev_len (ev_var rfl hx)) (by omega)) (fun i σ z => ∃ y1 y2 : Option V, σ = [some x, some (.int L), some (.int m), y1, y2] ∧ GrC wd z ∧ ((irange 0 o.length).take i).findSome? (fun i => (srange (i + L) o.length L).findSome? fun j => if m ≤ ((gI o j - gI o i).natAbs : Int) then some [i, j] else none) = none) (fun z g => ⟨none, none, rfl, ⟨g⟩, rfl⟩) ?_ ?_
  · intro i a v σ z z2 ha hxz hI gz hra
    obtain ⟨y1, y2, rfl, cz, hn⟩ := hI
    cases hra
    have ham := irange_mem.mp (List.mem_of_getElem? ha)
    refine s_for (K := K) (ei_srange (ev_add (ev_varI rfl) (ev_varI rfl)) (ev_len (ev_var rfl (rp_gr (cz.g.trans gz) hx))) (ev_varI rfl) (by omega) (by omega) (by omega)) (fun n σ u => ∃ y2 : Option V, σ = [some x, some (.int L), some (.int m), some (.int a), y2] ∧ GrC wd u ∧ ((srange (a + L) o.length L).take n).findSome? (fun j => if m ≤ ((gI o j - gI o a).natAbs : Int) then some [a, j] else none) = none) (fun u g => ⟨y2, rfl, ⟨(cz.g.trans gz).trans g⟩, rfl⟩) ?_ ?_
    · intro n b v σ u u2 hb hxu hI gu hrb
      obtain ⟨y2, rfl, cu, hn2⟩ := hI
      cases hrb
      obtain ⟨k, hk, hbl⟩ := (srange_mem (by omega)).mp (List.mem_of_getElem? hb)
      have := Int.mul_nonneg (show (0 : Int) ≤ k by omega) (show 0 ≤ L by omega)
      have hr2 := rp_gr (cu.g.trans gu) hx
      refine s_when (K := K) (et_test (ev_ge (ev_abs (ev_sub (ev_ix (ev_var rfl hr2) (ev_varI rfl) (atI_gI (by omega) (by omega))) (ev_ix (ev_var rfl hr2) (ev_varI rfl) (atI_gI (by omega) (by omega))))) (ev_varI rfl))) (fun ht u3 g3 => ?_) (fun ht u3 g3 => ?_)
      · refine s_retN (K := K) (en_lst (el_cons (ev_varI rfl) (el_cons (ev_varI rfl) el_nil))) fun p u4 g4 n4 o4 => ?_
        refine q1 [a, b] ?_ p u4 (((cu.g.trans gu).trans g3).trans g4) (fr_back ((cu.g.trans gu).trans g3) n4) o4
        unfold apart
        refine seek_hit hn ha (seek_hit hn2 hb ?_)
        rw [if_pos (of_decide_eq_true ht)]
      · dsimp only
        refine nxt ?_ ?_
        · exact gu.s.trans g3.s
        · refine ⟨_, rfl, ⟨(cu.g.trans gu).trans g3⟩, seek_none hn2 hb ?_⟩
          rw [if_neg (of_decide_eq_false ht)]
    · intro σ u hxu hI
      obtain ⟨y2, rfl, cu, hn2⟩ := hI
      dsimp only
      refine nxt ?_ ?_
      · exact gz.s.trans hxu
      · rw [List.take_length] at hn2
        exact ⟨_, _, rfl, cu, seek_none hn ha hn2⟩
  · intro σ z hxz hI
    obtain ⟨y1, y2, rfl, cz, hn⟩ := hI
    rw [List.take_length] at hn
    refine s_ret (K := K) ev_non fun v w' g r => ?_
    cases r
    exact q0 hn w' (cz.g.trans g)
theorem ok_end_days (T : Tx K mg) : FnOk P w K mg base CX0 2 (He.ga K "end_days") T.d_end_days ["offsets", "length", "is_high"] (spN3 K (Rep.list Rep.int) Rep.int Rep.bl (fun o L _ => 1 ≤ L ∧ L ≤ 8 ∧ L ≤ o.length ∧ o.length ≤ 1000) Rep.int ends) := by
  have nd := sc_end_days.nd
  refine okN3 T.F_end_days sc_end_days rfl fun cdv A outer s H E hr => ⟨_, (pss_cons (ps_set (i := 3) nd rfl (Or.inl rfl) (pe_lst pa_nil))
      (pss_cons (ps_for PassesOwn.never rfl (pi_enum (by rfl) T.n_enumerate (pa_cons (pe_call (ok_classes_in T) (hr.mono (by decide)) (by rfl) T.g_classes_in T.F_classes_in.kp (b_classes_in T) .nil pass0 (pa_cons (pv 0) (pa_cons (pv 1) pa_nil))) pa_nil)) (pg_tup rfl (pgs_cons (pg_name (i := 4) nd rfl (Or.inl rfl)) (pgs_cons (pg_name (i := 5) nd rfl (Or.inl rfl)) pgs_nil))) (pss_one (ps_expr (pe_bm PySem.F.plainAttrs_list PySem.F.slot_list_append PySem.F.type_list_append mt_append (pv 3) (pa_cons (pe_op op_add (pv 4) (pe_op op_mulW (pv 1) (pe_bm PySem.F.plainAttrs_list PySem.F.slot_list_index PySem.F.type_list_index mt_index (pv 5) (pa_cons (pe_ifExp (pt_val (pv 2)) (pe_callB (show CallR _ _ (rMax K) from (cr_max rfl)) (by rfl) T.n_max (by decide +kernel) (pa_cons (pv 5) pa_nil)) (pe_callB (show CallR _ _ (rMin K) from (cr_min rfl)) (by rfl) T.n_min (by decide +kernel) (pa_cons (pv 5) pa_nil))) pa_nil)))) pa_nil)))))
      (pss_one (ps_ret (pe_callB (show CallR _ _ (rSortedI K) from cr_sortedI) (by rfl) T.n_sorted (by decide +kernel) (pa_cons (pv 3) pa_nil)))))), fun wd x y z o L hi Q hx hy hz hp q => ?_⟩
  cases hy; cases hz
  refine q_asgN (K := K) (en_lst (e := Rep.int) el_nil) fun p w1 g1 n1 o1 => ?_
  refine q_for2 (K := K) (ei_enum (EvN.d (en_call2 (ev_var rfl (rp_gr g1 hx)) (ev_varI rfl) ⟨hp.1, hp.2.1, hp.2.2.1⟩))) rfl (fun i σ z => ∃ y1 y2 : Option V, σ = [some x, some (.int L), some (.bl hi), some (.ref p), y1, y2] ∧ GrC wd z ∧ OwnL K z p Rep.int ((endsU o L hi).take i)) (fun z g => ⟨none, none, rfl, ⟨g1.trans g⟩, o1.gr g⟩) ?_ ?_
  · intro i a v v' σ z z2 ha hxz hI gz hra hrb
    obtain ⟨y1, y2, rfl, cz, oz⟩ := hI
    rw [enumI_get] at ha
    have hil : i < L.toNat := by
      cases hc : (classes o L)[i]? with
      | none => rw [hc] at ha; cases ha
      | some c =>
        have := (List.getElem?_eq_some_iff.mp hc).1
        unfold classes at this
        rw [List.length_map, irange_len] at this
        omega
    have hc : (classes o L)[i]? = some (cls o L i) := by
      unfold classes
      rw [List.getElem?_map, irange_get (by omega), Int.zero_add]; rfl
    rw [hc] at ha
    cases ha
    cases hra
    replace hrb : (Rep.list Rep.int).r K z2.S v' (cls o L i) := hrb
    have o2 := oz.gr gz
    have hne := cls_ne (o := o) (r := (i : Int)) hp.1 (by omega) (by omega)
    have hlen : (endsU o L hi).length = L.toNat := by unfold endsU; rw [List.length_map, irange_len]; omega
    have hid : (cls o L i).idxOf (exV hi (cls o L i)) < 1000 := by
      have h1 := List.idxOf_lt_length_of_mem (exV_mem (hi := hi) hne)
      have h2 : (cls o L i).length ≤ o.length := by unfold cls; exact stepV_len _ _ _
      omega
    refine s_app (K := K) o2 rfl (ev_add (ev_varI rfl) (ev_mul (ev_varI rfl) (ev_index (x := exV hi (cls o L i)) (ev_var rfl hrb) (ev_ifV (b := hi) (et_test (ev_varB rfl)) (fun _ => ev_maxL (ev_var rfl hrb) hne) (fun _ => ev_minL (ev_var rfl hrb) hne)) (idxOf_get (exV_mem hne)) (fun m y hm hy => idxOf_first hm hy)) (wide_mul (a := 10) (b := 10) (by omega) (by omega) (by decide) (by decide) (by decide)))) (by rw [List.length_take]; omega) fun w4 m4 o4 => ?_
    dsimp only
    refine nxt ?_ ?_
    · exact gz.s.trans m4.s
    · refine ⟨_, _, rfl, gc_mt (gc_gr cz gz) m4 n1, ?_⟩
      have : (endsU o L hi)[i]? = some (endDay o L hi i) := by
        unfold endsU
        rw [List.getElem?_map, irange_get (by omega), Int.zero_add]; rfl
      rw [List.take_add_one, this]
      exact o4
  · intro σ z hxz hI
    obtain ⟨y1, y2, rfl, cz, oz⟩ := hI
    have hlen : (enumI (classes o L)).length = (endsU o L hi).length := by rw [enumI_len]; unfold classes endsU; rw [List.length_map, List.length_map]
    rw [hlen, List.take_length] at oz
    exact s_retN (K := K) (en_sortV oz rfl) fun p2 w2 g2 n2 o2 => q p2 w2 (cz.g.trans g2) (fr_back cz.g n2) o2
theorem ok_conflict_in (T : Tx K mg) : FnOk P w K mg base CX0 3 (He.ga K "conflict_in") T.d_conflict_in ["sums", "length", "most"] (spConf K) := by
  have nd := sc_conflict_in.nd
  refine FunD.ok T.F_conflict_in sc_conflict_in (fun vs H Q E h => by obtain ⟨wd, x, l, L, m, _, rfl, _⟩ := h; rfl) fun cdv A outer s H vs Q E hr h => ⟨_, PSs.nox (pss_cons (ps_set (i := 3) nd rfl (Or.inl rfl) (pe_call (ok_offsets_in T) (hr.mono (by decide)) (by rfl) T.g_offsets_in T.F_offsets_in.kp (b_offsets_in T) .nil pass0 (pa_cons (pv 0) (pa_cons (pv 1) pa_nil))))
      (pss_cons (ps_set (i := 4) nd rfl (Or.inl rfl) (pe_call (ok_apart_days T) (hr.mono (by decide)) (by rfl) T.g_apart_days T.F_apart_days.kp (b_apart_days T) .nil pass0 (pa_cons (pv 3) (pa_cons (pv 1) (pa_cons (pe_op op_add (pv 2) pe_int) pa_nil)))))
      (pss_cons (ps_if (pt_cmpR op_notN (pv 4) pe_non (nomark _)) (pss_one (ps_ret (pe_tup (pa_cons pe_str (pa_cons (pv 4) pa_nil))))) pss_nil)
      (pss_cons (ps_set (i := 4) nd rfl (Or.inl rfl) (pe_call (ok_end_days T) (hr.mono (by decide)) (by rfl) T.g_end_days T.F_end_days.kp (b_end_days T) .nil pass0 (pa_cons (pv 3) (pa_cons (pv 1) (pa_cons pe_bl pa_nil)))))
      (pss_cons (ps_if (pt_cmpR op_lt (pe_call (ok_total_in T) (hr.mono (by decide)) (by rfl) T.g_total_in T.F_total_in.kp (b_total_in T) .nil pass0 (pa_cons (pv 0) (pa_cons (pv 1) (pa_cons (pv 4) pa_nil)))) pe_int (nomark _)) (pss_one (ps_ret (pe_tup (pa_cons pe_str (pa_cons (pv 4) pa_nil))))) pss_nil)
      (pss_cons (ps_set (i := 4) nd rfl (Or.inl rfl) (pe_call (ok_end_days T) (hr.mono (by decide)) (by rfl) T.g_end_days T.F_end_days.kp (b_end_days T) .nil pass0 (pa_cons (pv 3) (pa_cons (pv 1) (pa_cons pe_bl pa_nil)))))
      (pss_cons (ps_if (pt_cmpR op_gt (pe_call (ok_total_in T) (hr.mono (by decide)) (by rfl) T.g_total_in T.F_total_in.kp (b_total_in T) .nil pass0 (pa_cons (pv 0) (pa_cons (pv 1) (pa_cons (pv 4) pa_nil)))) (pe_op op_mulW (pv 1) (pv 2)) (nomark _)) (pss_one (ps_ret (pe_tup (pa_cons pe_str (pa_cons (pv 4) pa_nil))))) pss_nil)
      (pss_one (ps_ret pe_non))))))))), ?_⟩
  try dsimp only [cxOf]
  obtain ⟨wd, x, l, L, m, rfl, rfl, hx, hv, hm0, hm1, q0, q1⟩ := h
  have h1 := hv.ne; have h2 := hv.lo; have h3 := hv.hi; have h4 := hv.days
  have hl := hv.offs
  refine q_asg (K := K) (EvN.d (en_call2 (ev_var rfl hx) (ev_varI rfl) hv)) fun vo w1 g1 ro => ?_
  refine asgX (callO3_run (ev_var rfl ro) (ev_varI rfl) (ev_add (ev_varI rfl) ev_int) ⟨h2, h3, by omega⟩ (fun e w2 g2 => ?_) (fun d e p w2 g2 n2 o2 => ?_))
  · refine q_when (K := K) (et_notNon rfl) (fun h => nomatch h) fun _ w3 g3 => ?_
    have ho3 := rp_gr (g2.trans g3) ro
    have hx3 := rp_gr ((g1.trans g2).trans g3) hx
    refine q_asgN (K := K) (en_call3 (ev_var rfl ho3) (ev_varI rfl) ev_bl ⟨h2, h3, by omega, by omega⟩) fun p w4 g4 n4 o4 => ?_
    refine q_when (K := K) (et_peek o4 fun w5 m5 r5 => et_test (ev_lt (ev_call3 (ev_var rfl (rp_gr g4 hx3 |> rp_mt m5)) (ev_varI rfl) (ev_var rfl r5) ⟨hv, by rw [show (ends (offs l L) L false).length = L.toNat by unfold ends endsU; rw [sortI_len, List.length_map, irange_len]; omega]; omega, fun d hd => ends_mem h2 (by omega) hd⟩) ev_int)) (fun ht w5 g5 => ?_) (fun ht w5 g5 => ?_)
    · refine s_retTO (K := K) rfl fun t w6 g6 n6 a6 => ?_
      refine q1 _ _ ?_ t p w6 (((((g1.trans g2).trans g3).trans g4).trans g5).trans g6) (fr_back ((g1.trans g2).trans g3) n4) a6 ((o4.gr g5).gr g6)
      unfold conf
      rw [e]
      simp only
      rw [if_pos (of_decide_eq_true ht)]
    · have g15 := (((g1.trans g2).trans g3).trans g4).trans g5
      refine q_asgN (K := K) (en_call3 (ev_var rfl (rp_gr (g4.trans g5) ho3)) (ev_varI rfl) ev_bl ⟨h2, h3, by omega, by omega⟩) fun p2 w6 g6 n6 o6 => ?_
      refine q_when (K := K) (et_peek o6 fun w7 m7 r7 => et_test (ev_gt (ev_call3 (ev_var rfl (rp_gr (g15.trans g6) hx |> rp_mt m7)) (ev_varI rfl) (ev_var rfl r7) ⟨hv, by rw [show (ends (offs l L) L true).length = L.toNat by unfold ends endsU; rw [sortI_len, List.length_map, irange_len]; omega]; omega, fun d hd => ends_mem h2 (by omega) hd⟩) (ev_mul (ev_varI rfl) (ev_varI rfl) (wide_mul (a := 10) (b := 110) (by omega) (by omega) (by decide) (by decide) (by decide))))) (fun ht2 w7 g7 => ?_) (fun ht2 w7 g7 => ?_)
      · refine s_retTO (K := K) rfl fun t w8 g8 n8 a8 => ?_
        refine q1 _ _ ?_ t p2 w8 (((g15.trans g6).trans g7).trans g8) (fr_back g15 n6) a8 ((o6.gr g7).gr g8)
        unfold conf
        rw [e]
        simp only
        rw [if_neg (of_decide_eq_false ht), if_pos (of_decide_eq_true ht2)]
      · refine s_ret (K := K) ev_non fun v w8 g8 r8 => ?_
        cases r8
        refine q0 ?_ w8 (((g15.trans g6).trans g7).trans g8)
        unfold conf
        rw [e]
        simp only
        rw [if_neg (of_decide_eq_false ht), if_neg (of_decide_eq_false ht2)]
  · refine q_when (K := K) (et_notRef rfl) (fun _ w3 g3 => ?_) (fun h => nomatch h)
    refine s_retTO (K := K) rfl fun t w4 g4 n4 a4 => ?_
    refine q1 _ _ ?_ t p w4 (((g1.trans g2).trans g3).trans g4) (fr_back g1 n2) a4 ((o2.gr g3).gr g4)
    unfold conf
    rw [e]
theorem ok_need_way (T : Tx K mg) : FnOk P w K mg base CX0 6 (He.ga K "need_way") T.d_need_way ["sums", "length", "most"] (spD3 K (Rep.list Rep.int) Rep.int Rep.int (fun s L m => VS s L ∧ 0 ≤ m ∧ m ≤ 10 ^ 30 - 1 ∧ conf s L m = none) Rep.non (fun _ _ _ => ())) := by
  have nd := sc_need_way.nd
  refine okD3 T.F_need_way sc_need_way rfl fun cdv A outer s H E hr => ⟨_, (pss_cons (ps_expr (pe_call (ok_need_all T) (hr.mono (by decide)) (by rfl) T.g_need_all T.F_need_all.kp (b_need_all T) .nil pass0 (pa_cons (pv 0) (pa_cons (pv 1) (pa_cons (pv 2) pa_nil)))))
      (pss_cons (ps_set (i := 3) nd rfl (Or.inl rfl) (pe_call (ok_conflict_in T) (hr.mono (by decide)) (by rfl) T.g_conflict_in T.F_conflict_in.kp (b_conflict_in T) .nil pass0 (pa_cons (pv 0) (pa_cons (pv 1) (pa_cons (pv 2) pa_nil)))))
      (pss_one (ps_if (pt_cmpR op_notN (pv 3) pe_non (nomark _)) (pss_cons (ps_asg (pv 3) (pg_tup rfl (pgs_cons (pg_name (i := 4) nd rfl (Or.inl rfl)) (pgs_cons (pg_name (i := 5) nd rfl (Or.inl rfl)) pgs_nil))))
      (pss_one ps_never)) pss_nil)))), fun wd x y z l L m Q hx hy hz hp q => ?_⟩
  cases hy; cases hz
  obtain ⟨hv, hm0, hm1, hc⟩ := hp
  refine q_drop (K := K) (ev_call3 (ev_var rfl hx) (ev_varI rfl) (ev_varI rfl) ⟨hv, hm0, hm1⟩) fun w1 g1 => ?_
  refine asgX (conf_run (ev_var rfl (rp_gr g1 hx)) (ev_varI rfl) (ev_varI rfl) hv ⟨hm0, by omega⟩ (fun e w2 g2 => ?_) (fun s d e => by rw [hc] at e; cases e))
  refine s_when (K := K) (et_notNon rfl) (fun h => nomatch h) fun _ w3 g3 => ?_
  exact q .non w3 ((g1.trans g2).trans g3) rfl
end
end WK

namespace WK
open PySem PySem.Spec PyProof.Rows L2
/-! ### ranges -/
structure PreX (s : List Int) (L m : Int) : Prop where
  w : PreW s L m
  x : ∃ x, Way s x L m
structure PreWs (s : List Int) (L m : Int) (ws : List Int) : Prop where
  p : PreX s L m
  l : ws.length = L.toNat
  b : ∀ w ∈ ws, w.natAbs ≤ 200
def PreDs (s : List Int) (L m : Int) (ds : List Int) : Prop := PreX s L m ∧ ds.length ≤ 200 ∧ ∀ d ∈ ds, 0 ≤ d ∧ d < (offs s L).length
def allM (s : List Int) (L m : Int) : List (Int × Int) := (irange 0 (s.length + L - 1)).map fun d => drange s L m [d]
def certM (s : List Int) (L m : Int) : List (Int × Int) := ((enumI (allM s L m)).filter fun x => decide (x.2.1 = x.2.2)).map fun x => (x.1, x.2.1)
def nextM (s : List Int) (L m : Int) : Int × Int := (gI s (s.length - 1) - (drange s L m [s.length - 1]).2, gI s (s.length - 1) - (drange s L m [s.length - 1]).1 + m)
theorem at_last {s : List Int} (h : 1 ≤ s.length) : atI s (-1) = some (gI s (s.length - 1)) := by
  have := atI_neg (l := s) (j := 1) (x := gI s (s.length - 1)) (by decide) (by
    unfold gI
    rw [show ((s.length : Int) - 1).toNat = s.length - 1 by omega]
    exact getD_some (by omega)) h
  exact this
theorem offs_len2 {s : List Int} {L : Int} (v : VS s L) : ((offs s L).length : Int) = s.length + L - 1 := v.offs
theorem wfold_len {L : Int} : ∀ (ds : List Int) (w0 : List Int), (ds.foldl (fun (ws : List Int) d => ws.set (d % L).toNat (gI ws (d % L) + 1)) w0).length = w0.length
  | [], _ => rfl
  | d :: ds, w0 => by rw [List.foldl_cons, wfold_len ds, List.length_set]
section
variable {P : Program} {w : World} {K : PySem.W.Frag} {mg : Str → Option Value} {base : Heap}
theorem ok_need_day (T : Tx K mg) : FnOk P w K mg base CX0 2 (He.ga K "need_day") T.d_need_day ["day", "count"] (spD2 K Rep.int Rep.int (fun d c => 0 ≤ d ∧ d < c) Rep.non (fun _ _ => ())) := by
  have nd := sc_need_day.nd
  refine okD2 T.F_need_day sc_need_day rfl fun cdv A outer s H E hr => ⟨_, (pss_one (ps_if (pt_not (pt_chain op_le op_lt pe_int (pv 0) (pv 1))) (pss_one ps_never) pss_nil)), fun wd x y d c Q hx hy hp q => ?_⟩
  cases hx; cases hy
  refine s_when (K := K) (b := false) (EvT.eq (et_not (et_test (ev_leLt ev_int (ev_varI rfl) (ev_varI rfl)))) (by simp [hp.1, hp.2])) (fun h => nomatch h) fun _ w' g => ?_
  exact q .non w' g rfl
theorem ok_day_count (T : Tx K mg) : FnOk P w K mg base CX0 1 (He.ga K "day_count") T.d_day_count ["sums", "length"] (spD2 K (Rep.list Rep.int) Rep.int (fun _ _ => True) Rep.int (fun s L => s.length + L - 1)) := by
  have nd := sc_day_count.nd
  refine okD2 T.F_day_count sc_day_count rfl fun cdv A outer s H E hr => ⟨_, (pss_one (ps_ret (pe_op op_sub (pe_op op_add (pe_callB (show CallR _ _ (Evl.rLenS K) from call_len_seq) (by rfl) T.n_len (by decide +kernel) (pa_cons (pv 0) pa_nil)) (pv 1)) pe_int))), fun wd x y l L Q hx hy hp q => ?_⟩
  cases hy
  exact s_ret (K := K) (ev_sub (ev_add (ev_len (ev_var rfl hx)) (ev_varI rfl)) ev_int) fun v w' g r => q v w' g r
theorem ok_bounds_in (T : Tx K mg) : FnOk P w K mg base CX0 2 (He.ga K "bounds_in") T.d_bounds_in ["sums", "length", "most"] (spD3 K (Rep.list Rep.int) Rep.int Rep.int (fun s L _ => VS s L) (Rep.pair (Rep.list Rep.int) (Rep.list Rep.int)) (fun s L m => (lowsM s L, highsM s L m))) := by
  have nd := sc_bounds_in.nd
  refine okD3 T.F_bounds_in sc_bounds_in rfl fun cdv A outer s H E hr => ⟨_, (pss_cons (ps_set (i := 3) nd rfl (Or.inl rfl) (pe_call (ok_classes_in T) (hr.mono (by decide)) (by rfl) T.g_classes_in T.F_classes_in.kp (b_classes_in T) .nil pass0 (pa_cons (pe_call (ok_offsets_in T) (hr.mono (by decide)) (by rfl) T.g_offsets_in T.F_offsets_in.kp (b_offsets_in T) .nil pass0 (pa_cons (pv 0) (pa_cons (pv 1) pa_nil))) (pa_cons (pv 1) pa_nil))))
      (pss_one (ps_ret (pe_tup (pa_cons (pe_lc (own := [("offsets", 4)]) (g := gName 4) (tt := tYes) rfl nd (pi_list (pv 3)) (blkOk_by (own := [("offsets", 4)]) (N := ["sums", "length", "most", "classes", "offsets"]) (sc := defScope s_bounds_in) (by decide +kernel)) (fun _ _ _ _ _ => (pg_name (i := 4) nd rfl (by first | exact Or.inl rfl | exact Or.inr rfl))) (fun _ _ _ _ _ => pts_nil) (fun _ _ _ _ _ => (pe_op op_sub pe_int (pe_callB (show CallR _ _ (rMin K) from (cr_min rfl)) (by rfl) T.n_min (by decide +kernel) (pa_cons (pv 4) pa_nil))))) (pa_cons (pe_lc (own := [("offsets", 4)]) (g := gName 4) (tt := tYes) rfl nd (pi_list (pv 3)) (blkOk_by (own := [("offsets", 4)]) (N := ["sums", "length", "most", "classes", "offsets"]) (sc := defScope s_bounds_in) (by decide +kernel)) (fun _ _ _ _ _ => (pg_name (i := 4) nd rfl (by first | exact Or.inl rfl | exact Or.inr rfl))) (fun _ _ _ _ _ => pts_nil) (fun _ _ _ _ _ => (pe_op op_sub (pv 2) (pe_callB (show CallR _ _ (rMax K) from (cr_max rfl)) (by rfl) T.n_max (by decide +kernel) (pa_cons (pv 4) pa_nil))))) pa_nil)))))), fun wd x y z l L m Q hx hy hz hv q => ?_⟩
  cases hy; cases hz
  have hl := hv.offs
  have h1 := hv.ne; have h2 := hv.lo; have h3 := hv.hi; have h4 := hv.days
  have hcl : (classes (offs l L) L).length ≤ 100000 := by unfold classes; rw [List.length_map, irange_len]; omega
  have hne : ∀ c ∈ classes (offs l L) L, c ≠ [] := fun c hc => by
    unfold classes at hc
    obtain ⟨r, hr, rfl⟩ := List.mem_map.mp hc
    have := irange_mem.mp hr
    exact vs_cls_ne hv this.1 this.2
  refine q_asg (K := K) (EvN.d (en_call2 (EvN.d (en_call2 (ev_var rfl hx) (ev_varI rfl) hv)) (ev_varI rfl) ⟨h2, h3, by omega⟩)) fun vc w1 g1 rc => ?_
  refine s_ret (K := K) (ev_pair (EvN.d (en_lc (e' := Rep.int) hcl (fun c => 0 - minL c) (ei_list (ev_var rfl rc)) (fun _ => rfl) fun a v w' ha g r => ev_sub ev_int (ev_minL (ev_var rfl r) (hne a ha)))) (EvN.d (en_lc (e' := Rep.int) hcl (fun c => m - maxL c) (ei_list (ev_var rfl rc)) (fun _ => rfl) fun a v w' ha g r => ev_sub (ev_varI rfl) (ev_maxL (ev_var rfl r) (hne a ha))))) fun v w' g r => q v w' (g1.trans g) r
theorem ok_weighed (T : Tx K mg) : FnOk P w K mg base CX0 1 (He.ga K "weighed") T.d_weighed ["weights", "lows", "highs", "total"] (spD4 K (Rep.list Rep.int) (Rep.list Rep.int) (Rep.list Rep.int) Rep.int GOK Rep.int (fun ws lo hi tot => weighedM lo hi ws tot)) := by
  have nd := sc_weighed.nd
  refine okD4 T.F_weighed sc_weighed rfl fun cdv A outer s H E hr => ⟨_, (pss_cons (ps_set (i := 4) nd rfl (Or.inl rfl) (pe_op op_sub (pv 3) (pe_callB (show CallR _ _ (rSum K) from (cr_sum rfl)) (by rfl) T.n_sum (by decide +kernel) (pa_cons (pv 1) pa_nil))))
      (pss_cons (ps_set (i := 5) nd rfl (Or.inl rfl) (pe_callB (show CallR _ _ (rSum K) from (cr_sum rfl)) (by rfl) T.n_sum (by decide +kernel) (pa_cons (pe_lc (own := [("weight", 6), ("low", 9)]) (g := gTup K 2 (gCons (gName 6) (gCons (gName 9) gNil))) (tt := tYes) rfl nd (pi_zip (by rfl) T.n_zip (pa_cons (pv 0) (pa_cons (pv 1) pa_nil))) (blkOk_by (own := [("weight", 6), ("low", 9)]) (N := ["weights", "lows", "highs", "total", "left", "found", "weight", "place", "more", "low"]) (sc := defScope s_weighed) (by decide +kernel)) (fun _ _ _ _ _ => (pg_tup rfl (pgs_cons (pg_name (i := 6) nd rfl (by first | exact Or.inl rfl | exact Or.inr rfl)) (pgs_cons (pg_name (i := 9) nd rfl (by first | exact Or.inl rfl | exact Or.inr rfl)) pgs_nil)))) (fun _ _ _ _ _ => pts_nil) (fun _ _ _ _ _ => (pe_op op_mulW (pv 6) (pv 9)))) pa_nil)))
      (pss_cons (ps_for PassesOwn.never rfl (pi_list (pe_callB (show CallR _ _ (rSortedPO K) from cr_sortedPO) (by rfl) T.n_sorted (by decide +kernel) (pa_cons (pe_lc (own := [("place", 7), ("weight", 6)]) (g := gTup K 2 (gCons (gName 7) (gCons (gName 6) gNil))) (tt := tYes) rfl nd (pi_enum (by rfl) T.n_enumerate (pa_cons (pv 0) pa_nil)) (blkOk_by (own := [("place", 7), ("weight", 6)]) (N := ["weights", "lows", "highs", "total", "left", "found", "weight", "place", "more", "low"]) (sc := defScope s_weighed) (by decide +kernel)) (fun _ _ _ _ _ => (pg_tup rfl (pgs_cons (pg_name (i := 7) nd rfl (by first | exact Or.inl rfl | exact Or.inr rfl)) (pgs_cons (pg_name (i := 6) nd rfl (by first | exact Or.inl rfl | exact Or.inr rfl)) pgs_nil)))) (fun _ _ _ _ _ => pts_nil) (fun _ _ _ _ _ => (pe_tup (pa_cons (pv 6) (pa_cons (pv 7) pa_nil))))) pa_nil))) (pg_tup rfl (pgs_cons (pg_name (i := 6) nd rfl (Or.inl rfl)) (pgs_cons (pg_name (i := 7) nd rfl (Or.inl rfl)) pgs_nil))) (pss_cons (ps_set (i := 8) nd rfl (Or.inl rfl) (pe_callB (call_min2 rfl) (by rfl) T.n_min (by decide +kernel) (pa_cons (pv 4) (pa_cons (pe_op op_sub (pe_ix (show IxR _ (rIxL K) from ix_list) (pv 2) (pv 7) (fun _ _ => rfl)) (pe_ix (show IxR _ (rIxL K) from ix_list) (pv 1) (pv 7) (fun _ _ => rfl))) pa_nil))))
      (pss_cons (ps_aug (i := 5) nd rfl (Or.inl rfl) (pe_op op_mulW (pv 6) (pv 8)) ip_add)
      (pss_one (ps_aug (i := 4) nd rfl (Or.inl rfl) (pv 8) ip_sub)))))
      (pss_one (ps_ret (pv 5)))))), fun wd x0 x1 x2 x3 ws lo hi tot Q hws hlo hhi htot gk q => ?_⟩
  cases htot
  have n1 := gk.l1; have n2 := gk.l2; have n3 := gk.l3
  have mulw : ∀ a b : Int, a.natAbs ≤ 200 → b.natAbs ≤ 8 * 10 ^ 30 → CMulW a b := fun a b ha hb => wide_mul (a := 8) (b := 110) (by omega) (by omega) (by decide) (by decide) (by decide)
  refine q_asg (K := K) (ev_sub (ev_varI rfl) (ev_sum (ev_var rfl hlo))) fun v w1 g1 r1 => ?_
  cases r1
  refine q_asg (K := K) (EvD.eq (ev_sum (EvN.d (en_lc2 (e' := Rep.int) (by rw [List.length_zip]; omega) (fun p => p.1 * p.2) (ei_zip (ev_var rfl (rp_gr g1 hws)) (ev_var rfl (rp_gr g1 hlo))) (fun _ _ => rfl) rfl fun a v v' w' ha g r r' => by
    cases r; cases r'
    obtain ⟨i, hi⟩ := List.mem_iff_getElem?.mp ha
    obtain ⟨h1, h2⟩ := List.getElem?_zip_eq_some.mp hi
    have a1 := gk.w _ (List.mem_of_getElem? h1)
    have a2 := gk.b _ (List.mem_of_getElem? h2)
    exact ev_mul (ev_varI rfl) (ev_varI rfl) (mulw _ _ a1 (by omega))))) (show _ = dot ws lo from rfl)) fun v w2 g2 r2 => ?_
  cases r2
  have g12 := g1.trans g2
  refine q_for2 (K := K) (ei_list (EvD.gr_tup (EvN.d (en_sortP (EvN.d (en_lc2 (e' := Rep.tupI) (by rw [enumI_len]; omega) (fun p => (p.2, p.1)) (ei_enum (ev_var rfl (rp_gr g12 hws))) (fun _ _ => rfl) rfl fun a v v' w' ha g r r' => by
    cases r; cases r'
    exact ev_tupI (ev_varI rfl) (ev_varI rfl))))))) rfl (fun i σ z => ∃ y6 y7 y8 y9 : Option V, σ = [some x0, some x1, some x2, some (.int tot), some (.int (((sortP (prs ws)).take i).foldl (gstep lo hi) (dot ws lo, tot - lo.sum)).2), some (.int (((sortP (prs ws)).take i).foldl (gstep lo hi) (dot ws lo, tot - lo.sum)).1), y6, y7, y8, y9] ∧ Gr wd z) (fun z g => ⟨none, none, none, none, rfl, g12.trans g⟩) ?_ ?_
  · intro i a v v' σ z z2 ha hxz hI gz hra hrb
    obtain ⟨y6, y7, y8, y9, rfl, cz⟩ := hI
    cases hra; cases hrb
    replace ha : (sortP (prs ws))[i]? = some a := ha
    have hst := fold_take (f := gstep lo hi) (b := (dot ws lo, tot - lo.sum)) ha
    have hb := gk.fold i
    obtain ⟨p0, p1, p2⟩ := prs_mem ((sortP_perm _).mem_iff.mp (List.mem_of_getElem? ha))
    have hwa : a.1.natAbs ≤ 200 := by rw [p2]; exact getD_bd gk.w _
    rw [hst]
    generalize ((sortP (prs ws)).take i).foldl (gstep lo hi) (dot ws lo, tot - lo.sum) = st at hb ⊢
    have g02 := cz.trans gz
    have hc := gk.c a.2
    have hr1 := rp_gr g02 hlo
    have hr2 := rp_gr g02 hhi
    refine q_asg (K := K) (EvD.eq (ev_min2 (ev_varI rfl) (ev_sub (ev_ix (ev_var rfl hr2) (ev_varI rfl) (atI_gI p0 (by omega))) (ev_ix (ev_var rfl hr1) (ev_varI rfl) (atI_gI p0 (by omega))))) (show _ = min st.2 (capM lo hi a.2) from rfl)) fun v3 z3 g3 r3 => ?_
    cases r3
    refine q_aug (K := K) (f := fun i j => i + j) rfl (ev_mul (ev_varI rfl) (ev_varI rfl) (mulw _ _ hwa (by omega))) fun z4 g4 => ?_
    refine s_aug (K := K) (f := fun i j => i - j) rfl (ev_varI rfl) fun z5 g5 => ?_
    dsimp only
    refine nxt ?_ ?_
    · exact (gz.trans ((g3.trans g4).trans g5)).s
    · exact ⟨_, _, _, _, rfl, g02.trans ((g3.trans g4).trans g5)⟩
  · intro σ z hxz hI
    obtain ⟨y6, y7, y8, y9, rfl, cz⟩ := hI
    rw [show (sortP (List.map (fun p => (p.2, p.1)) (enumI ws))).length = (sortP (prs ws)).length from rfl, List.take_length]
    exact s_ret (K := K) (ev_varI rfl) fun v w' g r => q v w' (cz.trans g) r
theorem ok_weighed_range (T : Tx K mg) : FnOk P w K mg base CX0 3 (He.ga K "weighed_range") T.d_weighed_range ["sums", "length", "most", "weights", "more"] (spD5 K (Rep.list Rep.int) Rep.int Rep.int (Rep.list Rep.int) Rep.int (fun s L m ws _ => PreWs s L m ws) (Rep.pair Rep.int Rep.int) rangeM) := by
  have nd := sc_weighed_range.nd
  refine okD5 T.F_weighed_range sc_weighed_range rfl fun cdv A outer s H E hr => ⟨_, (pss_cons (ps_asg (pe_call (ok_bounds_in T) (hr.mono (by decide)) (by rfl) T.g_bounds_in T.F_bounds_in.kp (b_bounds_in T) .nil pass0 (pa_cons (pv 0) (pa_cons (pv 1) (pa_cons (pv 2) pa_nil)))) (pg_tup rfl (pgs_cons (pg_name (i := 5) nd rfl (Or.inl rfl)) (pgs_cons (pg_name (i := 6) nd rfl (Or.inl rfl)) pgs_nil))))
      (pss_cons (ps_set (i := 7) nd rfl (Or.inl rfl) (pe_call (ok_weighed T) (hr.mono (by decide)) (by rfl) T.g_weighed T.F_weighed.kp (b_weighed T) .nil pass0 (pa_cons (pv 3) (pa_cons (pv 5) (pa_cons (pv 6) (pa_cons (pe_ix (show IxR _ (rIxL K) from ix_list) (pv 0) pe_int (fun _ _ => rfl)) pa_nil))))))
      (pss_cons (ps_set (i := 8) nd rfl (Or.inl rfl) (pe_op op_sub pe_int (pe_call (ok_weighed T) (hr.mono (by decide)) (by rfl) T.g_weighed T.F_weighed.kp (b_weighed T) .nil pass0 (pa_cons (pe_lc (own := [("weight", 9)]) (g := gName 9) (tt := tYes) rfl nd (pi_list (pv 3)) (blkOk_by (own := [("weight", 9)]) (N := ["sums", "length", "most", "weights", "more", "lows", "highs", "least", "greatest", "weight"]) (sc := defScope s_weighed_range) (by decide +kernel)) (fun _ _ _ _ _ => (pg_name (i := 9) nd rfl (by first | exact Or.inl rfl | exact Or.inr rfl))) (fun _ _ _ _ _ => pts_nil) (fun _ _ _ _ _ => (pe_op op_sub pe_int (pv 9)))) (pa_cons (pv 5) (pa_cons (pv 6) (pa_cons (pe_ix (show IxR _ (rIxL K) from ix_list) (pv 0) pe_int (fun _ _ => rfl)) pa_nil)))))))
      (pss_one (ps_ret (pe_tup (pa_cons (pe_op op_add (pv 7) (pv 4)) (pa_cons (pe_op op_add (pv 8) (pv 4)) pa_nil)))))))), fun wd x y z u v l L m ws more Q hx hy hz hu hv hp q => ?_⟩
  cases hy; cases hz; cases hv
  obtain ⟨xs, hw⟩ := hp.p.x
  have hvs := hp.p.w.1
  have h1 := hvs.ne; have h3 := hvs.hi
  have gk := gok hw hvs (by have := hp.p.w.2.2.1; omega) hp.l hp.b
  refine q_unpack (K := K) (ev_call3 (ev_var rfl hx) (ev_varI rfl) (ev_varI rfl) hvs) rfl fun va vb w1 g1 ra rb => ?_
  refine q_asg (K := K) (ev_call4 (ev_var rfl (rp_gr g1 hu)) (ev_var rfl ra) (ev_var rfl rb) (ev_ix (ev_var rfl (rp_gr g1 hx)) ev_int (atI_gI (by omega) (by omega))) gk) fun v2 w2 g2 r2 => ?_
  cases r2
  have g12 := g1.trans g2
  refine q_asg (K := K) (ev_sub ev_int (ev_call4 (EvN.d (en_lc (e' := Rep.int) (by have := hp.l; omega) (fun w => 0 - w) (ei_list (ev_var rfl (rp_gr g12 hu))) (fun _ => rfl) fun a v w' ha g r => by
    cases r
    exact ev_sub ev_int (ev_varI rfl))) (ev_var rfl (rp_gr g2 ra)) (ev_var rfl (rp_gr g2 rb)) (ev_ix (ev_var rfl (rp_gr g12 hx)) ev_int (atI_gI (by omega) (by omega))) gk.neg)) fun v3 w3 g3 r3 => ?_
  cases r3
  exact s_ret (K := K) (ev_pair (ev_add (ev_varI rfl) (ev_varI rfl)) (ev_add (ev_varI rfl) (ev_varI rfl))) fun v w' g r => q v w' ((g12.trans g3).trans g) r
theorem ok_range_of_days (T : Tx K mg) : FnOk P w K mg base CX0 4 (He.ga K "range_of_days") T.d_range_of_days ["sums", "length", "most", "days"] (spD4 K (Rep.list Rep.int) Rep.int Rep.int (Rep.list Rep.int) PreDs (Rep.pair Rep.int Rep.int) drange) := by
  have nd := sc_range_of_days.nd
  refine okD4 T.F_range_of_days sc_range_of_days rfl fun cdv A outer s H E hr => ⟨_, (pss_cons (ps_asg (pe_tup (pa_cons (pe_call (ok_offsets_in T) (hr.mono (by decide)) (by rfl) T.g_offsets_in T.F_offsets_in.kp (b_offsets_in T) .nil pass0 (pa_cons (pv 0) (pa_cons (pv 1) pa_nil))) (pa_cons (pe_op op_rep (pe_lst (pa_cons pe_int pa_nil)) (pv 1)) pa_nil))) (pg_tup rfl (pgs_cons (pg_name (i := 4) nd rfl (Or.inr rfl)) (pgs_cons (pg_name (i := 5) nd rfl (Or.inl rfl)) pgs_nil))))
      (pss_cons (ps_for PassesOwn.never rfl (pi_list (pv 3)) (pg_name (i := 6) nd rfl (Or.inl rfl)) (pss_one (ps_augS (pv 5) (pe_op op_mod (pv 6) (pv 1)) get_list pe_int ip_add set_list)))
      (pss_one (ps_ret (pe_call (ok_weighed_range T) (hr.mono (by decide)) (by rfl) T.g_weighed_range T.F_weighed_range.kp (b_weighed_range T) .nil pass0 (pa_cons (pv 0) (pa_cons (pv 1) (pa_cons (pv 2) (pa_cons (pv 5) (pa_cons (pe_callB (show CallR _ _ (rSum K) from (cr_sum rfl)) (by rfl) T.n_sum (by decide +kernel) (pa_cons (pe_lc (own := [("day", 6)]) (g := gName 6) (tt := tYes) rfl nd (pi_list (pv 3)) (blkOk_by (own := [("day", 6)]) (N := ["sums", "length", "most", "days", "offsets", "weights", "day"]) (sc := defScope s_range_of_days) (by decide +kernel)) (fun _ _ _ _ _ => (pg_name (i := 6) nd rfl (by first | exact Or.inl rfl | exact Or.inr rfl))) (fun _ _ _ _ _ => pts_nil) (fun _ _ _ _ _ => (pe_ix (show IxR _ (rIxL K) from ix_list) (pv 4) (pv 6) (fun _ _ => rfl)))) pa_nil)) pa_nil)))))))))), fun wd x y z u l L m ds Q hx hy hz hu hp q => ?_⟩
  cases hy; cases hz
  obtain ⟨hpx, hn, hd⟩ := hp
  have hvs := hpx.w.1
  have h1 := hvs.ne; have h2 := hvs.lo; have h3 := hvs.hi; have h4 := hvs.days
  refine q_tupVN (K := K) (EvN.d (en_call2 (ev_var rfl hx) (ev_varI rfl) hvs)) (en_rep (en_lst (e := Rep.int) (el_cons ev_int el_nil)) (ev_varI rfl) ⟨by omega, by simp; omega, by omega⟩) rfl fun vo p w1 g1 ro n1 o1 => ?_
  have e0 : (List.replicate L.toNat ([0] : List Int)).flatten = List.replicate L.toNat 0 := by simp
  rw [e0] at o1
  refine q_for (K := K) (ei_list (ev_var rfl (rp_gr g1 hu))) (fun i σ z => ∃ y6 : Option V, σ = [some x, some (.int L), some (.int m), some u, some vo, some (.ref p), y6] ∧ GrC wd z ∧ OwnL K z p Rep.int ((ds.take i).foldl (fun ws d => ws.set (d % L).toNat (gI ws (d % L) + 1)) (List.replicate L.toNat 0))) (fun z g => ⟨none, rfl, ⟨g1.trans g⟩, o1.gr g⟩) ?_ ?_
  · intro i a v σ z z2 ha hxz hI gz hra
    obtain ⟨y6, rfl, cz, oz⟩ := hI
    cases hra
    have hst := fold_take (f := fun (ws : List Int) d => ws.set (d % L).toNat (gI ws (d % L) + 1)) (b := List.replicate L.toNat 0) ha
    have hlen := wfold_len (L := L) (ds.take i) (List.replicate L.toNat 0)
    rw [List.length_replicate] at hlen
    rw [hst]
    generalize (ds.take i).foldl (fun ws d => ws.set (d % L).toNat (gI ws (d % L) + 1)) (List.replicate L.toNat 0) = W at hlen oz ⊢
    have m0 := Int.emod_nonneg a (show L ≠ 0 by omega)
    have m1 := Int.emod_lt_of_pos a (show 0 < L by omega)
    refine s_augO (K := K) (f := fun i j => i + j) (oz.gr gz) rfl (ev_mod (ev_varI rfl) (ev_varI rfl) (by omega)) ev_int ⟨m0, by omega⟩ fun w4 m4 o4 => ?_
    dsimp only
    refine nxt ?_ ?_
    · exact gz.s.trans m4.s
    · exact ⟨_, rfl, gc_mt (gc_gr cz gz) m4 n1, o4⟩
  · intro σ z hxz hI
    obtain ⟨y6, rfl, cz, oz⟩ := hI
    rw [List.take_length] at oz
    obtain ⟨w2, e2, m2, r2⟩ := oz.fix
    rw [← e2]
    have g2 : Gr wd w2 := m2.gr wd cz.g n1
    have ro2 := rp_mt m2 (rp_ex hxz ro)
    refine s_ret (K := K) (ev_call5 (ev_var rfl (rp_gr g2 hx)) (ev_varI rfl) (ev_varI rfl) (ev_var rfl r2) (ev_sum (EvN.d (en_lc (e' := Rep.int) (by omega) (gI (offs l L)) (ei_list (ev_var rfl (rp_gr g2 hu))) (fun _ => rfl) fun a v w' ha g r => by
      cases r
      exact ev_ix (ev_var rfl (rp_gr g ro2)) (ev_varI rfl) (atI_gI (hd a ha).1 (hd a ha).2)))) ⟨hpx, wts_len, fun w hw => Nat.le_trans (wts_bd w hw) hn⟩) fun v w' g r => q v w' (g2.trans g) r
theorem ok_range_in (T : Tx K mg) : FnOk P w K mg base CX0 5 (He.ga K "range_in") T.d_range_in ["sums", "length", "most", "day"] (spD4 K (Rep.list Rep.int) Rep.int Rep.int Rep.int (fun s L m d => PreX s L m ∧ 0 ≤ d ∧ d < (offs s L).length) (Rep.pair Rep.int Rep.int) (fun s L m d => drange s L m [d])) := by
  have nd := sc_range_in.nd
  refine okD4 T.F_range_in sc_range_in rfl fun cdv A outer s H E hr => ⟨_, (pss_one (ps_ret (pe_call (ok_range_of_days T) (hr.mono (by decide)) (by rfl) T.g_range_of_days T.F_range_of_days.kp (b_range_of_days T) .nil pass0 (pa_cons (pv 0) (pa_cons (pv 1) (pa_cons (pv 2) (pa_cons (pe_lst (pa_cons (pv 3) pa_nil)) pa_nil))))))), fun wd x y z u l L m d Q hx hy hz hu hp q => ?_⟩
  cases hy; cases hz; cases hu
  exact s_ret (K := K) (ev_call4 (ev_var rfl hx) (ev_varI rfl) (ev_varI rfl) (EvN.d (en_lst (el_cons (ev_varI rfl) el_nil))) ⟨hp.1, by show 1 ≤ 200; decide, fun a ha => by rw [List.mem_singleton.mp ha]; exact hp.2⟩) fun v w' g r => q v w' g r
theorem ok_next_in (T : Tx K mg) : FnOk P w K mg base CX0 6 (He.ga K "next_in") T.d_next_in ["sums", "length", "most"] (spD3 K (Rep.list Rep.int) Rep.int Rep.int PreX (Rep.pair Rep.int Rep.int) nextM) := by
  have nd := sc_next_in.nd
  refine okD3 T.F_next_in sc_next_in rfl fun cdv A outer s H E hr => ⟨_, (pss_cons (ps_asg (pe_call (ok_range_in T) (hr.mono (by decide)) (by rfl) T.g_range_in T.F_range_in.kp (b_range_in T) .nil pass0 (pa_cons (pv 0) (pa_cons (pv 1) (pa_cons (pv 2) (pa_cons (pe_op op_sub (pe_callB (show CallR _ _ (Evl.rLenS K) from call_len_seq) (by rfl) T.n_len (by decide +kernel) (pa_cons (pv 0) pa_nil)) pe_int) pa_nil))))) (pg_tup rfl (pgs_cons (pg_name (i := 3) nd rfl (Or.inl rfl)) (pgs_cons (pg_name (i := 4) nd rfl (Or.inl rfl)) pgs_nil))))
      (pss_one (ps_ret (pe_tup (pa_cons (pe_op op_sub (pe_ix (show IxR _ (rIxL K) from ix_list) (pv 0) (pe_un un_neg pe_int) (fun _ _ => rfl)) (pv 4)) (pa_cons (pe_op op_add (pe_op op_sub (pe_ix (show IxR _ (rIxL K) from ix_list) (pv 0) (pe_un un_neg pe_int) (fun _ _ => rfl)) (pv 3)) (pv 2)) pa_nil)))))), fun wd x y z l L m Q hx hy hz hp q => ?_⟩
  cases hy; cases hz
  have hvs := hp.w.1
  have hl := hvs.offs; have h1 := hvs.ne; have h2 := hvs.lo
  refine q_unpack (K := K) (ev_call4 (ev_var rfl hx) (ev_varI rfl) (ev_varI rfl) (ev_sub (ev_len (ev_var rfl hx)) ev_int) ⟨hp, by omega, by omega⟩) rfl fun va vb w1 g1 ra rb => ?_
  cases ra; cases rb
  have hx1 := rp_gr g1 hx
  exact s_ret (K := K) (ev_pair (ev_sub (ev_ix (ev_var rfl hx1) (ev_neg ev_int) (at_last h1)) (ev_varI rfl)) (ev_add (ev_sub (ev_ix (ev_var rfl hx1) (ev_neg ev_int) (at_last h1)) (ev_varI rfl)) (ev_varI rfl))) fun v w' g r => q v w' (g1.trans g) r
theorem ok_day_range (T : Tx K mg) : FnOk P w K mg base CX0 7 (He.ga K "day_range") T.d_day_range ["sums", "length", "most", "day"] (spD4 K (Rep.list Rep.int) Rep.int Rep.int Rep.int (fun s L m d => PreX s L m ∧ 0 ≤ d ∧ d < (offs s L).length) (Rep.pair Rep.int Rep.int) (fun s L m d => drange s L m [d])) := by
  have nd := sc_day_range.nd
  refine okD4 T.F_day_range sc_day_range rfl fun cdv A outer s H E hr => ⟨_, (pss_cons (ps_expr (pe_call (ok_need_all T) (hr.mono (by decide)) (by rfl) T.g_need_all T.F_need_all.kp (b_need_all T) .nil pass0 (pa_cons (pv 0) (pa_cons (pv 1) (pa_cons (pv 2) pa_nil)))))
      (pss_cons (ps_expr (pe_call (ok_need_day T) (hr.mono (by decide)) (by rfl) T.g_need_day T.F_need_day.kp (b_need_day T) .nil pass0 (pa_cons (pv 3) (pa_cons (pe_call (ok_day_count T) (hr.mono (by decide)) (by rfl) T.g_day_count T.F_day_count.kp (b_day_count T) .nil pass0 (pa_cons (pv 0) (pa_cons (pv 1) pa_nil))) pa_nil))))
      (pss_cons (ps_expr (pe_call (ok_need_way T) (hr.mono (by decide)) (by rfl) T.g_need_way T.F_need_way.kp (b_need_way T) .nil pass0 (pa_cons (pv 0) (pa_cons (pv 1) (pa_cons (pv 2) pa_nil)))))
      (pss_one (ps_ret (pe_call (ok_range_in T) (hr.mono (by decide)) (by rfl) T.g_range_in T.F_range_in.kp (b_range_in T) .nil pass0 (pa_cons (pv 0) (pa_cons (pv 1) (pa_cons (pv 2) (pa_cons (pv 3) pa_nil)))))))))), fun wd x y z u l L m d Q hx hy hz hu hp q => ?_⟩
  cases hy; cases hz; cases hu
  have hl := hp.1.w.1.offs
  refine q_drop (K := K) (ev_call3 (ev_var rfl hx) (ev_varI rfl) (ev_varI rfl) ⟨hp.1.w.1, hp.1.w.2.1, hp.1.w.2.2.1⟩) fun w1 g1 => ?_
  refine q_drop (K := K) (ev_call2 (ev_varI rfl) (ev_call2 (ev_var rfl (rp_gr g1 hx)) (ev_varI rfl) trivial) ⟨hp.2.1, by omega⟩) fun w2 g2 => ?_
  refine q_drop (K := K) (ev_call3 (ev_var rfl (rp_gr (g1.trans g2) hx)) (ev_varI rfl) (ev_varI rfl) hp.1.w) fun w3 g3 => ?_
  have g := (g1.trans g2).trans g3
  exact s_ret (K := K) (ev_call4 (ev_var rfl (rp_gr g hx)) (ev_varI rfl) (ev_varI rfl) (ev_varI rfl) hp) fun v w' g4 r => q v w' (g.trans g4) r
end
end WK

namespace WK
open PySem PySem.Spec PyProof.Rows L2
section
variable {P : Program} {w : World} {K : PySem.W.Frag} {mg : Str → Option Value} {base : Heap}
theorem ok_all_in (T : Tx K mg) : FnOk P w K mg base CX0 6 (He.ga K "all_in") T.d_all_in ["sums", "length", "most"] (spN3 K (Rep.list Rep.int) Rep.int Rep.int PreX (Rep.pair Rep.int Rep.int) allM) := by
  have nd := sc_all_in.nd
  refine okN3 T.F_all_in sc_all_in rfl fun cdv A outer s H E hr => ⟨_, (pss_one (ps_ret (pe_lc (own := [("day", 3)]) (g := gName 3) (tt := tYes) rfl nd (pi_range1 (by rfl) T.n_range (pa_cons (pe_call (ok_day_count T) (hr.mono (by decide)) (by rfl) T.g_day_count T.F_day_count.kp (b_day_count T) .nil pass0 (pa_cons (pv 0) (pa_cons (pv 1) pa_nil))) pa_nil)) (blkOk_by (own := [("day", 3)]) (N := ["sums", "length", "most", "day"]) (sc := defScope s_all_in) (by decide +kernel)) (fun _ _ _ _ _ => (pg_name (i := 3) nd rfl (by first | exact Or.inl rfl | exact Or.inr rfl))) (fun _ _ _ _ _ => pts_nil) (fun _ _ _ _ _ => (pe_call (ok_range_in T) (hr.mono (by decide)) (by rfl) T.g_range_in T.F_range_in.kp (b_range_in T) .nil pass0 (pa_cons (pv 0) (pa_cons (pv 1) (pa_cons (pv 2) (pa_cons (pv 3) pa_nil))))))))), fun wd x y z l L m Q hx hy hz hp q => ?_⟩
  cases hy; cases hz
  have hl := hp.w.1.offs; have h1 := hp.w.1.ne; have h2 := hp.w.1.lo; have h4 := hp.w.1.days
  refine s_retN (K := K) (en_lc (e' := Rep.pair Rep.int Rep.int) (by rw [irange_len]; omega) (fun d => drange l L m [d]) (ei_range1 (ev_call2 (ev_var rfl hx) (ev_varI rfl) trivial) (by omega)) (fun _ => rfl) fun a v w' ha g r => ?_) q
  cases r
  have := irange_mem.mp ha
  exact ev_call4 (ev_var rfl (rp_gr g hx)) (ev_varI rfl) (ev_varI rfl) (ev_varI rfl) ⟨hp, by omega, by omega⟩
theorem ok_all_ranges (T : Tx K mg) : FnOk P w K mg base CX0 7 (He.ga K "all_ranges") T.d_all_ranges ["sums", "length", "most"] (spN3 K (Rep.list Rep.int) Rep.int Rep.int PreX (Rep.pair Rep.int Rep.int) allM) := by
  have nd := sc_all_ranges.nd
  refine okN3 T.F_all_ranges sc_all_ranges rfl fun cdv A outer s H E hr => ⟨_, (pss_cons (ps_expr (pe_call (ok_need_way T) (hr.mono (by decide)) (by rfl) T.g_need_way T.F_need_way.kp (b_need_way T) .nil pass0 (pa_cons (pv 0) (pa_cons (pv 1) (pa_cons (pv 2) pa_nil)))))
      (pss_one (ps_ret (pe_call (ok_all_in T) (hr.mono (by decide)) (by rfl) T.g_all_in T.F_all_in.kp (b_all_in T) .nil pass0 (pa_cons (pv 0) (pa_cons (pv 1) (pa_cons (pv 2) pa_nil))))))), fun wd x y z l L m Q hx hy hz hp q => ?_⟩
  cases hy; cases hz
  refine q_drop (K := K) (ev_call3 (ev_var rfl hx) (ev_varI rfl) (ev_varI rfl) hp.w) fun w1 g1 => ?_
  exact s_retN (K := K) (en_call3 (ev_var rfl (rp_gr g1 hx)) (ev_varI rfl) (ev_varI rfl) hp) fun p w' g n o => q p w' (g1.trans g) (fr_back g1 n) o
theorem ok_certain_days (T : Tx K mg) : FnOk P w K mg base CX0 7 (He.ga K "certain_days") T.d_certain_days ["sums", "length", "most"] (spN3 K (Rep.list Rep.int) Rep.int Rep.int PreX (Rep.pair Rep.int Rep.int) certM) := by
  have nd := sc_certain_days.nd
  refine okN3 T.F_certain_days sc_certain_days rfl fun cdv A outer s H E hr => ⟨_, (pss_cons (ps_expr (pe_call (ok_need_way T) (hr.mono (by decide)) (by rfl) T.g_need_way T.F_need_way.kp (b_need_way T) .nil pass0 (pa_cons (pv 0) (pa_cons (pv 1) (pa_cons (pv 2) pa_nil)))))
      (pss_cons (ps_set (i := 3) nd rfl (Or.inl rfl) (pe_lst pa_nil))
      (pss_cons (ps_for PassesOwn.never rfl (pi_enum (by rfl) T.n_enumerate (pa_cons (pe_call (ok_all_in T) (hr.mono (by decide)) (by rfl) T.g_all_in T.F_all_in.kp (b_all_in T) .nil pass0 (pa_cons (pv 0) (pa_cons (pv 1) (pa_cons (pv 2) pa_nil)))) pa_nil)) (pg_tup rfl (pgs_cons (pg_name (i := 4) nd rfl (Or.inl rfl)) (pgs_cons (pg_name (i := 5) nd rfl (Or.inl rfl)) pgs_nil))) (pss_cons (ps_asg (pv 5) (pg_tup rfl (pgs_cons (pg_name (i := 6) nd rfl (Or.inl rfl)) (pgs_cons (pg_name (i := 7) nd rfl (Or.inl rfl)) pgs_nil))))
      (pss_one (ps_if (pt_cmpR op_eq (pv 6) (pv 7) (nomark _)) (pss_one (ps_expr (pe_bm PySem.F.plainAttrs_list PySem.F.slot_list_append PySem.F.type_list_append mt_append (pv 3) (pa_cons (pe_tup (pa_cons (pv 4) (pa_cons (pv 6) pa_nil))) pa_nil)))) pss_nil))))
      (pss_one (ps_ret (pv 3)))))), fun wd x y z l L m Q hx hy hz hp q => ?_⟩
  cases hy; cases hz
  have hl := hp.w.1.offs; have h1 := hp.w.1.ne; have h2 := hp.w.1.lo; have h4 := hp.w.1.days
  have hal : (allM l L m).length ≤ 1000 := by unfold allM; rw [List.length_map, irange_len]; omega
  refine q_drop (K := K) (ev_call3 (ev_var rfl hx) (ev_varI rfl) (ev_varI rfl) hp.w) fun w1 g1 => ?_
  refine q_asgN (K := K) (en_lst (e := Rep.pair Rep.int Rep.int) el_nil) fun p w2 g2 n2 o2 => ?_
  have g12 := g1.trans g2
  refine q_for2 (K := K) (ei_enum (EvN.d (en_call3 (ev_var rfl (rp_gr g12 hx)) (ev_varI rfl) (ev_varI rfl) hp))) rfl (fun i σ z => ∃ y5 y6 y7 y8 : Option V, σ = [some x, some (.int L), some (.int m), some (.ref p), y5, y6, y7, y8] ∧ GrC wd z ∧ OwnL K z p (Rep.pair Rep.int Rep.int) ((((enumI (allM l L m)).take i).filter fun x => decide (x.2.1 = x.2.2)).map fun x => (x.1, x.2.1))) (fun z g => ⟨none, none, none, none, rfl, ⟨g12.trans g⟩, o2.gr g⟩) ?_ ?_
  · intro i a v v' σ z z2 ha hxz hI gz hra hrb
    obtain ⟨y5, y6, y7, y8, rfl, cz, oz⟩ := hI
    cases hra
    have hil := (List.getElem?_eq_some_iff.mp ha).1
    rw [enumI_len] at hil
    refine q_unpack (K := K) (ev_var rfl hrb) rfl fun va vb z3 g3 ra rb => ?_
    cases ra; cases rb
    have o3 := (oz.gr gz).gr g3
    have htk : (enumI (allM l L m)).take (i + 1) = (enumI (allM l L m)).take i ++ [a] := by rw [List.take_add_one, ha]; rfl
    rw [htk, List.filter_append, List.map_append, List.filter_cons]
    refine s_when (K := K) (et_test (ev_eqI (ev_varI rfl) (ev_varI rfl))) (fun ht z4 g4 => ?_) (fun ht z4 g4 => ?_)
    · refine s_app (K := K) (o3.gr g4) rfl (ev_pair (ev_varI rfl) (ev_varI rfl)) (by
        have := List.length_filter_le (fun x : Int × Int × Int => decide (x.2.1 = x.2.2)) ((enumI (allM l L m)).take i)
        rw [List.length_take] at this
        rw [List.length_map]
        omega) fun z5 m5 o5 => ?_
      dsimp only
      refine nxt ?_ ?_
      · exact ((gz.trans g3).trans g4).s.trans m5.s
      · refine ⟨_, _, _, _, rfl, gc_mt (gc_gr cz ((gz.trans g3).trans g4)) m5 (fr_back g1 n2), ?_⟩
        rw [if_pos ht]
        exact o5
    · dsimp only
      refine nxt ?_ ?_
      · exact ((gz.trans g3).trans g4).s
      · refine ⟨_, _, _, _, rfl, gc_gr cz ((gz.trans g3).trans g4), ?_⟩
        rw [if_neg (by rw [ht]; decide), List.filter_nil, List.map_nil, List.append_nil]
        exact o3.gr g4
  · intro σ z hxz hI
    obtain ⟨y5, y6, y7, y8, rfl, cz, oz⟩ := hI
    rw [List.take_length] at oz
    exact s_retO rfl (q p z cz.g (fr_back g1 n2) oz)
theorem ok_row_range (T : Tx K mg) : FnOk P w K mg base CX0 7 (He.ga K "row_range") T.d_row_range ["sums", "length", "most", "first", "beyond"] (spD5 K (Rep.list Rep.int) Rep.int Rep.int Rep.int Rep.int (fun s L m a b => PreX s L m ∧ 0 ≤ a ∧ a ≤ b ∧ b ≤ (offs s L).length) (Rep.pair Rep.int Rep.int) (fun s L m a b => drange s L m (irange a b))) := by
  have nd := sc_row_range.nd
  refine okD5 T.F_row_range sc_row_range rfl fun cdv A outer s H E hr => ⟨_, (pss_cons (ps_expr (pe_call (ok_need_all T) (hr.mono (by decide)) (by rfl) T.g_need_all T.F_need_all.kp (b_need_all T) .nil pass0 (pa_cons (pv 0) (pa_cons (pv 1) (pa_cons (pv 2) pa_nil)))))
      (pss_cons (ps_expr (pe_call (ok_need_day T) (hr.mono (by decide)) (by rfl) T.g_need_day T.F_need_day.kp (b_need_day T) .nil pass0 (pa_cons (pv 3) (pa_cons (pe_op op_add (pe_call (ok_day_count T) (hr.mono (by decide)) (by rfl) T.g_day_count T.F_day_count.kp (b_day_count T) .nil pass0 (pa_cons (pv 0) (pa_cons (pv 1) pa_nil))) pe_int) pa_nil))))
      (pss_cons (ps_if (pt_not (pt_chain op_le op_le (pv 3) (pv 4) (pe_call (ok_day_count T) (hr.mono (by decide)) (by rfl) T.g_day_count T.F_day_count.kp (b_day_count T) .nil pass0 (pa_cons (pv 0) (pa_cons (pv 1) pa_nil))))) (pss_one ps_never) pss_nil)
      (pss_cons (ps_expr (pe_call (ok_need_way T) (hr.mono (by decide)) (by rfl) T.g_need_way T.F_need_way.kp (b_need_way T) .nil pass0 (pa_cons (pv 0) (pa_cons (pv 1) (pa_cons (pv 2) pa_nil)))))
      (pss_one (ps_ret (pe_call (ok_range_of_days T) (hr.mono (by decide)) (by rfl) T.g_range_of_days T.F_range_of_days.kp (b_range_of_days T) .nil pass0 (pa_cons (pv 0) (pa_cons (pv 1) (pa_cons (pv 2) (pa_cons (pe_listRg rfl (by rfl) T.n_list (prg_2 (by rfl) T.n_range (pv 3) (pv 4))) pa_nil))))))))))), fun wd x y z u v l L m a b Q hx hy hz hu hv hp q => ?_⟩
  cases hy; cases hz; cases hu; cases hv
  obtain ⟨hpx, ha, hab, hb⟩ := hp
  have hl := hpx.w.1.offs; have h4 := hpx.w.1.days
  refine q_drop (K := K) (ev_call3 (ev_var rfl hx) (ev_varI rfl) (ev_varI rfl) ⟨hpx.w.1, hpx.w.2.1, hpx.w.2.2.1⟩) fun w1 g1 => ?_
  refine q_drop (K := K) (ev_call2 (ev_varI rfl) (ev_add (ev_call2 (ev_var rfl (rp_gr g1 hx)) (ev_varI rfl) trivial) ev_int) ⟨ha, by omega⟩) fun w2 g2 => ?_
  have g12 := g1.trans g2
  refine q_when (K := K) (b := false) (EvT.eq (et_not (et_test (ev_leLe (ev_varI rfl) (ev_varI rfl) (ev_call2 (ev_var rfl (rp_gr g12 hx)) (ev_varI rfl) trivial)))) (by simp; omega)) (fun h => nomatch h) fun _ w3 g3 => ?_
  have g13 := g12.trans g3
  refine q_drop (K := K) (ev_call3 (ev_var rfl (rp_gr g13 hx)) (ev_varI rfl) (ev_varI rfl) hpx.w) fun w4 g4 => ?_
  have g14 := g13.trans g4
  refine s_ret (K := K) (ev_call4 (ev_var rfl (rp_gr g14 hx)) (ev_varI rfl) (ev_varI rfl) (EvN.d (en_rg2 (ev_varI rfl) (ev_varI rfl) (by omega))) ⟨hpx, by rw [irange_len]; omega, fun d hd => by have := irange_mem.mp hd; omega⟩) fun v w' g r => q v w' (g14.trans g) r
theorem ok_need_days (T : Tx K mg) : FnOk P w K mg base CX0 2 (He.ga K "need_days") T.d_need_days ["thing", "count"] (spD2 K (Rep.list Rep.int) Rep.int (fun ds c => ds.length ≤ 1000 ∧ ds.Nodup ∧ ∀ d ∈ ds, 0 ≤ d ∧ d < c) Rep.non (fun _ _ => ())) := by
  have nd := sc_need_days.nd
  refine okD2 T.F_need_days sc_need_days rfl fun cdv A outer s H E hr => ⟨_, (pss_cons (ps_if (PW.pt (pw_or (pt_not (pt_val (pe_callB (show CallR _ _ (rIsi K) from call_isi) (by rfl) T.n_isinstance (by decide +kernel) (pa_cons (pv 0) (pa_cons (pe_bltn (by rfl) T.n_list (by decide +kernel) (rel_ty "list")) pa_nil))))) (pw_or1 (pt_not (pt_val (pe_callB (show CallR _ _ (rAll K) from (cr_all rfl)) (by rfl) T.n_all (by decide +kernel) (pa_cons (pe_lc (own := [("day", 2)]) (g := gName 2) (tt := tYes) rfl nd (pi_list (pv 0)) (blkOk_by (own := [("day", 2)]) (N := ["thing", "count", "day"]) (sc := defScope s_need_days) (by decide +kernel)) (fun _ _ _ _ _ => (pg_name (i := 2) nd rfl (by first | exact Or.inl rfl | exact Or.inr rfl))) (fun _ _ _ _ _ => pts_nil) (fun _ _ _ _ _ => (pe_and (pe_call (ok_is_integer T) (hr.mono (by decide)) (by rfl) T.g_is_integer T.F_is_integer.kp (b_is_integer T) .nil pass0 (pa_cons (pv 2) pa_nil)) (pe_one (pe_chain op_le op_lt pe_int (pv 2) (pv 1)))))) pa_nil))))))) (pss_one ps_never) pss_nil)
      (pss_one (ps_if (pt_cmpR op_ne (RZ.pe_lenSetI (by rfl) T.n_len (by rfl) T.n_set (pv 0)) (pe_callB (show CallR _ _ (Evl.rLenS K) from call_len_seq) (by rfl) T.n_len (by decide +kernel) (pa_cons (pv 0) pa_nil)) (nomark _)) (pss_one ps_never) pss_nil))), fun wd x y ds c Q hx hy hp q => ?_⟩
  cases hy
  obtain ⟨hn, hnd, hd⟩ := hp
  refine q_when (K := K) (b := false) (EvT.eq (et_or (et_not (et_B (ev_isiL (ev_var rfl hx) rfl))) fun _ => et_not (et_B (EvD.eq (ev_all (EvN.d (en_lc (e' := Rep.bl) (by omega) (fun _ => true) (ei_list (ev_var rfl hx)) (fun _ => rfl) fun a v w' ha g r => EvD.eq (ev_andV (ev_call1 (ev_var rfl r) trivial) fun _ => by cases r; exact ev_leLt ev_int (ev_varI rfl) (ev_varI rfl)) (by have := hd a ha; simp; omega)))) (show _ = true by simp)))) rfl) (fun h => nomatch h) fun _ w1 g1 => ?_
  refine s_when (K := K) (b := false) (EvT.eq (et_test (ev_neI (ev_lenSet (ev_var rfl (rp_gr g1 hx)) hnd (by omega)) (ev_len (ev_var rfl (rp_gr g1 hx))))) (by simp)) (fun h => nomatch h) fun _ w2 g2 => ?_
  exact q .non w2 (g1.trans g2) rfl
theorem ok_total_range (T : Tx K mg) : FnOk P w K mg base CX0 7 (He.ga K "total_range") T.d_total_range ["sums", "length", "most", "days"] (spD4 K (Rep.list Rep.int) Rep.int Rep.int (Rep.list Rep.int) (fun s L m ds => PreDs s L m ds ∧ ds.Nodup) (Rep.pair Rep.int Rep.int) drange) := by
  have nd := sc_total_range.nd
  refine okD4 T.F_total_range sc_total_range rfl fun cdv A outer s H E hr => ⟨_, (pss_cons (ps_expr (pe_call (ok_need_all T) (hr.mono (by decide)) (by rfl) T.g_need_all T.F_need_all.kp (b_need_all T) .nil pass0 (pa_cons (pv 0) (pa_cons (pv 1) (pa_cons (pv 2) pa_nil)))))
      (pss_cons (ps_expr (pe_call (ok_need_days T) (hr.mono (by decide)) (by rfl) T.g_need_days T.F_need_days.kp (b_need_days T) .nil pass0 (pa_cons (pv 3) (pa_cons (pe_call (ok_day_count T) (hr.mono (by decide)) (by rfl) T.g_day_count T.F_day_count.kp (b_day_count T) .nil pass0 (pa_cons (pv 0) (pa_cons (pv 1) pa_nil))) pa_nil))))
      (pss_cons (ps_expr (pe_call (ok_need_way T) (hr.mono (by decide)) (by rfl) T.g_need_way T.F_need_way.kp (b_need_way T) .nil pass0 (pa_cons (pv 0) (pa_cons (pv 1) (pa_cons (pv 2) pa_nil)))))
      (pss_one (ps_ret (pe_call (ok_range_of_days T) (hr.mono (by decide)) (by rfl) T.g_range_of_days T.F_range_of_days.kp (b_range_of_days T) .nil pass0 (pa_cons (pv 0) (pa_cons (pv 1) (pa_cons (pv 2) (pa_cons (pv 3) pa_nil)))))))))), fun wd x y z u l L m ds Q hx hy hz hu hp q => ?_⟩
  cases hy; cases hz
  obtain ⟨⟨hpx, hn, hd⟩, hnd⟩ := hp
  have hl := hpx.w.1.offs
  refine q_drop (K := K) (ev_call3 (ev_var rfl hx) (ev_varI rfl) (ev_varI rfl) ⟨hpx.w.1, hpx.w.2.1, hpx.w.2.2.1⟩) fun w1 g1 => ?_
  refine q_drop (K := K) (ev_call2 (ev_var rfl (rp_gr g1 hu)) (ev_call2 (ev_var rfl (rp_gr g1 hx)) (ev_varI rfl) trivial) ⟨by omega, hnd, fun d h => by have := hd d h; omega⟩) fun w2 g2 => ?_
  have g12 := g1.trans g2
  refine q_drop (K := K) (ev_call3 (ev_var rfl (rp_gr g12 hx)) (ev_varI rfl) (ev_varI rfl) hpx.w) fun w3 g3 => ?_
  have g13 := g12.trans g3
  exact s_ret (K := K) (ev_call4 (ev_var rfl (rp_gr g13 hx)) (ev_varI rfl) (ev_varI rfl) (ev_var rfl (rp_gr g13 hu)) ⟨hpx, hn, hd⟩) fun v w' g r => q v w' (g13.trans g) r
theorem ok_difference_range (T : Tx K mg) : FnOk P w K mg base CX0 7 (He.ga K "difference_range") T.d_difference_range ["sums", "length", "most", "first", "second"] (spD5 K (Rep.list Rep.int) Rep.int Rep.int Rep.int Rep.int (fun s L m a b => PreX s L m ∧ (0 ≤ a ∧ a < (offs s L).length) ∧ (0 ≤ b ∧ b < (offs s L).length)) (Rep.pair Rep.int Rep.int) diffM) := by
  have nd := sc_difference_range.nd
  refine okD5 T.F_difference_range sc_difference_range rfl fun cdv A outer s H E hr => ⟨_, (pss_cons (ps_expr (pe_call (ok_need_all T) (hr.mono (by decide)) (by rfl) T.g_need_all T.F_need_all.kp (b_need_all T) .nil pass0 (pa_cons (pv 0) (pa_cons (pv 1) (pa_cons (pv 2) pa_nil)))))
      (pss_cons (ps_expr (pe_call (ok_need_day T) (hr.mono (by decide)) (by rfl) T.g_need_day T.F_need_day.kp (b_need_day T) .nil pass0 (pa_cons (pv 3) (pa_cons (pe_call (ok_day_count T) (hr.mono (by decide)) (by rfl) T.g_day_count T.F_day_count.kp (b_day_count T) .nil pass0 (pa_cons (pv 0) (pa_cons (pv 1) pa_nil))) pa_nil))))
      (pss_cons (ps_expr (pe_call (ok_need_day T) (hr.mono (by decide)) (by rfl) T.g_need_day T.F_need_day.kp (b_need_day T) .nil pass0 (pa_cons (pv 4) (pa_cons (pe_call (ok_day_count T) (hr.mono (by decide)) (by rfl) T.g_day_count T.F_day_count.kp (b_day_count T) .nil pass0 (pa_cons (pv 0) (pa_cons (pv 1) pa_nil))) pa_nil))))
      (pss_cons (ps_expr (pe_call (ok_need_way T) (hr.mono (by decide)) (by rfl) T.g_need_way T.F_need_way.kp (b_need_way T) .nil pass0 (pa_cons (pv 0) (pa_cons (pv 1) (pa_cons (pv 2) pa_nil)))))
      (pss_cons (ps_par (i := 5) (j := 6) (by rfl) nd rfl rfl (by decide) rfl rfl (pa_cons (pe_call (ok_offsets_in T) (hr.mono (by decide)) (by rfl) T.g_offsets_in T.F_offsets_in.kp (b_offsets_in T) .nil pass0 (pa_cons (pv 0) (pa_cons (pv 1) pa_nil))) (pa_cons (pe_op op_rep (pe_lst (pa_cons pe_int pa_nil)) (pv 1)) pa_nil)) (by rfl))
      (pss_cons (ps_augS (pv 6) (pe_op op_mod (pv 3) (pv 1)) get_list pe_int ip_sub set_list)
      (pss_cons (ps_augS (pv 6) (pe_op op_mod (pv 4) (pv 1)) get_list pe_int ip_add set_list)
      (pss_one (ps_ret (pe_call (ok_weighed_range T) (hr.mono (by decide)) (by rfl) T.g_weighed_range T.F_weighed_range.kp (b_weighed_range T) .nil pass0 (pa_cons (pv 0) (pa_cons (pv 1) (pa_cons (pv 2) (pa_cons (pv 6) (pa_cons (pe_op op_sub (pe_ix (show IxR _ (rIxL K) from ix_list) (pv 5) (pv 4) (fun _ _ => rfl)) (pe_ix (show IxR _ (rIxL K) from ix_list) (pv 5) (pv 3) (fun _ _ => rfl))) pa_nil))))))))))))))), fun wd x y z u v l L m a b Q hx hy hz hu hv hp q => ?_⟩
  cases hy; cases hz; cases hu; cases hv
  obtain ⟨hpx, ha, hb⟩ := hp
  have hvs := hpx.w.1
  have hl := hvs.offs; have h2 := hvs.lo; have h3 := hvs.hi
  refine q_drop (K := K) (ev_call3 (ev_var rfl hx) (ev_varI rfl) (ev_varI rfl) ⟨hpx.w.1, hpx.w.2.1, hpx.w.2.2.1⟩) fun w1 g1 => ?_
  refine q_drop (K := K) (ev_call2 (ev_varI rfl) (ev_call2 (ev_var rfl (rp_gr g1 hx)) (ev_varI rfl) trivial) ⟨ha.1, by omega⟩) fun w2 g2 => ?_
  have g12 := g1.trans g2
  refine q_drop (K := K) (ev_call2 (ev_varI rfl) (ev_call2 (ev_var rfl (rp_gr g12 hx)) (ev_varI rfl) trivial) ⟨hb.1, by omega⟩) fun w3 g3 => ?_
  have g13 := g12.trans g3
  refine q_drop (K := K) (ev_call3 (ev_var rfl (rp_gr g13 hx)) (ev_varI rfl) (ev_varI rfl) hpx.w) fun w4 g4 => ?_
  have g14 := g13.trans g4
  refine q_parVN (K := K) (EvN.d (en_call2 (ev_var rfl (rp_gr g14 hx)) (ev_varI rfl) hvs)) (en_rep (K := K) (e := Rep.int) (k := L) (l := ([0] : List Int)) (en_lst (el_cons ev_int el_nil)) (ev_varI rfl) ⟨by omega, by show 1 * L.toNat ≤ 100000; omega, by omega⟩) fun vo p w5 g5 ro n5 o5 => ?_
  have e0 : (List.replicate L.toNat ([0] : List Int)).flatten = List.replicate L.toNat 0 := by simp
  rw [e0] at o5
  have a0 := Int.emod_nonneg a (show L ≠ 0 by omega)
  have a1 := Int.emod_lt_of_pos a (show 0 < L by omega)
  have b0 := Int.emod_nonneg b (show L ≠ 0 by omega)
  have b1 := Int.emod_lt_of_pos b (show 0 < L by omega)
  refine q_augO (K := K) (f := fun i j => i - j) o5 rfl (ev_mod (ev_varI rfl) (ev_varI rfl) (by omega)) ev_int ⟨a0, by simp; omega⟩ fun w6 m6 o6 => ?_
  refine q_augO (K := K) (f := fun i j => i + j) o6 rfl (ev_mod (ev_varI rfl) (ev_varI rfl) (by omega)) ev_int ⟨b0, by simp; omega⟩ fun w7 m7 o7 => ?_
  obtain ⟨w8, e8, m8, r8⟩ := o7.fix
  rw [← e8]
  have m58 := (m6.trans m7).trans m8
  have g8 : Gr wd w8 := m58.gr wd (g14.trans g5) (fr_back g14 n5)
  have ro8 := rp_mt m58 ro
  exact s_ret (K := K) (ev_call5 (ev_var rfl (rp_gr g8 hx)) (ev_varI rfl) (ev_varI rfl) (ev_var rfl (show (Rep.list Rep.int).r K w8.S (.ref p) (wdiff L a b) from r8)) (ev_sub (ev_ix (ev_var rfl ro8) (ev_varI rfl) (atI_gI hb.1 hb.2)) (ev_ix (ev_var rfl ro8) (ev_varI rfl) (atI_gI ha.1 ha.2))) ⟨hpx, wdiff_len, fun w hw => Nat.le_trans (wdiff_bd h2 w hw) (by decide)⟩) fun v w' g r => q v w' (g8.trans g) r
theorem ok_next_range (T : Tx K mg) : FnOk P w K mg base CX0 7 (He.ga K "next_range") T.d_next_range ["sums", "length", "most"] (spD3 K (Rep.list Rep.int) Rep.int Rep.int PreX (Rep.pair Rep.int Rep.int) nextM) := by
  have nd := sc_next_range.nd
  refine okD3 T.F_next_range sc_next_range rfl fun cdv A outer s H E hr => ⟨_, (pss_cons (ps_expr (pe_call (ok_need_way T) (hr.mono (by decide)) (by rfl) T.g_need_way T.F_need_way.kp (b_need_way T) .nil pass0 (pa_cons (pv 0) (pa_cons (pv 1) (pa_cons (pv 2) pa_nil)))))
      (pss_one (ps_ret (pe_call (ok_next_in T) (hr.mono (by decide)) (by rfl) T.g_next_in T.F_next_in.kp (b_next_in T) .nil pass0 (pa_cons (pv 0) (pa_cons (pv 1) (pa_cons (pv 2) pa_nil))))))), fun wd x y z l L m Q hx hy hz hp q => ?_⟩
  cases hy; cases hz
  refine q_drop (K := K) (ev_call3 (ev_var rfl hx) (ev_varI rfl) (ev_varI rfl) hp.w) fun w1 g1 => ?_
  exact s_ret (K := K) (ev_call3 (ev_var rfl (rp_gr g1 hx)) (ev_varI rfl) (ev_varI rfl) hp) fun v w' g r => q v w' (g1.trans g) r
end
end WK

namespace WK
open PySem PySem.Spec PyProof.Rows L2
/-! ### the law's draws -/
/-- a jar: f draws are left to be sure of -/
def Jar (K : PySem.W.Frag) (w : Wd) (p : Addr) (f : Nat) : Prop := ∃ a b c : Int, OwnL K w p Rep.int [a, b, c] ∧ 0 ≤ a ∧ 0 ≤ b ∧ b < 2 ^ 200 ∧ 0 ≤ c ∧ c + f ≤ 2 ^ 60
section
variable {K : PySem.W.Frag} {w w' w0 : Wd} {p q : Addr} {f f' : Nat}
theorem Jar.gr (h : Jar K w p f) (g : Gr w w') : Jar K w' p f := by obtain ⟨a, b, c, o, r⟩ := h; exact ⟨a, b, c, o.gr g, r⟩
theorem Jar.mt (h : Jar K w p f) (m : Mt q w w') (ne : p ≠ q) : Jar K w' p f := by obtain ⟨a, b, c, o, r⟩ := h; exact ⟨a, b, c, o.mt m ne, r⟩
theorem Jar.ne (h : Jar K w p f) : w.H p ≠ none := by obtain ⟨a, b, c, o, r⟩ := h; exact o.ne
theorem Jar.apart (h : Jar K w p f) (z : w.H q = none) : q ≠ p := fun x => h.ne (x ▸ z)
theorem Jar.le (h : Jar K w p f) (l : f' ≤ f) : Jar K w p f' := by obtain ⟨a, b, c, o, h1, h2, h3, h4, h5⟩ := h; exact ⟨a, b, c, o, h1, h2, h3, h4, by omega⟩
end
def spDip (K : PySem.W.Frag) : Sp := fun vs H Q _ => ∃ (wd : Wd) (p : Addr) (m : Int) (f : Nat), wd.H = H ∧ vs = [.ref p, .int m] ∧ Jar K wd p (f + 1) ∧ 0 < m ∧ m.natAbs < 2 ^ 9000 ∧ ∀ r w', Mt p wd w' → Jar K w' p f → 0 ≤ r → r < m → Q (.int r) w'.H
section
variable {P : Program} {w : World} {K : PySem.W.Frag} {mg : Str → Option Value} {base : Heap}
theorem pos_47 : (0 : Int) < 10 ^ (47 : Int).toNat + 91 := by decide +kernel
theorem pos_46 : (0 : Int) < 10 ^ (46 : Int).toNat + 79 := by decide +kernel
theorem lt_47 : (10 : Int) ^ (47 : Int).toNat + 91 < 2 ^ 200 := by decide +kernel
theorem ok__law_dip (T : Tx K mg) : FnOk P w K mg base CX0 1 (He.ga K "_law_dip") T.d__law_dip ["jar", "many"] (spDip K) := by
  have nd := sc__law_dip.nd
  refine FunD.ok T.F__law_dip sc__law_dip (fun vs H Q E h => by obtain ⟨wd, p, m, f, _, rfl, _⟩ := h; rfl) fun cdv A outer s H vs Q E hr h => ⟨_, PSs.nox (pss_cons (ps_if (pt_cmpR op_gt (pe_ix (show IxR _ (rIxL K) from ix_list) (pv 0) pe_int (fun _ _ => rfl)) pe_int (nomark _)) (pss_cons (ps_set (i := 2) nd rfl (Or.inl rfl) (pe_op op_mod (pe_callTy call_int1 (by rfl) T.n_int (by decide +kernel) (pa_cons (pe_ix (show IxR _ (rIxL K) from ix_list) (pv 0) pe_int (fun _ _ => rfl)) pa_nil)) (pv 1)))
      (pss_cons (ps_asg (pe_op op_fdivW (pe_ix (show IxR _ (rIxL K) from ix_list) (pv 0) pe_int (fun _ _ => rfl)) (pv 1)) (pg_sub (pv 0) pe_int set_list))
      (pss_one (ps_ret (pv 2))))) pss_nil)
      (pss_cons (ps_asg (pe_op op_add (pe_ix (show IxR _ (rIxL K) from ix_list) (pv 0) pe_int (fun _ _ => rfl)) pe_int) (pg_sub (pv 0) pe_int set_list))
      (pss_cons (ps_set (i := 3) nd rfl (Or.inl rfl) (pe_op op_mod (pe_callTy call_int1 (by rfl) T.n_int (by decide +kernel) (pa_cons (pe_op op_powW (pe_op op_add (pe_ix (show IxR _ (rIxL K) from ix_list) (pv 0) pe_int (fun _ _ => rfl)) (pe_op op_mulW pe_int (pe_ix (show IxR _ (rIxL K) from ix_list) (pv 0) pe_int (fun _ _ => rfl)))) pe_int) pa_nil)) (pe_op op_add (pe_op op_powW pe_int pe_int) pe_int)))
      (pss_cons (ps_set (i := 3) nd rfl (Or.inl rfl) (pe_op op_mod (pe_callTy call_int1 (by rfl) T.n_int (by decide +kernel) (pa_cons (pe_op op_powW (pe_op op_add (pv 3) (pe_op op_mulW pe_int (pe_ix (show IxR _ (rIxL K) from ix_list) (pv 0) pe_int (fun _ _ => rfl)))) pe_int) pa_nil)) (pe_op op_add (pe_op op_powW pe_int pe_int) pe_int)))
      (pss_one (ps_ret (pe_op op_mod (pe_callTy call_int1 (by rfl) T.n_int (by decide +kernel) (pa_cons (pe_op op_fdivW (pv 3) pe_int) pa_nil)) (pv 1)))))))), ?_⟩
  obtain ⟨wd, p, m, f, rfl, rfl, hj, hm, hm2, q⟩ := h
  obtain ⟨a, b, c, o, ha, hb, hb2, hc, hf⟩ := hj
  refine q_when (K := K) (b := decide (0 < a)) (et_test (ev_gt (ev_ixO o rfl ev_int rfl) ev_int)) (fun h1 w1 g1 => ?_) (fun h1 w1 g1 => ?_)
  · have o1 := o.gr g1
    refine q_asg (K := K) (ev_mod (ev_intI (ev_ixO o1 rfl ev_int rfl)) (ev_varI rfl) hm) fun v w2 g2 r2 => ?_
    cases r2
    have o2 := o1.gr g2
    refine q_set (K := K) (x := 0) o2 rfl (ev_div (ev_ixO o2 rfl ev_int rfl) (ev_varI rfl) ⟨hm, PySem.Flt.log2_lt_of (by decide) hm2⟩) ev_int ⟨by decide, by simp⟩ fun w3 m3 o3 => ?_
    refine s_ret (K := K) (ev_varI rfl) fun v w4 g4 r4 => ?_
    cases r4
    refine q (a % m) w4 (((g1.trans g2).mt o.ne).trans (m3.trans (g4.mt o3.ne))) ⟨a / m, b, c, o3.gr g4, Int.ediv_nonneg ha (by omega), hb, hb2, hc, by omega⟩ (Int.emod_nonneg _ (by omega)) (Int.emod_lt_of_pos _ hm)
  · have o1 := o.gr g1
    refine q_set (K := K) (x := 2) o1 rfl (ev_add (ev_ixO o1 rfl ev_int rfl) ev_int) ev_int ⟨by decide, by simp⟩ fun w2 m2 o2 => ?_
    have o2 : OwnL K w2 p Rep.int [a, b, c + 1] := o2
    have hc1 : (c + 1).natAbs < 2 ^ 61 := by omega
    refine q_asg (K := K) (ev_mod (ev_intI (ev_pow (ev_add (ev_ixO o2 rfl ev_int rfl) (ev_mul ev_int (ev_ixO o2 rfl ev_int rfl) (wide_mul (a := 26) (b := 61) (by decide) hc1 (by decide) (by decide) (by decide)))) ev_int (pow_ok (n := 201) (by decide) (by omega) (by decide) (by decide)))) (ev_add (ev_pow ev_int ev_int (pow_ok (n := 4) (by decide) (by decide) (by decide) (by decide))) ev_int) pos_47) fun v w3 g3 r3 => ?_
    cases r3
    have o3 := o2.gr g3
    have l1 := Int.emod_lt_of_pos ((b + 60000049 * (c + 1)) ^ (3 : Int).toNat) pos_47
    have l2 := Int.emod_nonneg ((b + 60000049 * (c + 1)) ^ (3 : Int).toNat) (Int.ne_of_gt pos_47)
    have l3 := lt_47
    generalize (b + 60000049 * (c + 1)) ^ (3 : Int).toNat % (10 ^ (47 : Int).toNat + 91) = y at l1 l2 ⊢
    refine q_asg (K := K) (ev_mod (ev_intI (ev_pow (ev_add (ev_varI rfl) (ev_mul ev_int (ev_ixO o3 rfl ev_int rfl) (wide_mul (a := 26) (b := 61) (by decide) hc1 (by decide) (by decide) (by decide)))) ev_int (pow_ok (n := 201) (by decide) (by omega) (by decide) (by decide)))) (ev_add (ev_pow ev_int ev_int (pow_ok (n := 4) (by decide) (by decide) (by decide) (by decide))) ev_int) pos_46) fun v w4 g4 r4 => ?_
    cases r4
    have o4 := o3.gr g4
    refine s_ret (K := K) (ev_mod (ev_intI (ev_div (ev_varI rfl) ev_int (wide_div (b := 31) (by decide) (by decide) (by decide) (by decide)))) (ev_varI rfl) hm) fun v w5 g5 r5 => ?_
    cases r5
    exact q _ w5 ((g1.mt o.ne).trans (m2.trans (((g3.trans g4).trans g5).mt o2.ne))) ⟨a, b, c + 1, o4.gr g5, ha, hb, hb2, by omega, by omega⟩ (Int.emod_nonneg _ (by omega)) (Int.emod_lt_of_pos _ hm)
end
/-- a draw -/
theorem dip_run {K : PySem.W.Frag} {σ : L2.St} {w : Wd} {p : Addr} {i f : Nat} {tm : TE} {m : Int} {Q : VK} {E : XK} (hi : σ[i]? = some (some (.ref p))) (hj : Jar K w p (f + 1)) (hm : EvD K tm σ w Rep.int m) (h0 : 0 < m) (h1 : m.natAbs < 2 ^ 9000)
    (k : ∀ r w', Mt p w w' → Jar K w' p f → 0 ≤ r → r < m → Q (.int r) w'.H) : tCall (spDip K) [] E (tCons (tVar i) (tCons tm tNil)) σ w.H Q :=
  ⟨_, hi, hm.run fun v w2 g2 r2 => ⟨w2, p, m, f, rfl, by cases r2; rfl, hj.gr g2, h0, h1, fun r w' m' j' => k r w' ((g2.mt hj.ne).trans m') j'⟩⟩
end WK

namespace WK
open PySem PySem.Spec PyProof.Rows L2
/-! ### a jar made; the divisor -/
def Bits (ns : List Int) : Prop := ∀ z ∈ ns, Builtin.Int.intBits z ≤ 1048576
def spJar (K : PySem.W.Frag) : Sp := fun vs H Q _ => ∃ (wd : Wd) (sv : V) (ns : List Int) (k : Int), wd.H = H ∧ vs = [sv, .int k] ∧ (Rep.list Rep.int).r K wd.S sv ns ∧ 0 ≤ k ∧ k ≤ 1000 ∧
  ∀ p w', Gr wd w' → wd.H p = none → Jar K w' p (2 ^ 59) → Q (.ref p) w'.H
section
variable {P : Program} {w : World} {K : PySem.W.Frag} {mg : Str → Option Value} {base : Heap}
theorem pos_43 : (0 : Int) < 10 ^ (43 : Int).toNat + 57 := by decide +kernel
theorem lt_43 : (10 : Int) ^ (43 : Int).toNat + 57 < 2 ^ 150 := by decide +kernel
theorem ok__law_jar (T : Tx K mg) : FnOk P w K mg base CX0 1 (He.ga K "_law_jar") T.d__law_jar ["script", "k"] (spJar K) := by
  have nd := sc__law_jar.nd
  refine FunD.ok T.F__law_jar sc__law_jar (fun vs H Q E h => by obtain ⟨wd, sv, ns, k, _, rfl, _⟩ := h; rfl) fun cdv A outer s H vs Q E hr h => ⟨_, PSs.nox (pss_cons (ps_set (i := 2) nd rfl (Or.inl rfl) (pe_ifExp (pt_cmpR op_lt (pv 1) (pe_callB (show CallR _ _ (Evl.rLenS K) from call_len_seq) (by rfl) T.n_len (by decide +kernel) (pa_cons (pv 0) pa_nil)) (nomark _)) (pe_callB call_abs (by rfl) T.n_abs (by decide +kernel) (pa_cons (pe_ix (show IxR _ (rIxL K) from ix_list) (pv 0) (pv 1) (fun _ _ => rfl)) pa_nil)) pe_int))
      (pss_one (ps_ret (pe_lst (pa_cons (pe_callB (call_max2 rfl) (by rfl) T.n_max (by decide +kernel) (pa_cons pe_int (pa_cons (pe_op op_sub (pv 2) (pe_op op_powW pe_int pe_int)) pa_nil))) (pa_cons (pe_op op_add (pe_op op_mulW (pe_op op_mod (pe_callTy call_int1 (by rfl) T.n_int (by decide +kernel) (pa_cons (pv 2) pa_nil)) (pe_op op_add (pe_op op_powW pe_int pe_int) pe_int)) pe_int) (pe_op op_mulW pe_int (pv 1))) (pa_cons pe_int pa_nil))))))), ?_⟩
  try dsimp only [cxOf]
  obtain ⟨wd, sv, ns, k, rfl, rfl, rs, h0, h1, q⟩ := h
  have hc : ∃ c : Int, 0 ≤ c ∧ EvD K (tIf (tTest (tOp (rI0 fun i j => V.bl (decide (i < j))) (tVar 1) (tCB (Evl.rLenS K) (tCons (tVar 0) tNil)))) (tCB (fun xs H Q => ∃ i, xs = [.int i] ∧ Q (.int (if i < 0 then -i else i)) H) (tCons (tOp (rIxL K) (tVar 0) (tVar 1)) tNil)) (tC (.int 0))) (L2.start ["script", "k", "cell_here"] [sv, .int k]) wd Rep.int c := by
    by_cases hk : k < (ns.length : Int)
    · have hg : ns[k.toNat]? = some (ns[k.toNat]'(by omega)) := by simp
      exact ⟨_, by omega, ev_if (b := true) (EvT.eq (et_test (ev_lt (ev_varI rfl) (ev_len (ev_var rfl rs)))) (by simp [hk])) (fun _ => ev_abs (ev_ix (ev_var rfl rs) (ev_varI rfl) (atI_int h0 hg))) (fun z => nomatch z)⟩
    · exact ⟨0, by omega, ev_if (b := false) (EvT.eq (et_test (ev_lt (ev_varI rfl) (ev_len (ev_var rfl rs)))) (by simp; omega)) (fun z => nomatch z) (fun _ => ev_int)⟩
  obtain ⟨c, hc0, hc⟩ := hc
  refine q_asg (K := K) hc fun v w1 g1 r1 => ?_
  cases r1
  have l1 := Int.emod_lt_of_pos c pos_43
  have l2 := Int.emod_nonneg c (Int.ne_of_gt pos_43)
  have l3 := lt_43
  refine s_retN (K := K) (en_lst (el_cons (ev_max2 ev_int (ev_sub (ev_varI rfl) (ev_pow ev_int ev_int (pow_ok (n := 4) (by decide) (by decide) (by decide) (by decide))))) (el_cons (ev_add (ev_mul (ev_mod (ev_intI (ev_varI rfl)) (ev_add (ev_pow ev_int ev_int (pow_ok (n := 4) (by decide) (by decide) (by decide) (by decide))) ev_int) pos_43) ev_int (wide_mul (a := 150) (b := 7) (by omega) (by decide) (by decide) (by decide) (by decide)))
    (ev_mul ev_int (ev_varI rfl) (wide_mul (a := 17) (b := 10) (by decide) (by omega) (by decide) (by decide) (by decide)))) (el_cons ev_int el_nil)))) fun p w2 g2 n2 o2 => ?_
  refine q p w2 (g1.trans g2) (fr_back g1 n2) ⟨_, _, _, o2, by omega, by omega, by omega, by decide, by decide⟩
end
end WK

namespace WK
open PySem PySem.Spec PyProof.Rows L2
/-! ### the law's draws: sums, days, tops, sizes -/
def sumsL (x : List Int) (L : Int) : List Int := (irange 0 (x.length - L + 1)).map fun i => isum (fun j => gI x (i + j)) L
theorem sumsL_len {x : List Int} {L : Int} (h : L ≤ x.length) : ((sumsL x L).length : Int) = x.length - L + 1 := by
  unfold sumsL; rw [List.length_map, irange_len]; omega
theorem sumsL_way {x : List Int} {L most : Int} (h1 : 1 ≤ L) (h : L ≤ x.length) (hx : ∀ v ∈ x, 0 ≤ v ∧ v ≤ most) : Way (sumsL x L) x L most where
  len := by rw [sumsL_len h]; omega
  sm := fun i hi => by
    have hl := sumsL_len h
    refine getD_at ?_
    unfold sumsL
    rw [List.getElem?_map, irange_get (by omega), Int.zero_add]; rfl
  rg := hx
theorem sumsL_VS {x : List Int} {L : Int} (h1 : 1 ≤ L) (h8 : L ≤ 8) (h : L ≤ x.length) (h67 : x.length ≤ 67) : VS (sumsL x L) L := by
  have := sumsL_len h
  exact ⟨by omega, h1, h8, by omega⟩
def spTop (K : PySem.W.Frag) : Sp := fun vs H Q _ => ∃ (wd : Wd) (p : Addr) (f : Nat), wd.H = H ∧ vs = [.ref p] ∧ Jar K wd p (f + 2) ∧ ∀ r w', Mt p wd w' → Jar K w' p f → 0 ≤ r → r ≤ 10 ^ 30 - 1 → Q (.int r) w'.H
def spHigh (K : PySem.W.Frag) : Sp := fun vs H Q _ => ∃ (wd : Wd) (p : Addr) (n : Int) (f : Nat), wd.H = H ∧ vs = [.ref p, .int n] ∧ 1 ≤ n ∧ n ≤ 1000 ∧ Jar K wd p (f + 2) ∧ ∀ r w', Mt p wd w' → Jar K w' p f → 0 ≤ r → r ≤ 10 ^ 30 - 1 → Q (.int r) w'.H
def spDays (K : PySem.W.Frag) : Sp := fun vs H Q _ => ∃ (wd : Wd) (p : Addr) (n m : Int) (f : Nat), wd.H = H ∧ vs = [.ref p, .int n, .int m] ∧ 0 ≤ n ∧ n ≤ 67 ∧ 0 ≤ m ∧ m ≤ 10 ^ 30 ∧ Jar K wd p (f + 2 * n.toNat + 1) ∧
  ∀ v l w', Mt p wd w' → Jar K w' p f → (Rep.list Rep.int).r K w'.S v l → (l.length : Int) = n → (∀ z ∈ l, 0 ≤ z ∧ z ≤ m) → Q v w'.H
def spSize (K : PySem.W.Frag) : Sp := fun vs H Q _ => ∃ (wd : Wd) (p : Addr) (n : Int) (f : Nat), wd.H = H ∧ vs = [.ref p, .int n] ∧ 8 ≤ n ∧ n ≤ 67 ∧ Jar K wd p (f + 2) ∧ ∀ t a b w', Mt p wd w' → Jar K w' p f → 1 ≤ a → a ≤ 8 → a ≤ b → b ≤ n → (Rep.pair Rep.int Rep.int).r K w'.S t (a, b) → Q t w'.H
section
variable {K : PySem.W.Frag} {σ : L2.St} {w w' : Wd} {ta tb tc te : TE} {D : Ends} {tz : TS} {p : Addr}
theorem retX {H : Hp} (h : te σ H D.rt) : tRet te D σ H := h
theorem sasgX {i : Nat} {H : Hp} (h : te σ H fun x H1 => D.nx (σ.set i (some x)) H1) : tAsg te (gName i) D σ H := h
theorem sub_run {t1 t2 : TE} {H : Hp} {Q : VK} (h : t1 σ H fun x H1 => t2 σ H1 fun y H2 => ∃ i j, x = .int i ∧ y = .int j ∧ Q (.int (i - j)) H2) : tOp (rI0 fun i j => .int (i - j)) t1 t2 σ H Q := h
theorem ix_run {H : Hp} {Q : VK} (h : ta σ H fun x H1 => tb σ H1 fun y H2 => rIxL K x y H2 Q) : tOp (rIxL K) ta tb σ H Q := h
theorem tup2_run {H : Hp} {Q : VK} (h : ta σ H fun x H1 => tb σ H1 fun y H2 => [x, y].length ≤ sizeLine ∧ ∀ p, H2 p = none → Q (.ref p) (upd H2 p (.tup [x, y]))) : tTup (tCons ta (tCons tb tNil)) σ H Q := h
end
section
variable {P : Program} {w : World} {K : PySem.W.Frag} {mg : Str → Option Value} {base : Heap}
theorem pow30 : (10 : Int) ^ (30 : Int).toNat = 1000000000000000000000000000000 := by decide +kernel
theorem ok__law_sums (T : Tx K mg) : FnOk P w K mg base CX0 1 (He.ga K "_law_sums") T.d__law_sums ["numbers_here", "size"] (spN2 K (Rep.list Rep.int) Rep.int (fun x L => 1 ≤ L ∧ L ≤ 8 ∧ L ≤ x.length ∧ x.length ≤ 67) Rep.int sumsL) := by
  have nd := sc__law_sums.nd
  refine okN2 T.F__law_sums sc__law_sums rfl fun cdv A outer s H E hr => ⟨_, (pss_cons (ps_set (i := 2) nd rfl (Or.inl rfl) (pe_lst pa_nil))
      (pss_cons (ps_for PassesOwn.never rfl (pi_range1 (by rfl) T.n_range (pa_cons (pe_op op_add (pe_op op_sub (pe_callB (show CallR _ _ (Evl.rLenS K) from call_len_seq) (by rfl) T.n_len (by decide +kernel) (pa_cons (pv 0) pa_nil)) (pv 1)) pe_int) pa_nil)) (pg_name (i := 3) nd rfl (Or.inl rfl)) (pss_cons (ps_set (i := 4) nd rfl (Or.inl rfl) pe_int)
      (pss_cons (ps_for PassesOwn.never rfl (pi_range1 (by rfl) T.n_range (pa_cons (pv 1) pa_nil)) (pg_name (i := 5) nd rfl (Or.inl rfl)) (pss_one (ps_set (i := 4) nd rfl (Or.inl rfl) (pe_op op_add (pv 4) (pe_ix (show IxR _ (rIxL K) from ix_list) (pv 0) (pe_op op_add (pv 3) (pv 5)) (fun _ _ => rfl))))))
      (pss_one (ps_expr (pe_bm PySem.F.plainAttrs_list PySem.F.slot_list_append PySem.F.type_list_append mt_append (pv 2) (pa_cons (pv 4) pa_nil)))))))
      (pss_one (ps_ret (pv 2))))), fun wd x y l L Q hx hy hp q => ?_⟩
  cases hy
  refine q_asgN (K := K) (en_lst (e := Rep.int) el_nil) fun p w1 g1 n1 o1 => ?_
  refine q_for (K := K) (ei_range1 (ev_add (ev_sub (ev_len (ev_var rfl (rp_gr g1 hx))) (ev_varI rfl)) ev_int) (by omega)) (fun i σ z => ∃ y1 y2 y3 : Option V, σ = [some x, some (.int L), some (.ref p), y1, y2, y3] ∧ GrC wd z ∧ OwnL K z p Rep.int ((sumsL l L).take i)) (fun z g => ⟨none, none, none, rfl, ⟨g1.trans g⟩, o1.gr g⟩) ?_ ?_
  · intro i a v σ z z2 ha hxz hI gz hra
    obtain ⟨y1, y2, y3, rfl, cz, oz⟩ := hI
    cases hra
    have ham := irange_mem.mp (List.mem_of_getElem? ha)
    refine q_asg (K := K) ev_int fun v0 z3 g3 r3 => ?_
    cases r3
    refine q_for (K := K) (ei_range1 (ev_varI rfl) (by omega)) (fun m σ u => ∃ y3 : Option V, σ = [some x, some (.int L), some (.ref p), some (.int a), some (.int (isum (fun j => gI l (a + j)) (m : Int))), y3] ∧ GrC wd u ∧ Gr z u) (fun u g => ⟨y3, by rw [isum_zero]; rfl, ⟨((cz.g.trans gz).trans g3).trans g⟩, (gz.trans g3).trans g⟩) ?_ ?_
    · intro m b v σ u u2 hb hxu hI gu hrb
      obtain ⟨y3, rfl, cu, gzu⟩ := hI
      cases hrb
      obtain ⟨rfl, hb2⟩ := irange_get' hb
      refine s_asg (K := K) (ev_add (ev_varI rfl) (ev_ix (ev_var rfl (rp_gr (cu.g.trans gu) hx)) (ev_add (ev_varI rfl) (ev_varI rfl)) (atI_gI (by omega) (by omega)))) fun v u4 g4 r4 => ?_
      cases r4
      dsimp only
      refine nxt ?_ ?_
      · exact (gu.trans g4).s
      · refine ⟨some (.int (0 + (m : Int))), ?_, ⟨(cu.g.trans gu).trans g4⟩, (gzu.trans gu).trans g4⟩
        rw [isum_succ, show (0 : Int) + (m : Int) = m by omega]; rfl
    · intro σ u hxu hI
      obtain ⟨y3, rfl, cu, gzu⟩ := hI
      rw [irange_len, show (((L - 0).toNat : Nat) : Int) = L by omega]
      have hs : (sumsL l L)[i]? = some (isum (fun j => gI l (a + j)) L) := by
        unfold sumsL
        rw [List.getElem?_map, ha]; rfl
      refine s_app (K := K) (oz.gr gzu) rfl (ev_varI rfl) (by rw [List.length_take]; have := sumsL_len (x := l) (L := L) hp.2.2.1; omega) fun w4 m4 o4 => ?_
      dsimp only
      refine nxt ?_ ?_
      · exact gzu.s.trans m4.s
      · refine ⟨_, _, _, rfl, gc_mt cu m4 n1, ?_⟩
        rw [List.take_add_one, hs]
        exact o4
  · intro σ z hxz hI
    obtain ⟨y1, y2, y3, rfl, cz, oz⟩ := hI
    refine s_retO rfl (q p z cz.g n1 ?_)
    have : (irange 0 ((l.length : Int) - L + 1)).length = (sumsL l L).length := by unfold sumsL; rw [List.length_map]
    rw [this, List.take_length] at oz
    exact oz
theorem ok__law_top (T : Tx K mg) : FnOk P w K mg base CX0 2 (He.ga K "_law_top") T.d__law_top ["jar"] (spTop K) := by
  have nd := sc__law_top.nd
  refine FunD.ok T.F__law_top sc__law_top (fun vs H Q E h => by obtain ⟨wd, p, f, _, rfl, _⟩ := h; rfl) fun cdv A outer s H vs Q E hr h => ⟨_, PSs.nox (pss_cons (ps_set (i := 1) nd rfl (Or.inl rfl) (pe_call (ok__law_dip T) (hr.mono (by decide)) (by rfl) T.g__law_dip T.F__law_dip.kp (b__law_dip T) .nil pass0 (pa_cons (pv 0) (pa_cons pe_int pa_nil))))
      (pss_cons (ps_if (pt_cmpR op_eq (pv 1) pe_int (nomark _)) (pss_one (ps_ret (pe_op op_sub (pe_op op_sub (pe_op op_powW pe_int pe_int) pe_int) (pe_call (ok__law_dip T) (hr.mono (by decide)) (by rfl) T.g__law_dip T.F__law_dip.kp (b__law_dip T) .nil pass0 (pa_cons (pv 0) (pa_cons (pe_op op_powW pe_int pe_int) pa_nil)))))) pss_nil)
      (pss_one (ps_ret (pe_call (ok__law_dip T) (hr.mono (by decide)) (by rfl) T.g__law_dip T.F__law_dip.kp (b__law_dip T) .nil pass0 (pa_cons (pv 0) (pa_cons (pe_ix (show IxR _ (rIxL K) from ix_list) (pe_lst (pa_cons pe_int (pa_cons pe_int pa_nil))) (pv 1) (fun _ _ => rfl)) pa_nil))))))), ?_⟩
  try dsimp only [cxOf]
  obtain ⟨wd, p, f, rfl, rfl, j0, q⟩ := h
  refine asgX (dip_run (K := K) (i := 0) (f := f + 1) rfl j0 ev_int (by decide) (by decide) fun r w1 m1 j1 r0 r3 => ?_)
  refine q_when (K := K) (et_test (ev_eqI (ev_varI rfl) ev_int)) (fun ht w2 g2 => ?_) (fun ht w2 g2 => ?_)
  · refine retX (sub_run (EvD.run (K := K) (ev_sub (ev_pow ev_int ev_int (pow_ok (n := 4) (by decide) (by decide) (by decide) (by decide))) ev_int) fun v w3 g3 r3 => dip_run (K := K) (i := 0) (f := f) rfl (j1.gr (g2.trans g3)) (ev_pow ev_int ev_int (pow_ok (n := 4) (by decide) (by decide) (by decide) (by decide))) (by rw [pow30]; decide) (by rw [pow30]; decide +kernel) fun d w4 m4 j4 d0 d1 => ⟨_, _, r3, rfl, ?_⟩))
    rw [pow30] at d1 ⊢
    exact q _ w4 (m1.trans (((g2.trans g3).mt j1.ne).trans m4)) j4 (by omega) (by omega)
  · have hr2 : r = 0 ∨ r = 1 := by have := of_decide_eq_false ht; omega
    have hat : ∃ m : Int, 0 < m ∧ m ≤ 30 ∧ atI ([4, 30] : List Int) r = some m := by
      rcases hr2 with rfl | rfl
      · exact ⟨4, by decide, by decide, rfl⟩
      · exact ⟨30, by decide, by decide, rfl⟩
    obtain ⟨m, hm0, hm1, hm⟩ := hat
    refine retX (dip_run (K := K) (i := 0) (f := f) rfl (j1.gr g2) (ev_ix (EvN.d (en_lst (el_cons ev_int (el_cons ev_int el_nil)))) (ev_varI rfl) hm) hm0 (Nat.lt_of_lt_of_le (show m.natAbs < 2 ^ 5 by omega) (Nat.pow_le_pow_right (by decide) (by decide))) fun d w4 m4 j4 d0 d1 => ?_)
    exact q _ w4 (m1.trans ((g2.mt j1.ne).trans m4)) j4 d0 (by omega)
theorem ok__law_high (T : Tx K mg) : FnOk P w K mg base CX0 3 (He.ga K "_law_high") T.d__law_high ["jar", "parts"] (spHigh K) := by
  have nd := sc__law_high.nd
  refine FunD.ok T.F__law_high sc__law_high (fun vs H Q E h => by obtain ⟨wd, p, n, f, _, rfl, _⟩ := h; rfl) fun cdv A outer s H vs Q E hr h => ⟨_, PSs.nox (pss_cons (ps_set (i := 2) nd rfl (Or.inl rfl) (pe_call (ok__law_top T) (hr.mono (by decide)) (by rfl) T.g__law_top T.F__law_top.kp (b__law_top T) .nil pass0 (pa_cons (pv 0) pa_nil)))
      (pss_one (ps_ret (pe_ifExp (pt_cmpR op_gt (pv 2) (pe_op op_powW pe_int pe_int) (nomark _)) (pe_op op_fdivW (pv 2) (pv 1)) (pv 2))))), ?_⟩
  try dsimp only [cxOf]
  obtain ⟨wd, p, n, f, rfl, rfl, hn1, hn2, j0, q⟩ := h
  refine asgX ⟨_, rfl, wd, p, f, rfl, rfl, j0, fun r w1 m1 j1 r0 r1 => ?_⟩
  refine s_ret (K := K) (ev_ifV (et_test (ev_gt (ev_varI rfl) (ev_pow ev_int ev_int (pow_ok (n := 4) (by decide) (by decide) (by decide) (by decide))))) (fun _ => ev_div (ev_varI rfl) (ev_varI rfl) (wide_div (b := 11) (by omega) (by omega) (by decide) (by decide))) (fun _ => ev_varI rfl)) fun v w2 g2 r2 => ?_
  cases r2
  refine q _ w2 (m1.trans (g2.mt j1.ne)) (j1.gr g2) ?_ ?_
  · split
    · exact Int.ediv_nonneg r0 (by omega)
    · exact r0
  · split
    · exact Int.le_trans (Int.ediv_le_self _ r0) r1
    · exact r1
theorem ok__law_size (T : Tx K mg) : FnOk P w K mg base CX0 2 (He.ga K "_law_size") T.d__law_size ["jar", "most_days"] (spSize K) := by
  have nd := sc__law_size.nd
  refine FunD.ok T.F__law_size sc__law_size (fun vs H Q E h => by obtain ⟨wd, p, n, f, _, rfl, _⟩ := h; rfl) fun cdv A outer s H vs Q E hr h => ⟨_, PSs.nox (pss_cons (ps_set (i := 2) nd rfl (Or.inl rfl) (pe_op op_add pe_int (pe_call (ok__law_dip T) (hr.mono (by decide)) (by rfl) T.g__law_dip T.F__law_dip.kp (b__law_dip T) .nil pass0 (pa_cons (pv 0) (pa_cons pe_int pa_nil)))))
      (pss_one (ps_ret (pe_tup (pa_cons (pv 2) (pa_cons (pe_op op_add (pv 2) (pe_call (ok__law_dip T) (hr.mono (by decide)) (by rfl) T.g__law_dip T.F__law_dip.kp (b__law_dip T) .nil pass0 (pa_cons (pv 0) (pa_cons (pe_op op_add (pe_op op_sub (pv 1) (pv 2)) pe_int) pa_nil)))) pa_nil)))))), ?_⟩
  try dsimp only [cxOf]
  obtain ⟨wd, p, n, f, rfl, rfl, hn1, hn2, j0, q⟩ := h
  refine asgX (add_run (EvD.run (K := K) (r := Rep.int) ev_int fun v1 w1 g1 r1 => dip_run (K := K) (i := 0) (f := f + 1) rfl (j0.gr g1) ev_int (by decide) (by decide) fun a w2 m2 j2 a0 a1 => ⟨_, _, r1, rfl, ?_⟩))
  have j2' : Jar K w2 p (f + 1) := j2
  refine retX (tup2_run (EvD.run (K := K) (r := Rep.int) (ev_varI rfl) fun v3 w3 g3 r3 => add_run (EvD.run (K := K) (r := Rep.int) (ev_varI rfl) fun v4 w4 g4 r4 => dip_run (K := K) (i := 0) (f := f) rfl (j2'.gr (g3.trans g4)) (ev_add (ev_sub (ev_varI rfl) (ev_varI rfl)) ev_int) (by omega) (Nat.lt_of_lt_of_le (show (n - (1 + a) + 1).natAbs < 2 ^ 7 by omega) (Nat.pow_le_pow_right (by decide) (by decide))) fun b w5 m5 j5 b0 b1 => ⟨_, _, r4, rfl, by show 2 ≤ sizeLine; decide, fun t ht => ?_⟩)))
  cases r3
  exact q _ (1 + a) (1 + a + b) (w5.put t _) ((g1.mt j0.ne).trans (m2.trans (((g3.trans g4).mt j2'.ne).trans (m5.trans ((gr_put ht).mt j5.ne))))) (j5.gr (gr_put ht)) (by omega) (by omega) (by omega) (by omega) ⟨t, _, _, rfl, SqT.of put_s, rfl, rfl⟩
theorem ok__law_days (T : Tx K mg) : FnOk P w K mg base CX0 2 (He.ga K "_law_days") T.d__law_days ["jar", "many", "top"] (spDays K) := by
  have nd := sc__law_days.nd
  refine FunD.ok T.F__law_days sc__law_days (fun vs H Q E h => by obtain ⟨wd, p, n, m, f, _, rfl, _⟩ := h; rfl) fun cdv A outer s H vs Q E hr h => ⟨_, PSs.nox (pss_cons (ps_set (i := 3) nd rfl (Or.inl rfl) (pe_call (ok__law_dip T) (hr.mono (by decide)) (by rfl) T.g__law_dip T.F__law_dip.kp (b__law_dip T) .nil pass0 (pa_cons (pv 0) (pa_cons pe_int pa_nil))))
      (pss_cons (ps_setLc (i := 4) (own := [("turn", 5)]) (g := gName 5) (tt := tYes) rfl nd rfl rfl (sw_true rfl rfl rfl (by decide +kernel)) (pi_range1 (by rfl) T.n_range (pa_cons (pv 1) pa_nil)) (blkOk_by (own := [("turn", 5)]) (N := ["jar", "many", "top", "way_here", "found", "turn", "one"]) (sc := defScope s__law_days) (by decide +kernel)) (fun _ _ _ _ _ => (pg_name (i := 5) nd rfl (by first | exact Or.inl rfl | exact Or.inr rfl))) (fun _ _ _ _ _ => pts_nil) (fun _ _ _ _ _ => (pe_call (ok__law_dip T) (hr.mono (by decide)) (by rfl) T.g__law_dip T.F__law_dip.kp (b__law_dip T) .nil pass0 (pa_cons (pv 0) (pa_cons (pe_op op_add (pv 2) pe_int) pa_nil)))))
      (pss_cons (ps_if (pt_cmpR op_eq (pv 3) pe_int (nomark _)) (pss_one (ps_setLc (i := 4) (own := [("one", 6)]) (g := gName 6) (tt := tYes) rfl nd rfl rfl (sw_true rfl rfl rfl (by decide +kernel)) (pi_list (pv 4)) (blkOk_by (own := [("one", 6)]) (N := ["jar", "many", "top", "way_here", "found", "turn", "one"]) (sc := defScope s__law_days) (by decide +kernel)) (fun _ _ _ _ _ => (pg_name (i := 6) nd rfl (by first | exact Or.inl rfl | exact Or.inr rfl))) (fun _ _ _ _ _ => pts_nil) (fun _ _ _ _ _ => (pe_ix (show IxR _ (rIxL K) from ix_list) (pe_lst (pa_cons pe_int (pa_cons (pv 2) (pa_cons (pv 6) pa_nil)))) (pe_call (ok__law_dip T) (hr.mono (by decide)) (by rfl) T.g__law_dip T.F__law_dip.kp (b__law_dip T) .nil pass0 (pa_cons (pv 0) (pa_cons pe_int pa_nil))) (fun _ _ => rfl))))) pss_nil)
      (pss_one (ps_ret (pv 4)))))), ?_⟩
  try dsimp only [cxOf]
  obtain ⟨wd, p, n, m, f, rfl, rfl, hn0, hn1, hm0, hm1, j0, q⟩ := h
  refine asgX (dip_run (K := K) (i := 0) (f := f + 2 * n.toNat) rfl j0 ev_int (by decide) (by decide) fun r w1 m1 j1 r0 r3 => ?_)
  have hm9 : (m + 1).natAbs < 2 ^ 9000 := Nat.lt_of_lt_of_le (show (m + 1).natAbs < 2 ^ 110 by omega) (Nat.pow_le_pow_right (by decide) (by decide))
  refine asgX (lc_jar (K := K) (p := p) (e := Rep.int) (e' := Rep.int) (l := irange 0 n) (fun i w' => Jar K w' p (f + 2 * n.toNat - i)) (fun b => 0 ≤ b ∧ b ≤ m) (ei_range1 (ev_varI rfl) (by omega)) (by rw [irange_len]; omega) (fun _ => rfl) (fun _ _ j => j.ne) (fun _ g => j1.gr g) (fun _ _ _ j g => j.gr g) (fun _ d _ _ ne j mm => j.mt mm ne) (fun i a v w' ha xw j ra Q' k' => ?_) (fun q1 l1 w2 m2 j2 n2 ne2 o2 hl2 hp2 => ?_))
  · have hi := (irange_get' ha).2
    exact dip_run (K := K) (i := 0) (f := f + 2 * n.toNat - (i + 1)) rfl (j.le (by omega)) (ev_add (ev_varI rfl) ev_int) (by omega) hm9 fun d w4 m4 j4 d0 d1 => k' _ d w4 m4 j4 rfl ⟨d0, by omega⟩
  · rw [irange_len] at hl2 j2
    obtain ⟨w3, e3, m3, rr⟩ := o2.fix
    rw [← e3]
    have m13 : Mt p w1 w3 := m2.then m3 n2
    have j3 : Jar K w3 p (f + n.toNat) := (j2.mt m3 (Ne.symm ne2)).le (by omega)
    refine q_if (K := K) (et_test (ev_eqI (ev_varI rfl) ev_int)) (fun ht w4 g4 => ?_) (fun ht w4 g4 => ?_)
    · have j4 := j3.gr g4
      refine sasgX (lc_jar (K := K) (p := p) (e := Rep.int) (e' := Rep.int) (l := l1) (fun i w' => Jar K w' p (f + n.toNat - i)) (fun b => 0 ≤ b ∧ b ≤ m) (ei_list (ev_var rfl (rp_gr g4 rr))) (by omega) (fun _ => rfl) (fun _ _ j => j.ne) (fun _ g => j4.gr g) (fun _ _ _ j g => j.gr g) (fun _ d _ _ ne j mm => j.mt mm ne) (fun i a v w' ha xw j ra Q' k' => ?_) (fun q2 l2 w5 m5 j5 n5 ne5 o5 hl5 hp5 => ?_))
      · have hi := (List.getElem?_eq_some_iff.mp ha).1
        have hal := hp2 a (List.mem_of_getElem? ha)
        cases ra
        refine ix_run (EvN.run (K := K) (r := Rep.int) (l := [0, m, a]) (en_lst (el_cons ev_int (el_cons (ev_varI rfl) (el_cons (ev_varI rfl) el_nil)))) fun pl w6 g6 n6 o6 => dip_run (K := K) (i := 0) (f := f + n.toNat - (i + 1)) rfl ((j.gr g6).le (by omega)) ev_int (by decide) (by decide) fun d w7 m7 j7 d0 d1 => ?_)
        obtain ⟨xs, ow, hp⟩ := o6.mt m7 (j.apart n6)
        rw [paired_ints hp] at ow
        have hd : d = 0 ∨ d = 1 ∨ d = 2 := by omega
        have hat : ∃ c : Int, (0 ≤ c ∧ c ≤ m) ∧ atI (([0, m, a] : List Int).map V.int) d = some (.int c) := by
          rcases hd with rfl | rfl | rfl
          · exact ⟨0, ⟨Int.le_refl _, hm0⟩, rfl⟩
          · exact ⟨m, ⟨hm0, Int.le_refl _⟩, rfl⟩
          · exact ⟨a, hal, rfl⟩
        obtain ⟨c, hc, hat⟩ := hat
        exact ⟨pl, _, d, .int c, rfl, rfl, SqL.of ow.h, hat, k' _ c w7 ((g6.mt j.ne).trans m7) j7 rfl hc⟩
      · obtain ⟨w6, e6, m6, r6⟩ := o5.fix
        rw [← e6]
        refine s_ret (K := K) (ev_var rfl r6) fun v w7 g7 r7 => ?_
        have j6 := j5.mt m6 (Ne.symm ne5)
        exact q v l2 w7 (m1.trans (m13.trans ((g4.mt j3.ne).trans ((m5.then m6 n5).trans (g7.mt j6.ne))))) ((j6.gr g7).le (by omega)) r7 (by omega) hp5
    · refine s_ret (K := K) (ev_var rfl (rp_gr g4 rr)) fun v w7 g7 r7 => ?_
      exact q v l1 w7 (m1.trans (m13.trans ((g4.trans g7).mt j3.ne))) ((j3.gr (g4.trans g7)).le (by omega)) r7 (by omega) hp2
end
end WK

namespace WK
open PySem PySem.Spec PyProof.Rows L2
section
variable {P : Program} {w : World} {K : PySem.W.Frag} {mg : Str → Option Value} {base : Heap}
theorem ok__law_gaps (T : Tx K mg) : FnOk P w K mg base CX0 1 (He.ga K "_law_gaps") T.d__law_gaps ["sums_here", "size"] (spN2 K (Rep.list Rep.int) Rep.int VS Rep.int offs) := by
  have nd := sc__law_gaps.nd
  refine okN2 T.F__law_gaps sc__law_gaps rfl fun cdv A outer s H E hr => ⟨_, (pss_cons (ps_set (i := 2) nd rfl (Or.inl rfl) (pe_op op_rep (pe_lst (pa_cons pe_int pa_nil)) (pv 1)))
      (pss_cons (ps_for PassesOwn.never rfl (pi_range1 (by rfl) T.n_range (pa_cons (pe_op op_sub (pe_callB (show CallR _ _ (Evl.rLenS K) from call_len_seq) (by rfl) T.n_len (by decide +kernel) (pa_cons (pv 0) pa_nil)) pe_int) pa_nil)) (pg_name (i := 3) nd rfl (Or.inl rfl)) (pss_cons (ps_set (i := 4) nd rfl (Or.inl rfl) (pe_op op_sub (pe_ix (show IxR _ (rIxL K) from ix_list) (pv 0) (pe_op op_add (pv 3) pe_int) (fun _ _ => rfl)) (pe_ix (show IxR _ (rIxL K) from ix_list) (pv 0) (pv 3) (fun _ _ => rfl))))
      (pss_one (ps_expr (pe_bm PySem.F.plainAttrs_list PySem.F.slot_list_append PySem.F.type_list_append mt_append (pv 2) (pa_cons (pe_op op_add (pe_ix (show IxR _ (rIxL K) from ix_list) (pv 2) (pe_un un_neg (pv 1)) (fun _ _ => rfl)) (pv 4)) pa_nil))))))
      (pss_one (ps_ret (pv 2))))), fun wd x y l L Q hx hy hp q => ?_⟩
  cases hy
  have h1 := hp.ne; have h2 := hp.lo; have h3 := hp.hi; have h4 := hp.days
  refine q_asgN (K := K) (en_rep (en_lst (el_cons ev_int el_nil)) (ev_varI rfl) ⟨by omega, by simp; omega, by omega⟩) fun p w1 g1 n1 o1 => ?_
  have e0 : (List.replicate L.toNat ([0] : List Int)).flatten = offsK l L.toNat 0 := by
    unfold offsK; simp
  rw [e0] at o1
  refine q_for (K := K) (ei_range1 (ev_sub (ev_len (ev_var rfl (rp_gr g1 hx))) ev_int) (by omega)) (fun i σ z => ∃ y1 y2 : Option V, σ = [some x, some (.int L), some (.ref p), y1, y2] ∧ GrC wd z ∧ OwnL K z p Rep.int (offsK l L.toNat i)) (fun z g => ⟨none, none, rfl, ⟨g1.trans g⟩, o1.gr g⟩) ?_ ?_
  · intro i a v σ z z2 ha hxz hI gz hra
    obtain ⟨y1, y2, rfl, cz, oz⟩ := hI
    cases hra
    obtain ⟨rfl, hi⟩ := irange_get' ha
    have hr2 := rp_gr gz (rp_gr cz.g hx)
    have hlen : (offsK l L.toNat i).length = L.toNat + i := offsK_len
    refine q_asg (K := K) (ev_sub (ev_ix (ev_var rfl hr2) (ev_add (ev_varI rfl) ev_int) (atI_gI (by omega) (by omega))) (ev_ix (ev_var rfl hr2) (ev_varI rfl) (atI_gI (by omega) (by omega)))) fun vs z3 g3 r3 => ?_
    cases r3
    have o3 := (oz.gr gz).gr g3
    have hat : atI (offsK l L.toNat i) (-L) = some ((offsK l L.toNat i).getD i 0) := by
      have := atI_neg (l := offsK l L.toNat i) (j := L.toNat) (x := (offsK l L.toNat i).getD i 0) (by omega) (by rw [hlen, show L.toNat + i - L.toNat = i by omega]; exact getD_some (by omega)) (by omega)
      rwa [Int.toNat_of_nonneg (by omega)] at this
    refine s_app (K := K) o3 rfl (ev_add (ev_ixO o3 rfl (ev_neg (ev_varI rfl)) hat) (ev_varI rfl)) (by omega) fun w4 m4 o4 => ?_
    dsimp only
    refine nxt ?_ ?_
    · exact (gz.trans g3).s.trans m4.s
    · refine ⟨_, _, rfl, gc_mt (gc_gr cz (gz.trans g3)) m4 n1, ?_⟩
      rw [offsK_succ]
      have e : (offsK l L.toNat i).getD i 0 + (gI l (0 + (i : Int) + 1) - gI l (0 + (i : Int))) = (offsK l L.toNat i).getD i 0 + l.getD (i + 1) 0 - l.getD i 0 := by
        unfold gI
        rw [show (0 + (i : Int) + 1).toNat = i + 1 by omega, show (0 + (i : Int)).toNat = i by omega]
        omega
      rw [e] at o4
      exact o4
  · intro σ z hxz hI
    obtain ⟨y1, y2, rfl, cz, oz⟩ := hI
    refine s_retO rfl ?_
    refine q p z cz.g n1 ?_
    rw [irange_len] at oz
    unfold offs
    rw [show ((l.length : Int) - 1 - 0).toNat = l.length - 1 by omega] at oz
    exact oz
end
end WK

namespace WK
open PySem PySem.Spec PyProof.Rows L2
/-! ### the law's own ranges -/
section
variable {K : PySem.W.Frag} {σ : L2.St} {w w' : Wd} {ta tb tc te : TE} {α β γ : Type} {r : Rep α} {rb : Rep β} {rc : Rep γ} {a : α} {b : β} {c : γ} {l : List β} {l2 : List γ} {D : Ends} {tz : TS} {p t : Addr}
theorem q_tupVNN {i j k n : Nat} (h : EvD K ta σ w r a) (h2 : EvN K tb σ w rb l) (h3 : EvN K tc σ w rc l2) (hn : n = 3) (q : ∀ v p p' w', Gr w w' → r.r K w'.S v a → w.H p = none → w.H p' = none → p ≠ p' → OwnL K w' p rb l → OwnL K w' p' rc l2 → tz D (((σ.set i (some v)).set j (some (.ref p))).set k (some (.ref p'))) w'.H) :
    tSeq (tAsg (tTup (tCons ta (tCons tb (tCons tc tNil)))) (gTup K n (gCons (gName i) (gCons (gName j) (gCons (gName k) gNil))))) tz D σ w.H :=
  h w (Gr.refl _) _ fun x w2 g2 rx => h2 w2 g2 _ fun p w3 g3 n3 o3 => h3 w3 (g2.trans g3) _ fun p' w4 g4 n4 o4 => ⟨by show 3 ≤ sizeLine; decide, fun t ht => ⟨t, [x, .ref p, .ref p'], rfl, SqT.of upd_same, hn.symm, x, [.ref p, .ref p'], rfl, .ref p, [.ref p'], rfl, .ref p', [], rfl, rfl,
    q x p p' (w4.put t _) (((g2.trans g3).trans g4).trans (gr_put ht)) (r.m ((g3.trans g4).trans (gr_put ht)).s rx) (fr_back g2 n3) (fr_back (g2.trans g3) n4) (fun z => o3.apart n4 z.symm) ((o3.gr g4).gr (gr_put ht)) (o4.gr (gr_put ht))⟩⟩
theorem q_par3VNV {i j k : Nat} (h : EvD K ta σ w r a) (h2 : EvN K tb σ w rb l) (h3 : EvD K tc σ w rc c) (q : ∀ v p v' w', Gr w w' → r.r K w'.S v a → w.H p = none → OwnL K w' p rb l → rc.r K w'.S v' c → tz D (((σ.set i (some v)).set j (some (.ref p))).set k (some v')) w'.H) :
    tSeq (tPar3 i j k (tCons ta (tCons tb (tCons tc tNil)))) tz D σ w.H :=
  h w (Gr.refl _) _ fun x w2 g2 rx => h2 w2 g2 _ fun p w3 g3 n3 o3 => h3 w3 (g2.trans g3) _ fun z w4 g4 rz => ⟨x, .ref p, z, rfl, q x p z w4 ((g2.trans g3).trans g4) (r.m (g3.trans g4).s rx) (fr_back g2 n3) (o3.gr g4) rz⟩
/-- a tuple of two own lists, settled -/
theorem ret_two {i j : Nat} {p p' : Addr} (hi : σ[i]? = some (some (.ref p))) (hj : σ[j]? = some (some (.ref p'))) (ne : p ≠ p') (o : OwnL K w p rb l) (o' : OwnL K w p' rc l2)
    (q : ∀ v w', (∀ w0, Gr w0 w → w0.H p = none → w0.H p' = none → Gr w0 w') → (Rep.pair (Rep.list rb) (Rep.list rc)).r K w'.S v (l, l2) → D.rt v w'.H) : tRet (tTup (tCons (tVar i) (tCons (tVar j) tNil))) D σ w.H := by
  obtain ⟨w1, e1, m1, r1⟩ := o.fix
  obtain ⟨w2, e2, m2, r2⟩ := (o'.mt m1 (Ne.symm ne)).fix
  rw [← e1, ← e2]
  exact ⟨_, hi, _, hj, by show 2 ≤ sizeLine; decide, fun t ht => q (.ref t) (w2.put t _) (fun w0 g n n' => (m2.gr w0 (m1.gr w0 g n) n').trans (gr_put ht)) ⟨t, _, _, rfl, SqT.of put_s, (Rep.list rb).m (m2.s.trans (gr_put ht).s) r1, (Rep.list rc).m (gr_put ht).s r2⟩⟩
end
theorem srange_get {lo hi c : Int} (hc : 1 ≤ c) {j : Nat} (h : lo + (j : Int) * c < hi) : (srange lo hi c)[j]? = some (lo + (j : Int) * c) := by
  unfold srange
  rw [List.getElem?_map, List.getElem?_range]
  · rfl
  · have : (j : Int) + 1 ≤ (hi - lo + c - 1) / c := (Int.le_ediv_iff_mul_le (by omega)).mpr (by rw [Int.add_mul]; omega)
    omega
theorem srange_out {lo hi c : Int} (hc : 1 ≤ c) {j : Nat} (h : hi ≤ lo + (j : Int) * c) : (srange lo hi c)[j]? = none := by
  cases q : (srange lo hi c)[j]? with
  | none => rfl
  | some a =>
    obtain ⟨e, hl⟩ := srange_get' q
    obtain ⟨m, e2, h2⟩ := (srange_mem hc).mp (List.mem_of_getElem? q)
    omega
theorem cls_srange {o : List Int} {L r : Int} (hL : 1 ≤ L) (hr : 0 ≤ r) : (srange r o.length L).map (gI o) = cls o L r := by
  refine List.ext_getElem? fun j => ?_
  rw [List.getElem?_map, cls_get hL hr]
  have hj := Int.mul_nonneg (show (0 : Int) ≤ j by omega) (show 0 ≤ L by omega)
  rw [Int.mul_comm L]
  by_cases h : r + (j : Int) * L < o.length
  · rw [srange_get hL h, getD_some (l := o) (d := 0) (by omega)]; rfl
  · rw [srange_out hL (by omega), List.getElem?_eq_none (by omega)]; rfl
theorem ffold_bd {lo hi : List Int} {B : Nat} (h : ∀ p, 0 ≤ capM lo hi p) : ∀ (ord : List Int) (st : List Int × Int) (A : Nat), (∀ v ∈ st.1, v.natAbs ≤ A) → 0 ≤ st.2 → st.2 ≤ B → ∀ v ∈ (ord.foldl (fstep lo hi) st).1, v.natAbs ≤ A + ord.length * B
  | [], st, A, ha, _, _ => by simpa using ha
  | p :: ord, st, A, ha, h0, h1 => by
    simp only [List.foldl_cons, List.length_cons]
    have hc := h p
    have hm : (min st.2 (capM lo hi p)).natAbs ≤ B := by omega
    have := ffold_bd h ord (fstep lo hi st p) (A + B) (fun v hv => by
      unfold fstep at hv
      rcases List.mem_or_eq_of_mem_set hv with z | z
      · have := ha v z; omega
      · rw [z]
        have : (gI st.1 p).natAbs ≤ A := getD_bd ha _
        omega) (by show 0 ≤ st.2 - min st.2 (capM lo hi p); omega) (by show st.2 - min st.2 (capM lo hi p) ≤ (B : Int); omega)
    intro v hv
    have := this v hv
    rw [Nat.add_mul]
    omega
theorem ffold_len {lo hi : List Int} : ∀ (ord : List Int) (st : List Int × Int), (ord.foldl (fstep lo hi) st).1.length = st.1.length
  | [], _ => rfl
  | p :: ord, st => by
    rw [List.foldl_cons, ffold_len ord]
    unfold fstep; rw [List.length_set]
theorem ord_mem {ws : List Int} {p : Int} (h : p ∈ ordM ws) : 0 ≤ p ∧ p < ws.length := by
  unfold ordM at h
  obtain ⟨x, hx, rfl⟩ := List.mem_map.mp h
  have := prs_mem ((sortP_perm _).mem_iff.mp hx)
  exact ⟨this.1, this.2.1⟩
theorem ord_len {ws : List Int} : (ordM ws).length = ws.length := by unfold ordM; rw [List.length_map, (sortP_perm _).length_eq, prs_len]
section
variable {P : Program} {w : World} {K : PySem.W.Frag} {mg : Str → Option Value} {base : Heap}
theorem ok__law_box (T : Tx K mg) : FnOk P w K mg base CX0 2 (He.ga K "_law_box") T.d__law_box ["sums_here", "size", "top"] (spD3 K (Rep.list Rep.int) Rep.int Rep.int (fun s L _ => VS s L) (Rep.pair (Rep.list Rep.int) (Rep.list Rep.int)) (fun s L m => (lowsM s L, highsM s L m))) := by
  have nd := sc__law_box.nd
  refine okD3 T.F__law_box sc__law_box rfl fun cdv A outer s H E hr => ⟨_, (pss_cons (ps_asg (pe_tup (pa_cons (pe_call (ok__law_gaps T) (hr.mono (by decide)) (by rfl) T.g__law_gaps T.F__law_gaps.kp (b__law_gaps T) .nil pass0 (pa_cons (pv 0) (pa_cons (pv 1) pa_nil))) (pa_cons (pe_lst pa_nil) (pa_cons (pe_lst pa_nil) pa_nil)))) (pg_tup rfl (pgs_cons (pg_name (i := 3) nd rfl (Or.inr rfl)) (pgs_cons (pg_name (i := 4) nd rfl (Or.inl rfl)) (pgs_cons (pg_name (i := 5) nd rfl (Or.inl rfl)) pgs_nil)))))
      (pss_cons (ps_for PassesOwn.never rfl (pi_range1 (by rfl) T.n_range (pa_cons (pv 1) pa_nil)) (pg_name (i := 6) nd rfl (Or.inl rfl)) (pss_cons (ps_setLc (i := 7) (own := [("day_here", 8)]) (g := gName 8) (tt := tYes) rfl nd rfl rfl (sw_true rfl rfl rfl (by decide +kernel)) (pi_range3 (by rfl) T.n_range (pa_cons (pv 6) (pa_cons (pe_callB (show CallR _ _ (Evl.rLenS K) from call_len_seq) (by rfl) T.n_len (by decide +kernel) (pa_cons (pv 3) pa_nil)) (pa_cons (pv 1) pa_nil)))) (blkOk_by (own := [("day_here", 8)]) (N := ["sums_here", "size", "top", "gaps", "lows", "highs", "rest", "some", "day_here"]) (sc := defScope s__law_box) (by decide +kernel)) (fun _ _ _ _ _ => (pg_name (i := 8) nd rfl (by first | exact Or.inl rfl | exact Or.inr rfl))) (fun _ _ _ _ _ => pts_nil) (fun _ _ _ _ _ => (pe_ix (show IxR _ (rIxL K) from ix_list) (pv 3) (pv 8) (fun _ _ => rfl))))
      (pss_cons (ps_expr (pe_bm PySem.F.plainAttrs_list PySem.F.slot_list_append PySem.F.type_list_append mt_append (pv 4) (pa_cons (pe_op op_sub pe_int (pe_callB (show CallR _ _ (rMin K) from (cr_min rfl)) (by rfl) T.n_min (by decide +kernel) (pa_cons (pv 7) pa_nil))) pa_nil)))
      (pss_one (ps_expr (pe_bm PySem.F.plainAttrs_list PySem.F.slot_list_append PySem.F.type_list_append mt_append (pv 5) (pa_cons (pe_op op_sub (pv 2) (pe_callB (show CallR _ _ (rMax K) from (cr_max rfl)) (by rfl) T.n_max (by decide +kernel) (pa_cons (pv 7) pa_nil))) pa_nil)))))))
      (pss_one (ps_ret (pe_tup (pa_cons (pv 4) (pa_cons (pv 5) pa_nil))))))), fun wd x y z l L m Q hx hy hz hv q => ?_⟩
  cases hy; cases hz
  have hl := hv.offs
  have h1 := hv.ne; have h2 := hv.lo; have h3 := hv.hi; have h4 := hv.days
  refine q_tupVNN (K := K) (EvN.d (en_call2 (ev_var rfl hx) (ev_varI rfl) hv)) (en_lst (e := Rep.int) el_nil) (en_lst (e := Rep.int) el_nil) rfl fun vo p p' w1 g1 ro n1 n1' ne o1 o1' => ?_
  refine q_for (K := K) (ei_range1 (ev_varI rfl) (by omega)) (fun i σ z => ∃ y6 y7 y8 : Option V, σ = [some x, some (.int L), some (.int m), some vo, some (.ref p), some (.ref p'), y6, y7, y8] ∧ GrC wd z ∧ OwnL K z p Rep.int ((lowsM l L).take i) ∧ OwnL K z p' Rep.int ((highsM l L m).take i)) (fun z g => ⟨none, none, none, rfl, ⟨g1.trans g⟩, o1.gr g, o1'.gr g⟩) ?_ ?_
  · intro i a v σ z z2 ha hxz hI gz hra
    obtain ⟨y6, y7, y8, rfl, cz, oz, oz'⟩ := hI
    cases hra
    have ham := irange_mem.mp (List.mem_of_getElem? ha)
    have ro2 := rp_gr gz (rp_ex hxz ro)
    have hne := vs_cls_ne hv ham.1 ham.2
    refine q_asg (K := K) (EvD.eq (EvN.d (en_lc (e' := Rep.int) (by rw [srange_len]; have := div_small (x := (offs l L).length - a + L - 1) h2 (by omega); have hq := Int.ediv_le_self (a := (offs l L).length - a + L - 1) L (by omega); omega) (gI (offs l L)) (ei_srange (ev_varI rfl) (ev_len (ev_var rfl ro2)) (ev_varI rfl) (by omega) (by omega) (by omega)) (fun _ => rfl) fun b v w' hb g r => by
      cases r
      obtain ⟨k, e, hlt⟩ := (srange_mem h2).mp hb
      have := Int.mul_nonneg (show (0 : Int) ≤ k by omega) (show 0 ≤ L by omega)
      exact ev_ix (ev_var rfl (rp_gr g ro2)) (ev_varI rfl) (atI_gI (by omega) (by omega)))) (cls_srange h2 ham.1)) fun vs z3 g3 r3 => ?_
    have hlo : (lowsM l L)[i]? = some (0 - minL (cls (offs l L) L a)) := by
      unfold lowsM classes
      rw [List.map_map, List.getElem?_map, ha]; rfl
    have hhi : (highsM l L m)[i]? = some (m - maxL (cls (offs l L) L a)) := by
      unfold highsM classes
      rw [List.map_map, List.getElem?_map, ha]; rfl
    have g23 := gz.trans g3
    refine q_app (K := K) (oz.gr g23) rfl (ev_sub ev_int (ev_minL (ev_var rfl r3) hne)) (by rw [List.length_take, lowsM_len]; omega) fun z4 m4 o4 => ?_
    refine s_app (K := K) ((oz'.gr g23).mt m4 (Ne.symm ne)) rfl (ev_sub (ev_varI rfl) (ev_maxL (ev_var rfl (rp_mt m4 r3)) hne)) (by rw [List.length_take, highsM_len]; omega) fun z5 m5 o5 => ?_
    dsimp only
    refine nxt ?_ ?_
    · exact g23.s.trans (m4.s.trans m5.s)
    · refine ⟨_, _, _, rfl, gc_mt (gc_mt (gc_gr cz g23) m4 n1) m5 n1', ?_, ?_⟩
      · rw [List.take_add_one, hlo]
        exact o4.mt m5 ne
      · rw [List.take_add_one, hhi]
        exact o5
  · intro σ z hxz hI
    obtain ⟨y6, y7, y8, rfl, cz, oz, oz'⟩ := hI
    have e1 : (irange 0 L).length = (lowsM l L).length := by rw [irange_len, lowsM_len]; omega
    have e2 : (irange 0 L).length = (highsM l L m).length := by rw [irange_len, highsM_len]; omega
    rw [e1, List.take_length] at oz
    rw [e2, List.take_length] at oz'
    exact ret_two (K := K) rfl rfl ne oz oz' fun v w' hg rr => q v w' (hg wd cz.g n1 n1') rr
theorem ok__law_filled (T : Tx K mg) : FnOk P w K mg base CX0 1 (He.ga K "_law_filled") T.d__law_filled ["lows", "highs", "total", "order_here"] (spN4 K (Rep.list Rep.int) (Rep.list Rep.int) Rep.int (Rep.list Rep.int) (fun lo hi tot ord => lo.length = hi.length ∧ lo.length ≤ 8 ∧ ord.length ≤ 100 ∧ ∀ p ∈ ord, 0 ≤ p ∧ p < lo.length) Rep.int filledM) := by
  have nd := sc__law_filled.nd
  refine okN4 T.F__law_filled sc__law_filled rfl fun cdv A outer s H E hr => ⟨_, (pss_cons (ps_par (i := 4) (j := 5) (by rfl) nd rfl rfl (by decide) rfl rfl (pa_cons (pe_callTy (show CallR _ _ (Evl.rListS K) from call_list_of) (by rfl) T.n_list (by decide +kernel) (pa_cons (pv 0) pa_nil)) (pa_cons (pe_op op_sub (pv 2) (pe_callB (show CallR _ _ (rSum K) from (cr_sum rfl)) (by rfl) T.n_sum (by decide +kernel) (pa_cons (pv 0) pa_nil))) pa_nil)) (by rfl))
      (pss_cons (ps_for PassesOwn.never rfl (pi_list (pv 3)) (pg_name (i := 6) nd rfl (Or.inl rfl)) (pss_cons (ps_set (i := 7) nd rfl (Or.inl rfl) (pe_callB (call_min2 rfl) (by rfl) T.n_min (by decide +kernel) (pa_cons (pv 5) (pa_cons (pe_op op_sub (pe_ix (show IxR _ (rIxL K) from ix_list) (pv 1) (pv 6) (fun _ _ => rfl)) (pe_ix (show IxR _ (rIxL K) from ix_list) (pv 0) (pv 6) (fun _ _ => rfl))) pa_nil))))
      (pss_cons (ps_asg (pe_op op_add (pe_ix (show IxR _ (rIxL K) from ix_list) (pv 4) (pv 6) (fun _ _ => rfl)) (pv 7)) (pg_sub (pv 4) (pv 6) set_list))
      (pss_one (ps_set (i := 5) nd rfl (Or.inl rfl) (pe_op op_sub (pv 5) (pv 7)))))))
      (pss_one (ps_ret (pv 4))))), fun wd x0 x1 x2 x3 lo hi tot ord Q hlo hhi htot hord hp q => ?_⟩
  cases htot
  obtain ⟨l1, l2, l3, l4⟩ := hp
  refine q_parNV (K := K) (en_list (ev_var rfl hlo)) (ev_sub (ev_varI rfl) (ev_sum (ev_var rfl hlo))) fun p v w1 g1 n1 o1 r1 => ?_
  cases r1
  refine q_for (K := K) (ei_list (ev_var rfl (rp_gr g1 hord))) (fun i σ z => ∃ y6 y7 : Option V, σ = [some x0, some x1, some (.int tot), some x3, some (.ref p), some (.int ((ord.take i).foldl (fstep lo hi) (lo, tot - lo.sum)).2), y6, y7] ∧ GrC wd z ∧ OwnL K z p Rep.int ((ord.take i).foldl (fstep lo hi) (lo, tot - lo.sum)).1) (fun z g => ⟨none, none, rfl, ⟨g1.trans g⟩, o1.gr g⟩) ?_ ?_
  · intro i a v σ z z2 ha hxz hI gz hra
    obtain ⟨y6, y7, rfl, cz, oz⟩ := hI
    cases hra
    have hst := fold_take (f := fstep lo hi) (b := (lo, tot - lo.sum)) ha
    have hlen := ffold_len (lo := lo) (hi := hi) (ord.take i) (lo, tot - lo.sum)
    have ham := l4 a (List.mem_of_getElem? ha)
    rw [hst]
    generalize (ord.take i).foldl (fstep lo hi) (lo, tot - lo.sum) = st at hlen oz ⊢
    have hlen : st.1.length = lo.length := hlen
    have r2 := rp_gr (cz.g.trans gz) hlo
    have r3 := rp_gr (cz.g.trans gz) hhi
    refine q_asg (K := K) (EvD.eq (ev_min2 (ev_varI rfl) (ev_sub (ev_ix (ev_var rfl r3) (ev_varI rfl) (atI_gI ham.1 (by omega))) (ev_ix (ev_var rfl r2) (ev_varI rfl) (atI_gI ham.1 (by omega))))) (show _ = min st.2 (capM lo hi a) from rfl)) fun v3 z3 g3 r3 => ?_
    cases r3
    have o3 := (oz.gr gz).gr g3
    refine q_set (K := K) o3 rfl (ev_add (ev_ixO o3 rfl (ev_varI rfl) (atI_gI ham.1 (by omega))) (ev_varI rfl)) (ev_varI rfl) ⟨ham.1, by omega⟩ fun z4 m4 o4 => ?_
    refine s_asg (K := K) (ev_sub (ev_varI rfl) (ev_varI rfl)) fun v5 z5 g5 r5 => ?_
    cases r5
    dsimp only
    refine nxt ?_ ?_
    · exact (gz.trans g3).s.trans (m4.s.trans g5.s)
    · exact ⟨_, _, rfl, gc_gr (gc_mt (gc_gr cz (gz.trans g3)) m4 n1) g5, o4.gr g5⟩
  · intro σ z hxz hI
    obtain ⟨y6, y7, rfl, cz, oz⟩ := hI
    rw [List.take_length] at oz
    exact s_retO rfl (q p z cz.g n1 oz)
theorem ok__law_best (T : Tx K mg) : FnOk P w K mg base CX0 3 (He.ga K "_law_best") T.d__law_best ["sums_here", "size", "top", "weights"] (spN4 K (Rep.list Rep.int) Rep.int Rep.int (Rep.list Rep.int) PreWs Rep.int bestM) := by
  have nd := sc__law_best.nd
  refine okN4 T.F__law_best sc__law_best rfl fun cdv A outer s H E hr => ⟨_, (pss_cons (ps_asg (pe_call (ok__law_box T) (hr.mono (by decide)) (by rfl) T.g__law_box T.F__law_box.kp (b__law_box T) .nil pass0 (pa_cons (pv 0) (pa_cons (pv 1) (pa_cons (pv 2) pa_nil)))) (pg_tup rfl (pgs_cons (pg_name (i := 4) nd rfl (Or.inl rfl)) (pgs_cons (pg_name (i := 5) nd rfl (Or.inl rfl)) pgs_nil))))
      (pss_cons (ps_set (i := 6) nd rfl (Or.inl rfl) (pe_callB (show CallR _ _ (rSortedPO K) from cr_sortedPO) (by rfl) T.n_sorted (by decide +kernel) (pa_cons (pe_lc (own := [("spot", 11), ("weight", 12)]) (g := gTup K 2 (gCons (gName 11) (gCons (gName 12) gNil))) (tt := tYes) rfl nd (pi_enum (by rfl) T.n_enumerate (pa_cons (pv 3) pa_nil)) (blkOk_by (own := [("spot", 11), ("weight", 12)]) (N := ["sums_here", "size", "top", "weights", "lows", "highs", "pairs_here", "order_here", "found", "some", "firsts", "spot", "weight", "one"]) (sc := defScope s__law_best) (by decide +kernel)) (fun _ _ _ _ _ => (pg_tup rfl (pgs_cons (pg_name (i := 11) nd rfl (by first | exact Or.inl rfl | exact Or.inr rfl)) (pgs_cons (pg_name (i := 12) nd rfl (by first | exact Or.inl rfl | exact Or.inr rfl)) pgs_nil)))) (fun _ _ _ _ _ => pts_nil) (fun _ _ _ _ _ => (pe_tup (pa_cons (pv 12) (pa_cons (pv 11) pa_nil))))) pa_nil)))
      (pss_cons (ps_setLc (i := 7) (own := [("weight", 12), ("spot", 11)]) (g := gTup K 2 (gCons (gName 12) (gCons (gName 11) gNil))) (tt := tYes) rfl nd rfl rfl (sw_true rfl rfl rfl (by decide +kernel)) (pi_list (pv 6)) (blkOk_by (own := [("weight", 12), ("spot", 11)]) (N := ["sums_here", "size", "top", "weights", "lows", "highs", "pairs_here", "order_here", "found", "some", "firsts", "spot", "weight", "one"]) (sc := defScope s__law_best) (by decide +kernel)) (fun _ _ _ _ _ => (pg_tup rfl (pgs_cons (pg_name (i := 12) nd rfl (by first | exact Or.inl rfl | exact Or.inr rfl)) (pgs_cons (pg_name (i := 11) nd rfl (by first | exact Or.inl rfl | exact Or.inr rfl)) pgs_nil)))) (fun _ _ _ _ _ => pts_nil) (fun _ _ _ _ _ => (pv 11)))
      (pss_cons (ps_set (i := 8) nd rfl (Or.inl rfl) (pe_lst pa_nil))
      (pss_cons (ps_for PassesOwn.never rfl (pi_tup (pe_tup (pa_cons (pv 7) (pa_cons (pe_revL (pv 7)) pa_nil)))) (pg_name (i := 9) nd rfl (Or.inl rfl)) (pss_cons (ps_set (i := 10) nd rfl (Or.inl rfl) (pe_call (ok__law_filled T) (hr.mono (by decide)) (by rfl) T.g__law_filled T.F__law_filled.kp (b__law_filled T) .nil pass0 (pa_cons (pv 4) (pa_cons (pv 5) (pa_cons (pe_ix (show IxR _ (rIxL K) from ix_list) (pv 0) pe_int (fun _ _ => rfl)) (pa_cons (pv 9) pa_nil))))))
      (pss_one (ps_expr (pe_bm PySem.F.plainAttrs_list PySem.F.slot_list_append PySem.F.type_list_append mt_append (pv 8) (pa_cons (pe_callB (show CallR _ _ (rSum K) from (cr_sum rfl)) (by rfl) T.n_sum (by decide +kernel) (pa_cons (pe_lc (own := [("weight", 12), ("one", 13)]) (g := gTup K 2 (gCons (gName 12) (gCons (gName 13) gNil))) (tt := tYes) rfl nd (pi_zip (by rfl) T.n_zip (pa_cons (pv 3) (pa_cons (pv 10) pa_nil))) (blkOk_by (own := [("weight", 12), ("one", 13)]) (N := ["sums_here", "size", "top", "weights", "lows", "highs", "pairs_here", "order_here", "found", "some", "firsts", "spot", "weight", "one"]) (sc := defScope s__law_best) (by decide +kernel)) (fun _ _ _ _ _ => (pg_tup rfl (pgs_cons (pg_name (i := 12) nd rfl (by first | exact Or.inl rfl | exact Or.inr rfl)) (pgs_cons (pg_name (i := 13) nd rfl (by first | exact Or.inl rfl | exact Or.inr rfl)) pgs_nil)))) (fun _ _ _ _ _ => pts_nil) (fun _ _ _ _ _ => (pe_op op_mulW (pv 12) (pv 13)))) pa_nil)) pa_nil))))))
      (pss_one (ps_ret (pv 8)))))))), fun wd x y z u l L m ws Q hx hy hz hu hp q => ?_⟩
  cases hy; cases hz
  obtain ⟨xs, hw⟩ := hp.p.x
  have hvs := hp.p.w.1
  have h1 := hvs.ne; have h3 := hvs.hi
  have gk := gok hw hvs (by have := hp.p.w.2.2.1; omega) hp.l hp.b
  have n1 := gk.l1; have n2 := gk.l2; have n3 := gk.l3
  refine q_unpack (K := K) (ev_call3 (ev_var rfl hx) (ev_varI rfl) (ev_varI rfl) hvs) rfl fun va vb w1 g1 ra rb => ?_
  refine q_asg (K := K) (EvN.d (en_sortP (EvN.d (en_lc2 (e' := Rep.tupI) (by rw [enumI_len]; omega) (fun p => (p.2, p.1)) (ei_enum (ev_var rfl (rp_gr g1 hu))) (fun _ _ => rfl) rfl fun a v v' w' ha g r r' => by
    cases r; cases r'
    exact ev_tupI (ev_varI rfl) (ev_varI rfl))))) fun vp w2 g2 rp => ?_
  replace rp : (Rep.list Rep.tupI).r K w2.S vp (sortP (prs ws)) := rp
  refine q_asg (K := K) (EvD.eq (EvN.d (en_lc2 (e' := Rep.int) (by rw [(sortP_perm _).length_eq, prs_len]; omega) (fun p => p.2) (ei_list (EvD.gr_tup (ev_var rfl rp))) (fun _ _ => rfl) rfl fun a v v' w' ha g r r' => by
    cases r; cases r'
    exact ev_varI rfl)) (show _ = ordM ws from rfl)) fun vq w3 g3 rq => ?_
  have g13 := (g1.trans g2).trans g3
  refine q_asgN (K := K) (en_lst (e := Rep.int) el_nil) fun p w4 g4 n4 o4 => ?_
  have g14 := g13.trans g4
  have rq4 := rp_gr g4 rq
  have bst : ∀ ord : List Int, ord.length ≤ 100 → ∀ v ∈ filledM (lowsM l L) (highsM l L m) (gI l 0) ord, v.natAbs ≤ 10 ^ 33 := fun ord ho v hv => by
    have := ffold_bd (B := 8 * 10 ^ 30) gk.c ord (lowsM l L, gI l 0 - (lowsM l L).sum) (10 ^ 30) gk.b gk.t0 gk.t1 v hv
    have := Nat.mul_le_mul_right (8 * 10 ^ 30) ho
    omega
  refine q_for (K := K) (ei_tup (el_cons (e := Rep.list Rep.int) (ev_var rfl rq4) (el_cons (EvN.d (en_rev (ev_var rfl rq4))) el_nil))) (fun i σ z => ∃ y9 y10 y11 y12 y13 : Option V, σ = [some x, some (.int L), some (.int m), some u, some va, some vb, some vp, some vq, some (.ref p), y9, y10, y11, y12, y13] ∧ GrC wd z ∧ OwnL K z p Rep.int ((bestM l L m ws).take i)) (fun z g => ⟨none, none, none, none, none, rfl, ⟨g14.trans g⟩, o4.gr g⟩) ?_ ?_
  · intro i a v σ z z2 ha hxz hI gz hra
    obtain ⟨y9, y10, y11, y12, y13, rfl, cz, oz⟩ := hI
    have ham : a = ordM ws ∨ a = (ordM ws).reverse := by simpa using List.mem_of_getElem? ha
    have hal : a.length ≤ 8 := by rcases ham with e | e <;> rw [e] <;> simp [ord_len] <;> omega
    have hmem : ∀ p ∈ a, 0 ≤ p ∧ p < ws.length := fun p hp => by
      rcases ham with e | e
      · rw [e] at hp; exact ord_mem hp
      · rw [e] at hp; exact ord_mem (List.mem_reverse.mp hp)
    have g02 := cz.g.trans gz
    have ra2 := rp_gr gz (rp_ex hxz (rp_gr ((g2.trans g3).trans g4) ra))
    have rb2 := rp_gr gz (rp_ex hxz (rp_gr ((g2.trans g3).trans g4) rb))
    refine q_asg (K := K) (EvN.d (en_call4 (ev_var rfl ra2) (ev_var rfl rb2) (ev_ix (ev_var rfl (rp_gr g02 hx)) ev_int (atI_gI (by omega) (by omega))) (ev_var rfl hra) ⟨by show (lowsM l L).length = (highsM l L m).length; omega, by show (lowsM l L).length ≤ 8; omega, by omega, fun p hp => by have := hmem p hp; show 0 ≤ p ∧ p < (lowsM l L).length; omega⟩)) fun vf z3 g3 rf => ?_
    have hb : (bestM l L m ws)[i]? = some (dot ws (filledM (lowsM l L) (highsM l L m) (gI l 0) a)) := by
      show ([ordM ws, (ordM ws).reverse].map fun o => dot ws (filledM (lowsM l L) (highsM l L m) (gI l 0) o))[i]? = _
      rw [List.getElem?_map, ha]; rfl
    have g03 := g02.trans g3
    refine s_app (K := K) ((oz.gr gz).gr g3) rfl (EvD.eq (ev_sum (EvN.d (en_lc2 (e' := Rep.int) (by rw [List.length_zip]; omega) (fun p => p.1 * p.2) (ei_zip (ev_var rfl (rp_gr g03 hu)) (ev_var rfl rf)) (fun _ _ => rfl) rfl fun b v v' w' hbm g r r' => by
      cases r; cases r'
      obtain ⟨i, hi⟩ := List.mem_iff_getElem?.mp hbm
      obtain ⟨e1, e2⟩ := List.getElem?_zip_eq_some.mp hi
      have b1 := gk.w _ (List.mem_of_getElem? e1)
      have b2 := bst a (by omega) _ (List.mem_of_getElem? e2)
      exact ev_mul (ev_varI rfl) (ev_varI rfl) (wide_mul (a := 8) (b := 120) (by omega) (by omega) (by decide) (by decide) (by decide))))) (show _ = dot ws (filledM (lowsM l L) (highsM l L m) (gI l 0) a) from rfl)) (by rw [List.length_take]; show min i 2 < _; omega) fun z4 m4 o4 => ?_
    dsimp only
    refine nxt ?_ ?_
    · exact (gz.trans g3).s.trans m4.s
    · refine ⟨_, _, _, _, _, rfl, gc_mt (gc_gr cz (gz.trans g3)) m4 (fr_back g13 n4), ?_⟩
      rw [List.take_add_one, hb]
      exact o4
  · intro σ z hxz hI
    obtain ⟨y9, y10, y11, y12, y13, rfl, cz, oz⟩ := hI
    have e : [ordM ws, (ordM ws).reverse].length = (bestM l L m ws).length := rfl
    rw [e, List.take_length] at oz
    exact s_retO rfl (q p z cz.g (fr_back g13 n4) oz)
theorem ok__law_due (T : Tx K mg) : FnOk P w K mg base CX0 4 (He.ga K "_law_due") T.d__law_due ["sums_here", "size", "top", "plus", "minus"] (spD5 K (Rep.list Rep.int) Rep.int Rep.int (Rep.list Rep.int) (Rep.list Rep.int) (fun s L m pl mi => PreX s L m ∧ pl.length + mi.length ≤ 200 ∧ (∀ d ∈ pl, 0 ≤ d ∧ d < (offs s L).length) ∧ ∀ d ∈ mi, 0 ≤ d ∧ d < (offs s L).length) (Rep.pair Rep.int Rep.int) dueM) := by
  have nd := sc__law_due.nd
  refine okD5 T.F__law_due sc__law_due rfl fun cdv A outer s H E hr => ⟨_, (pss_cons (ps_par3 (i := 5) (j := 6) (l := 7) (by rfl) nd rfl rfl rfl (by decide) (by decide) (by decide) rfl rfl rfl (pa_cons (pe_call (ok__law_gaps T) (hr.mono (by decide)) (by rfl) T.g__law_gaps T.F__law_gaps.kp (b__law_gaps T) .nil pass0 (pa_cons (pv 0) (pa_cons (pv 1) pa_nil))) (pa_cons (pe_op op_rep (pe_lst (pa_cons pe_int pa_nil)) (pv 1)) (pa_cons pe_int pa_nil))) (by rfl))
      (pss_cons (ps_for PassesOwn.never rfl (pi_list (pe_lst (pa_cons (pe_tup (pa_cons (pv 3) (pa_cons pe_int pa_nil))) (pa_cons (pe_tup (pa_cons (pv 4) (pa_cons (pe_un un_neg pe_int) pa_nil))) pa_nil)))) (pg_tup rfl (pgs_cons (pg_name (i := 8) nd rfl (Or.inl rfl)) (pgs_cons (pg_name (i := 9) nd rfl (Or.inl rfl)) pgs_nil))) (pss_one (ps_for PassesOwn.never rfl (pi_list (pv 8)) (pg_name (i := 10) nd rfl (Or.inl rfl)) (pss_cons (ps_asg (pe_op op_add (pe_ix (show IxR _ (rIxL K) from ix_list) (pv 6) (pe_op op_mod (pe_callTy call_int1 (by rfl) T.n_int (by decide +kernel) (pa_cons (pv 10) pa_nil)) (pv 1)) (fun _ _ => rfl)) (pv 9)) (pg_sub (pv 6) (pe_op op_mod (pe_callTy call_int1 (by rfl) T.n_int (by decide +kernel) (pa_cons (pv 10) pa_nil)) (pv 1)) set_list))
      (pss_one (ps_set (i := 7) nd rfl (Or.inl rfl) (pe_op op_add (pv 7) (pe_op op_mulW (pv 9) (pe_ix (show IxR _ (rIxL K) from ix_list) (pv 5) (pv 10) (fun _ _ => rfl))))))))))
      (pss_cons (ps_asg (pe_call (ok__law_best T) (hr.mono (by decide)) (by rfl) T.g__law_best T.F__law_best.kp (b__law_best T) .nil pass0 (pa_cons (pv 0) (pa_cons (pv 1) (pa_cons (pv 2) (pa_cons (pv 6) pa_nil))))) (pg_unl rfl (pgs_cons (pg_name (i := 11) nd rfl (Or.inl rfl)) (pgs_cons (pg_name (i := 12) nd rfl (Or.inl rfl)) pgs_nil))))
      (pss_one (ps_ret (pe_tup (pa_cons (pe_op op_add (pv 11) (pv 7)) (pa_cons (pe_op op_add (pv 12) (pv 7)) pa_nil)))))))), fun wd x y z u v l L m pl mi Q hx hy hz hu hv hp q => ?_⟩
  cases hy; cases hz
  obtain ⟨hpx, hn, hpl, hmi⟩ := hp
  obtain ⟨xs, hw⟩ := hpx.x
  have hvs := hpx.w.1
  have h1 := hvs.ne; have h2 := hvs.lo; have h3 := hvs.hi; have h4 := hvs.days
  have hm1 := hpx.w.2.2.1
  have hm0 := hpx.w.2.1
  refine q_par3VNV (K := K) (EvN.d (en_call2 (ev_var rfl hx) (ev_varI rfl) hvs)) (en_rep (K := K) (e := Rep.int) (k := L) (l := ([0] : List Int)) (en_lst (el_cons ev_int el_nil)) (ev_varI rfl) ⟨by omega, by show 1 * L.toNat ≤ 100000; omega, by omega⟩) ev_int fun vo p v0 w1 g1 ro n1 o1 r0 => ?_
  cases r0
  have e0 : (List.replicate L.toNat ([0] : List Int)).flatten = List.replicate L.toNat 0 := by simp
  rw [e0] at o1
  refine q_for2 (K := K) (ei_list (EvN.d (en_lst (e := Rep.pair (Rep.list Rep.int) Rep.int) (el_cons (ev_pair (ev_var rfl (rp_gr g1 hu)) ev_int) (el_cons (ev_pair (ev_var rfl (rp_gr g1 hv)) (ev_neg ev_int)) el_nil))))) rfl (fun i σ z => ∃ y8 y9 y10 y11 y12 : Option V, σ = [some x, some (.int L), some (.int m), some u, some v, some vo, some (.ref p), some (.int ((([(pl, 1), (mi, -1)] : List (List Int × Int)).take i).foldl (fun st x => x.1.foldl (dstep (offs l L) L x.2) st) (List.replicate L.toNat 0, 0)).2), y8, y9, y10, y11, y12] ∧ GrC wd z ∧
    OwnL K z p Rep.int ((([(pl, 1), (mi, -1)] : List (List Int × Int)).take i).foldl (fun st x => x.1.foldl (dstep (offs l L) L x.2) st) (List.replicate L.toNat 0, 0)).1) (fun z g => ⟨none, none, none, none, none, rfl, ⟨g1.trans g⟩, o1.gr g⟩) ?_ ?_
  · intro i a va vs σ z z2 ha hxz hI gz hra hrs
    obtain ⟨y8, y9, y10, y11, y12, rfl, cz, oz⟩ := hI
    have ham : a = (pl, 1) ∨ a = (mi, -1) := by simpa using List.mem_of_getElem? ha
    have hsg : a.2.natAbs ≤ 1 := by
      rcases ham with e | e
      · rw [e]; show (1 : Int).natAbs ≤ 1; decide
      · rw [e]; show (-1 : Int).natAbs ≤ 1; decide
    have hrg : ∀ d ∈ a.1, 0 ≤ d ∧ d < (offs l L).length := by rcases ham with e | e <;> rw [e] <;> assumption
    have hal : a.1.length ≤ 200 := by
      rcases ham with e | e
      · rw [e]; show pl.length ≤ 200; omega
      · rw [e]; show mi.length ≤ 200; omega
    have hst := fold_take (f := fun (st : List Int × Int) (x : List Int × Int) => x.1.foldl (dstep (offs l L) L x.2) st) (b := (List.replicate L.toNat 0, 0)) ha
    have hlen : (((([(pl, 1), (mi, -1)] : List (List Int × Int)).take i).foldl (fun st x => x.1.foldl (dstep (offs l L) L x.2) st) (List.replicate L.toNat 0, 0)).1).length = L.toNat := by
      have hi : i = 0 ∨ i = 1 := by have := (List.getElem?_eq_some_iff.mp ha).1; simp at this; omega
      rcases hi with rfl | rfl
      · simp
      · show (pl.foldl (dstep (offs l L) L 1) (List.replicate L.toNat 0, 0)).1.length = _
        rw [fold_len, List.length_replicate]
    rw [hst]
    generalize (([(pl, 1), (mi, -1)] : List (List Int × Int)).take i).foldl (fun st x => x.1.foldl (dstep (offs l L) L x.2) st) (List.replicate L.toNat 0, 0) = st at hlen oz ⊢
    cases hrs
    have hxz2 : Ex w1.S z2.S := hxz.trans gz.s
    refine s_for (K := K) (ei_list (ev_var rfl hra)) (fun n σ u' => ∃ y10 y11 y12 : Option V, σ = [some x, some (.int L), some (.int m), some u, some v, some vo, some (.ref p), some (.int ((a.1.take n).foldl (dstep (offs l L) L a.2) st).2), some va, some (.int a.2), y10, y11, y12] ∧ GrC wd u' ∧ OwnL K u' p Rep.int ((a.1.take n).foldl (dstep (offs l L) L a.2) st).1) (fun u' g => ⟨y10, y11, y12, rfl, gc_gr (gc_gr cz gz) g, (oz.gr gz).gr g⟩) ?_ ?_
    · intro n b vb σ u2 u3 hb hxu hI gu hrb
      obtain ⟨y10, y11, y12, rfl, cu, ou⟩ := hI
      cases hrb
      have hbm := hrg b (List.mem_of_getElem? hb)
      have hst2 := fold_take (f := dstep (offs l L) L a.2) (b := st) hb
      have hlen2 := fold_len (o := offs l L) (L := L) (sg := a.2) (a.1.take n) st
      rw [hlen] at hlen2
      rw [hst2]
      generalize (a.1.take n).foldl (dstep (offs l L) L a.2) st = st2 at hlen2 ou ⊢
      have m0 := Int.emod_nonneg b (show L ≠ 0 by omega)
      have m1 := Int.emod_lt_of_pos b (show 0 < L by omega)
      have o3 := ou.gr gu
      refine q_set (K := K) o3 rfl (ev_add (ev_ixO o3 rfl (ev_mod (ev_intI (ev_varI rfl)) (ev_varI rfl) (by omega)) (atI_gI m0 (by omega))) (ev_varI rfl)) (ev_mod (ev_intI (ev_varI rfl)) (ev_varI rfl) (by omega)) ⟨m0, by omega⟩ fun u4 m4 o4 => ?_
      have ro4 := rp_mt m4 (rp_gr gu (rp_ex (hxz2.trans hxu) ro))
      have hbd := offs_bd hw hvs hbm.1 hbm.2
      refine s_asg (K := K) (ev_add (ev_varI rfl) (ev_mul (ev_varI rfl) (ev_ix (ev_var rfl ro4) (ev_varI rfl) (atI_gI hbm.1 hbm.2)) (wide_mul (a := 2) (b := 110) (by omega) (by omega) (by decide) (by decide) (by decide)))) fun v5 u5 g5 r5 => ?_
      cases r5
      dsimp only
      refine nxt ?_ ?_
      · exact gu.s.trans (m4.s.trans g5.s)
      · exact ⟨_, _, _, rfl, gc_gr (gc_mt (gc_gr cu gu) m4 n1) g5, o4.gr g5⟩
    · intro σ u2 hxu hI
      obtain ⟨y10, y11, y12, rfl, cu, ou⟩ := hI
      rw [List.take_length] at ou ⊢
      dsimp only
      refine nxt ?_ ?_
      · exact gz.s.trans hxu
      · exact ⟨_, _, _, _, _, rfl, cu, ou⟩
  · intro σ z hxz hI
    obtain ⟨y8, y9, y10, y11, y12, rfl, cz, oz⟩ := hI
    have hfin : ([(pl, 1), (mi, -1)] : List (List Int × Int)).foldl (fun st x => x.1.foldl (dstep (offs l L) L x.2) st) (List.replicate L.toNat 0, 0) = dueW (offs l L) L pl mi := rfl
    rw [List.take_length, hfin] at oz
    rw [List.take_length, hfin]
    obtain ⟨w2, e2, m2, r2⟩ := oz.fix
    rw [← e2]
    have g2 : Gr wd w2 := m2.gr wd cz.g n1
    refine q_unl (K := K) (EvN.d (en_call4 (ev_var rfl (rp_gr g2 hx)) (ev_varI rfl) (ev_varI rfl) (ev_var rfl r2) ⟨hpx, dueW_len, fun w hw => Nat.le_trans (dueW_bd w hw) hn⟩)) rfl fun va vb w3 g3 ra rb => ?_
    cases ra; cases rb
    exact s_ret (K := K) (ev_pair (ev_add (ev_varI rfl) (ev_varI rfl)) (ev_add (ev_varI rfl) (ev_varI rfl))) fun v w' g r => q v w' ((g2.trans g3).trans g) r
end
end WK

namespace WK
open PySem PySem.Spec PyProof.Rows L2
section
variable {P : Program} {w : World} {K : PySem.W.Frag} {mg : Str → Option Value} {base : Heap}
theorem ok_sums_of (T : Tx K mg) : FnOk P w K mg base CX0 4 (He.ga K "sums_of") T.d_sums_of ["numbers", "length"] (spN2 K (Rep.list Rep.int) Rep.int (fun x L => 1 ≤ L ∧ L ≤ 8 ∧ L ≤ x.length ∧ x.length ≤ 67) Rep.int sumsL) := by
  have nd := sc_sums_of.nd
  refine okN2 T.F_sums_of sc_sums_of rfl fun cdv A outer s H E hr => ⟨_, (pss_cons (ps_if (pt_not (pt_val (pe_call (ok_is_sums T) (hr.mono (by decide)) (by rfl) T.g_is_sums T.F_is_sums.kp (b_is_sums T) .nil pass0 (pa_cons (pv 0) pa_nil)))) (pss_one ps_never) pss_nil)
      (pss_cons (ps_expr (pe_call (ok_need_length T) (hr.mono (by decide)) (by rfl) T.g_need_length T.F_need_length.kp (b_need_length T) .nil pass0 (pa_cons (pv 1) pa_nil)))
      (pss_cons (ps_if (pt_cmpR op_gt (pv 1) (pe_callB (show CallR _ _ (Evl.rLenS K) from call_len_seq) (by rfl) T.n_len (by decide +kernel) (pa_cons (pv 0) pa_nil)) (nomark _)) (pss_one ps_never) pss_nil)
      (pss_one (ps_ret (pe_lc (own := [("place", 2)]) (g := gName 2) (tt := tYes) rfl nd (pi_range1 (by rfl) T.n_range (pa_cons (pe_op op_add (pe_op op_sub (pe_callB (show CallR _ _ (Evl.rLenS K) from call_len_seq) (by rfl) T.n_len (by decide +kernel) (pa_cons (pv 0) pa_nil)) (pv 1)) pe_int) pa_nil)) (blkOk_by (own := [("place", 2)]) (N := ["numbers", "length", "place"]) (sc := defScope s_sums_of) (by decide +kernel)) (fun _ _ _ _ _ => (pg_name (i := 2) nd rfl (by first | exact Or.inl rfl | exact Or.inr rfl))) (fun _ _ _ _ _ => pts_nil) (fun _ _ _ _ _ => (pe_callB (show CallR _ _ (rSum K) from (cr_sum rfl)) (by rfl) T.n_sum (by decide +kernel) (pa_cons (pe_slice (show SlR _ (rSlL K) from sl_list) (pv 0) (po_some (pv 2)) (po_some (pe_op op_add (pv 2) (pv 1)))) pa_nil))))))))), fun wd x y l L Q hx hy hp q => ?_⟩
  cases hy
  obtain ⟨h1, h8, hL, h67⟩ := hp
  refine q_when (K := K) (b := false) (EvT.eq (et_not (et_test (ev_call1 (ev_var rfl hx) ⟨by omega, by omega⟩))) (by simp)) (fun h => nomatch h) fun _ w1 g1 => ?_
  refine q_drop (K := K) (ev_call1 (ev_varI rfl) ⟨h1, h8⟩) fun w2 g2 => ?_
  have g12 := g1.trans g2
  refine q_when (K := K) (b := false) (EvT.eq (et_test (ev_gt (ev_varI rfl) (ev_len (ev_var rfl (rp_gr g12 hx))))) (by simp; omega)) (fun h => nomatch h) fun _ w3 g3 => ?_
  have g13 := g12.trans g3
  refine s_retN (K := K) (en_lc (e' := Rep.int) (by rw [irange_len]; omega) (fun i => isum (fun j => gI l (i + j)) L) (ei_range1 (ev_add (ev_sub (ev_len (ev_var rfl (rp_gr g13 hx))) (ev_varI rfl)) ev_int) (by omega)) (fun _ => rfl) fun a v w' ha g r => ?_) fun p w' g n o => q p w' (g13.trans g) (fr_back g13 n) o
  cases r
  have ham := irange_mem.mp ha
  refine EvD.eq (ev_sum (EvN.d (en_sl (ev_var rfl (rp_gr (g13.trans g) hx)) (eo_some (ev_varI rfl)) (eo_some (ev_add (ev_varI rfl) (ev_varI rfl)))))) ?_
  have e1 : a = ((a.toNat : Nat) : Int) := by omega
  have e2 : a + L = ((a.toNat + L.toNat : Nat) : Int) := by omega
  rw [show (some a : Option Int) = some ((a.toNat : Nat) : Int) by rw [← e1], show (some (a + L) : Option Int) = some ((a.toNat + L.toNat : Nat) : Int) by rw [← e2], cut_ft (by omega), show a.toNat + L.toNat - a.toNat = L.toNat by omega, slice_sum (by omega)]
  rw [show ((a.toNat : Nat) : Int) = a by omega, show ((L.toNat : Nat) : Int) = L by omega]
end
end WK

namespace WK
open PySem PySem.Spec PyProof.Rows L2
/-! ### pairs of ints shown -/
def pI (x : Int × Int) : PyData := .tuple [.int x.1, .int x.2]
theorem rd_pI : RD (Rep.pair Rep.int Rep.int) pI 1 := rd_pair rd_int rd_int
def PB (x : Int × Int) : Prop := x.1.natAbs < 10 ^ 42 ∧ x.2.natAbs < 10 ^ 42
theorem pI_able {x : Int × Int} (h : PB x) : (pI x).showable = true := by
  show ((PyData.int x.1).showable && ((PyData.int x.2).showable && true)) = true
  rw [int_able (k := 150) (by decide) (Nat.lt_of_lt_of_le h.1 (by decide +kernel)) (by decide), int_able (k := 150) (by decide) (Nat.lt_of_lt_of_le h.2 (by decide +kernel)) (by decide)]; rfl
theorem pI_show {x : Int × Int} (h : PB x) : (pI x).shown.length ≤ 94 := by
  have h1 := int_show (k := 42) (by decide) h.1
  have h2 := int_show (k := 42) (by decide) h.2
  exact tup_show (ds := [.int x.1, .int x.2]) (k := 43) fun d hd => by
    rcases List.mem_cons.mp hd with e | hd
    · rw [e]; exact h1
    · rw [List.mem_singleton.mp hd]; exact h2
theorem pIs_able {l : List (Int × Int)} (h : ∀ x ∈ l, PB x) : (PyData.list (l.map pI)).showable = true :=
  showableAll_of fun d hd => by obtain ⟨x, hx, rfl⟩ := List.mem_map.mp hd; exact pI_able (h x hx)
theorem pIs_show {l : List (Int × Int)} (hn : l.length ≤ 1000) (h : ∀ x ∈ l, PB x) : (PyData.list (l.map pI)).shown.length ≤ sizeLine := by
  have := list_show (ds := l.map pI) (k := 94) fun d hd => by obtain ⟨x, hx, rfl⟩ := List.mem_map.mp hd; exact pI_show (h x hx)
  rw [List.length_map] at this
  refine size_le (Nat.le_trans this ?_)
  have := Nat.mul_le_mul_right 96 hn
  omega
section
variable {K : PySem.W.Frag} {σ : L2.St} {w : Wd} {ta tb : TE} {x y : Int × Int} {l : List (Int × Int)}
theorem ev_reprP (h : EvD K ta σ w (Rep.pair Rep.int Rep.int) x) (b : PB x) : EvD K (tCB (rRepr K) (tCons ta tNil)) σ w Rep.str (pI x).shown := ev_repr rd_pI h ref_pair (pI_able b) (size_le (Nat.le_trans (pI_show b) (by decide)))
theorem ev_reprPs (h : EvD K ta σ w (Rep.list (Rep.pair Rep.int Rep.int)) l) (hn : l.length ≤ 1000) (b : ∀ x ∈ l, PB x) : EvD K (tCB (rRepr K) (tCons ta tNil)) σ w Rep.str (PyData.list (l.map pI)).shown := ev_repr (a := l) (f := fun l => PyData.list (l.map pI)) (rd_list rd_pI) h ref_list (pIs_able b) (pIs_show hn b)
theorem et_same {s : Str} (ha : EvD K ta σ w Rep.str s) (hb : EvD K tb σ w Rep.str s) : EvT K (tTest (tOp rNe ta tb)) σ w false := EvT.eq (et_test (ev_neS ha hb)) (by simp)
theorem ev_callR3 {α0 α1 α2 γ : Type} {r0 : Rep α0} {r1 : Rep α1} {r2 : Rep α2} {pre : α0 → α1 → α2 → Prop} {rc : Rep γ} {f : α0 → α1 → α2 → γ} {a0 : α0} {a1 : α1} {a2 : α2} {t0 t1 t2 : TE} {E : XK} (h2 : EvD K t2 σ w r2 a2) (h1 : EvD K t1 σ w r1 a1) (h0 : EvD K t0 σ w r0 a0) (hp : pre a0 a1 a2) :
    EvD K (tCallR (spD3 K r0 r1 r2 pre rc f) E (tCons t2 (tCons t1 (tCons t0 tNil)))) σ w rc (f a0 a1 a2) := fun w1 g Q q =>
  h2 w1 g _ fun v2 u0 k0 z2 => h1 u0 (g.trans k0) _ fun v1 u1 k1 z1 => h0 u1 ((g.trans k0).trans k1) _ fun v0 u2 k2 z0 => ⟨u2, v0, v1, v2, _, _, _, rfl, rfl, z0, r1.m k2.s z1, r2.m (k1.s.trans k2.s) z2, hp, fun v w' g' x => q v w' (((k0.trans k1).trans k2).trans g') x⟩
end
def spRightJ (K : PySem.W.Frag) : Sp := fun vs H Q _ => ∃ (wd : Wd) (p : Addr) (x : V) (l : List Int) (L m : Int) (f : Nat), wd.H = H ∧ vs = [.ref p, x, .int L, .int m] ∧ (Rep.list Rep.int).r K wd.S x l ∧ PreX l L m ∧ Jar K wd p (f + 400) ∧ ∀ w', Mt p wd w' → Jar K w' p f → Q (.bl true) w'.H
section
variable {s : List Int} {L m : Int}
theorem all_bd (hp : PreX s L m) : ∀ x ∈ allM s L m, PB x := fun x hx => by
  obtain ⟨xs, hw⟩ := hp.x
  have hv := hp.w.1
  have hl := hv.offs
  unfold allM at hx
  obtain ⟨d, hd, rfl⟩ := List.mem_map.mp hx
  have hd := irange_mem.mp hd
  have := drange_bd hw hv (by have := hp.w.2.2.1; omega) (ds := [d]) (by show 1 ≤ 200; decide) fun a ha => by rw [List.mem_singleton.mp ha]; omega
  exact ⟨by omega, by omega⟩
theorem all_len (hp : PreX s L m) : (allM s L m).length = s.length + L.toNat - 1 := by
  have := hp.w.1.lo; have := hp.w.1.ne
  unfold allM; rw [List.length_map, irange_len]; omega
theorem cert_bd (hp : PreX s L m) : ∀ x ∈ certM s L m, PB x := fun x hx => by
  unfold certM at hx
  obtain ⟨y, hy, rfl⟩ := List.mem_map.mp hx
  obtain ⟨hy, _⟩ := List.mem_filter.mp hy
  obtain ⟨i, hi⟩ := List.mem_iff_getElem?.mp hy
  rw [enumI_get] at hi
  cases q : (allM s L m)[i]? with
  | none => rw [q] at hi; cases hi
  | some a =>
    rw [q] at hi
    cases hi
    have hb := all_bd hp a (List.mem_of_getElem? q)
    have hl := (List.getElem?_eq_some_iff.mp q).1
    rw [all_len hp] at hl
    have := hp.w.1.days; have := hp.w.1.hi; have := hp.w.1.lo
    exact ⟨by show (i : Int).natAbs < _; omega, hb.1⟩
theorem cert_len (hp : PreX s L m) : (certM s L m).length ≤ 1000 := by
  have := hp.w.1.days; have := hp.w.1.hi; have := hp.w.1.lo
  unfold certM
  rw [List.length_map]
  refine Nat.le_trans (List.length_filter_le _ _) ?_
  rw [enumI_len, all_len hp]
  omega
theorem next_bd (hp : PreX s L m) : PB (nextM s L m) := by
  obtain ⟨xs, hw⟩ := hp.x
  have hv := hp.w.1
  have hl := hv.offs; have h1 := hv.ne; have h2 := hv.lo; have h3 := hv.hi
  have hm0 := hp.w.2.1; have hm1 := hp.w.2.2.1
  have := drange_bd hw hv (by omega) (ds := [(s.length : Int) - 1]) (by show 1 ≤ 200; decide) fun a ha => by rw [List.mem_singleton.mp ha]; omega
  have hs : (gI s ((s.length : Int) - 1)).natAbs ≤ 10 ^ 36 := by
    have e := hw.sm (s.length - 1) (by omega)
    have e2 : gI s ((s.length : Int) - 1) = isum (fun j => gI xs (((s.length - 1 : Nat) : Int) + j)) L := by
      rw [← e]; unfold gI
      rw [show ((s.length : Int) - 1).toNat = s.length - 1 by omega]
    have hn : L = (L.toNat : Int) := by omega
    have hy := hw.len
    have a := isum_le (f := fun j => gI xs (((s.length - 1 : Nat) : Int) + j)) (b := m) (n := L.toNat) fun i a b => (hw.at (by omega) (by omega)).2
    have b := isum_nonneg (f := fun j => gI xs (((s.length - 1 : Nat) : Int) + j)) (n := L.toNat) fun i a b => (hw.at (by omega) (by omega)).1
    rw [← hn] at a b
    have h8 := Int.mul_le_mul_of_nonneg_right h3 hm0
    omega
  unfold nextM
  exact ⟨by simp only; omega, by simp only; omega⟩
theorem dr_pb (hp : PreX s L m) {ds : List Int} (hn : ds.length ≤ 200) (hd : ∀ d ∈ ds, 0 ≤ d ∧ d < (offs s L).length) : PB (drange s L m ds) := by
  obtain ⟨xs, hw⟩ := hp.x
  have := drange_bd hw hp.w.1 (by have := hp.w.2.2.1; omega) hn hd
  exact ⟨by omega, by omega⟩
theorem df_pb (hp : PreX s L m) {a b : Int} (ha : 0 ≤ a ∧ a < (offs s L).length) (hb : 0 ≤ b ∧ b < (offs s L).length) : PB (diffM s L m a b) := by
  obtain ⟨xs, hw⟩ := hp.x
  have := diff_bd hw hp.w.1 (by have := hp.w.2.2.1; omega) ha hb
  exact ⟨by omega, by omega⟩
theorem due_dr (hp : PreX s L m) {ds : List Int} : dueM s L m ds [] = drange s L m ds := by
  obtain ⟨xs, hw⟩ := hp.x
  rw [due_eq hw hp.w.1 dueW_len, due_days]; rfl
theorem due_df (hp : PreX s L m) {a b : Int} : dueM s L m [b] [a] = diffM s L m a b := by
  obtain ⟨xs, hw⟩ := hp.x
  rw [due_eq hw hp.w.1 dueW_len, due_diff hp.w.1.lo]; rfl
end
section
variable {P : Program} {w : World} {K : PySem.W.Frag} {mg : Str → Option Value} {base : Heap}
theorem ok__law_right (T : Tx K mg) : FnG P w K mg base CX0 8 (He.ga K "_law_right") T.d__law_right ["jar", "sums_here", "size", "top"] (spRightJ K) := by
  have nd := sc__law_right.nd
  refine okG T.F__law_right sc__law_right (fun vs H Q E h => by obtain ⟨wd, p, x, l, L, m, f, _, rfl, _⟩ := h; rfl) fun cdv A outer s H vs Q E hr hg h => ⟨_, PSs.nox (pss_cons (ps_set (i := 4) nd rfl (Or.inl rfl) (pe_op op_sub (pe_op op_add (pe_callB (show CallR _ _ (Evl.rLenS K) from call_len_seq) (by rfl) T.n_len (by decide +kernel) (pa_cons (pv 1) pa_nil)) (pv 2)) pe_int))
      (pss_cons (ps_setLc (i := 5) (own := [("spot", 18)]) (g := gName 18) (tt := tYes) rfl nd rfl rfl (sw_true rfl rfl rfl (by decide +kernel)) (pi_range1 (by rfl) T.n_range (pa_cons (pv 4) pa_nil)) (blkOk_by (own := [("spot", 18)]) (N := ["jar", "sums_here", "size", "top", "many", "due", "sure", "least", "greatest", "ahead", "turn", "one", "two", "told", "first_day", "last_day", "some", "picked", "spot", "ends"]) (sc := defScope s__law_right) (by decide +kernel)) (fun _ _ _ _ _ => (pg_name (i := 18) nd rfl (by first | exact Or.inl rfl | exact Or.inr rfl))) (fun _ _ _ _ _ => pts_nil) (fun _ _ _ _ _ => (pe_call (ok__law_due T) (hr.mono (by decide)) (by rfl) T.g__law_due T.F__law_due.kp (b__law_due T) .nil pass0 (pa_cons (pv 1) (pa_cons (pv 2) (pa_cons (pv 3) (pa_cons (pe_lst (pa_cons (pv 18) pa_nil)) (pa_cons (pe_lst pa_nil) pa_nil))))))))
      (pss_cons (ps_if (pt_cmpR op_ne (pe_callB (show CallR _ _ (rRepr K) from (call_repr hg hr)) (by rfl) T.n_repr (by decide +kernel) (pa_cons (pe_call (ok_all_ranges T) (hr.mono (by decide)) (by rfl) T.g_all_ranges T.F_all_ranges.kp (b_all_ranges T) .nil pass0 (pa_cons (pv 1) (pa_cons (pv 2) (pa_cons (pv 3) pa_nil)))) pa_nil)) (pe_callB (show CallR _ _ (rRepr K) from (call_repr hg hr)) (by rfl) T.n_repr (by decide +kernel) (pa_cons (pv 5) pa_nil)) (nomark _)) (pss_one (ps_ret pe_bl)) pss_nil)
      (pss_cons (ps_setLc (i := 6) (own := [("spot", 18), ("ends", 19)]) (g := gTup K 2 (gCons (gName 18) (gCons (gName 19) gNil))) rfl nd rfl rfl (sw_true rfl rfl rfl (by decide +kernel)) (pi_enum (by rfl) T.n_enumerate (pa_cons (pv 5) pa_nil)) (blkOk_by (own := [("spot", 18), ("ends", 19)]) (N := ["jar", "sums_here", "size", "top", "many", "due", "sure", "least", "greatest", "ahead", "turn", "one", "two", "told", "first_day", "last_day", "some", "picked", "spot", "ends"]) (sc := defScope s__law_right) (by decide +kernel)) (fun _ _ _ _ _ => (pg_tup rfl (pgs_cons (pg_name (i := 18) nd rfl (by first | exact Or.inl rfl | exact Or.inr rfl)) (pgs_cons (pg_name (i := 19) nd rfl (by first | exact Or.inl rfl | exact Or.inr rfl)) pgs_nil)))) (fun _ _ _ _ _ => pts_one (pt_cmpR op_eq (pe_ix (show IxR _ (rIxT K) from ix_tup) (pv 19) pe_int (fun _ _ => rfl)) (pe_ix (show IxR _ (rIxT K) from ix_tup) (pv 19) pe_int (fun _ _ => rfl)) (nomark _))) (fun _ _ _ _ _ => (pe_tup (pa_cons (pv 18) (pa_cons (pe_ix (show IxR _ (rIxT K) from ix_tup) (pv 19) pe_int (fun _ _ => rfl)) pa_nil)))))
      (pss_cons (ps_if (pt_cmpR op_ne (pe_callB (show CallR _ _ (rRepr K) from (call_repr hg hr)) (by rfl) T.n_repr (by decide +kernel) (pa_cons (pe_call (ok_certain_days T) (hr.mono (by decide)) (by rfl) T.g_certain_days T.F_certain_days.kp (b_certain_days T) .nil pass0 (pa_cons (pv 1) (pa_cons (pv 2) (pa_cons (pv 3) pa_nil)))) pa_nil)) (pe_callB (show CallR _ _ (rRepr K) from (call_repr hg hr)) (by rfl) T.n_repr (by decide +kernel) (pa_cons (pv 6) pa_nil)) (nomark _)) (pss_one (ps_ret pe_bl)) pss_nil)
      (pss_cons (ps_asg (pe_ix (show IxR _ (rIxL K) from ix_list) (pv 5) (pe_op op_sub (pe_callB (show CallR _ _ (Evl.rLenS K) from call_len_seq) (by rfl) T.n_len (by decide +kernel) (pa_cons (pv 1) pa_nil)) pe_int) (fun _ _ => rfl)) (pg_tup rfl (pgs_cons (pg_name (i := 7) nd rfl (Or.inl rfl)) (pgs_cons (pg_name (i := 8) nd rfl (Or.inl rfl)) pgs_nil))))
      (pss_cons (ps_set (i := 9) nd rfl (Or.inl rfl) (pe_tup (pa_cons (pe_op op_sub (pe_ix (show IxR _ (rIxL K) from ix_list) (pv 1) (pe_un un_neg pe_int) (fun _ _ => rfl)) (pv 8)) (pa_cons (pe_op op_add (pe_op op_sub (pe_ix (show IxR _ (rIxL K) from ix_list) (pv 1) (pe_un un_neg pe_int) (fun _ _ => rfl)) (pv 7)) (pv 3)) pa_nil))))
      (pss_cons (ps_if (pt_cmpR op_ne (pe_callB (show CallR _ _ (rRepr K) from (call_repr hg hr)) (by rfl) T.n_repr (by decide +kernel) (pa_cons (pe_callR (ok_next_range T) (hr.mono (by decide)) (by rfl) T.g_next_range T.F_next_range.kp (kr_next_range T) pass0 (pk_cons (pv 3) (pk_cons (pv 2) (pk_cons (pv 1) pk_nil)))) pa_nil)) (pe_callB (show CallR _ _ (rRepr K) from (call_repr hg hr)) (by rfl) T.n_repr (by decide +kernel) (pa_cons (pv 9) pa_nil)) (nomark _)) (pss_one (ps_ret pe_bl)) pss_nil)
      (pss_cons (ps_for PassesOwn.never rfl (pi_range1 (by rfl) T.n_range (pa_cons pe_int pa_nil)) (pg_name (i := 10) nd rfl (Or.inl rfl)) (pss_cons (ps_par (i := 11) (j := 12) (by rfl) nd rfl rfl (by decide) rfl rfl (pa_cons (pe_call (ok__law_dip T) (hr.mono (by decide)) (by rfl) T.g__law_dip T.F__law_dip.kp (b__law_dip T) .nil pass0 (pa_cons (pv 0) (pa_cons (pv 4) pa_nil))) (pa_cons (pe_call (ok__law_dip T) (hr.mono (by decide)) (by rfl) T.g__law_dip T.F__law_dip.kp (b__law_dip T) .nil pass0 (pa_cons (pv 0) (pa_cons (pv 4) pa_nil))) pa_nil)) (by rfl))
      (pss_cons (ps_if (pt_cmpR (show OpR _ _ (rNeD K) from (op_neD hr.units)) (pe_call (ok_day_range T) (hr.mono (by decide)) (by rfl) T.g_day_range T.F_day_range.kp (b_day_range T) .nil pass0 (pa_cons (pv 1) (pa_cons (pv 2) (pa_cons (pv 3) (pa_cons (pv 11) pa_nil))))) (pe_ix (show IxR _ (rIxL K) from ix_list) (pv 5) (pv 11) (fun _ _ => rfl)) (nomark _)) (pss_one (ps_ret pe_bl)) pss_nil)
      (pss_cons (ps_set (i := 13) nd rfl (Or.inl rfl) (pe_call (ok_difference_range T) (hr.mono (by decide)) (by rfl) T.g_difference_range T.F_difference_range.kp (b_difference_range T) .nil pass0 (pa_cons (pv 1) (pa_cons (pv 2) (pa_cons (pv 3) (pa_cons (pv 11) (pa_cons (pv 12) pa_nil)))))))
      (pss_cons (ps_if (pt_cmpR op_ne (pe_callB (show CallR _ _ (rRepr K) from (call_repr hg hr)) (by rfl) T.n_repr (by decide +kernel) (pa_cons (pv 13) pa_nil)) (pe_callB (show CallR _ _ (rRepr K) from (call_repr hg hr)) (by rfl) T.n_repr (by decide +kernel) (pa_cons (pe_call (ok__law_due T) (hr.mono (by decide)) (by rfl) T.g__law_due T.F__law_due.kp (b__law_due T) .nil pass0 (pa_cons (pv 1) (pa_cons (pv 2) (pa_cons (pv 3) (pa_cons (pe_lst (pa_cons (pv 12) pa_nil)) (pa_cons (pe_lst (pa_cons (pv 11) pa_nil)) pa_nil)))))) pa_nil)) (nomark _)) (pss_one (ps_ret pe_bl)) pss_nil)
      (pss_cons (ps_par (i := 14) (j := 15) (by rfl) nd rfl rfl (by decide) rfl rfl (pa_cons (pe_callB (call_min2 rfl) (by rfl) T.n_min (by decide +kernel) (pa_cons (pv 11) (pa_cons (pv 12) pa_nil))) (pa_cons (pe_op op_add (pe_callB (call_max2 rfl) (by rfl) T.n_max (by decide +kernel) (pa_cons (pv 11) (pa_cons (pv 12) pa_nil))) pe_int) pa_nil)) (by rfl))
      (pss_cons (ps_set (i := 13) nd rfl (Or.inl rfl) (pe_call (ok_row_range T) (hr.mono (by decide)) (by rfl) T.g_row_range T.F_row_range.kp (b_row_range T) .nil pass0 (pa_cons (pv 1) (pa_cons (pv 2) (pa_cons (pv 3) (pa_cons (pv 14) (pa_cons (pv 15) pa_nil)))))))
      (pss_cons (ps_set (i := 16) nd rfl (Or.inl rfl) (pe_listRg rfl (by rfl) T.n_list (prg_2 (by rfl) T.n_range (pv 14) (pv 15))))
      (pss_cons (ps_if (pt_cmpR op_ne (pe_callB (show CallR _ _ (rRepr K) from (call_repr hg hr)) (by rfl) T.n_repr (by decide +kernel) (pa_cons (pv 13) pa_nil)) (pe_callB (show CallR _ _ (rRepr K) from (call_repr hg hr)) (by rfl) T.n_repr (by decide +kernel) (pa_cons (pe_call (ok__law_due T) (hr.mono (by decide)) (by rfl) T.g__law_due T.F__law_due.kp (b__law_due T) .nil pass0 (pa_cons (pv 1) (pa_cons (pv 2) (pa_cons (pv 3) (pa_cons (pv 16) (pa_cons (pe_lst pa_nil) pa_nil)))))) pa_nil)) (nomark _)) (pss_one (ps_ret pe_bl)) pss_nil)
      (pss_cons (ps_setLc (i := 17) (own := [("spot", 18)]) (g := gName 18) rfl nd rfl rfl (sw_true rfl rfl rfl (by decide +kernel)) (pi_range1 (by rfl) T.n_range (pa_cons (pv 4) pa_nil)) (blkOk_by (own := [("spot", 18)]) (N := ["jar", "sums_here", "size", "top", "many", "due", "sure", "least", "greatest", "ahead", "turn", "one", "two", "told", "first_day", "last_day", "some", "picked", "spot", "ends"]) (sc := defScope s__law_right) (by decide +kernel)) (fun _ _ _ _ _ => (pg_name (i := 18) nd rfl (by first | exact Or.inl rfl | exact Or.inr rfl))) (fun _ _ _ _ _ => pts_one (pt_cmpR op_eq (pe_call (ok__law_dip T) (hr.mono (by decide)) (by rfl) T.g__law_dip T.F__law_dip.kp (b__law_dip T) .nil pass0 (pa_cons (pv 0) (pa_cons pe_int pa_nil))) pe_int (nomark _))) (fun _ _ _ _ _ => (pv 18)))
      (pss_cons (ps_set (i := 13) nd rfl (Or.inl rfl) (pe_call (ok_total_range T) (hr.mono (by decide)) (by rfl) T.g_total_range T.F_total_range.kp (b_total_range T) .nil pass0 (pa_cons (pv 1) (pa_cons (pv 2) (pa_cons (pv 3) (pa_cons (pv 17) pa_nil))))))
      (pss_one (ps_if (pt_cmpR op_ne (pe_callB (show CallR _ _ (rRepr K) from (call_repr hg hr)) (by rfl) T.n_repr (by decide +kernel) (pa_cons (pv 13) pa_nil)) (pe_callB (show CallR _ _ (rRepr K) from (call_repr hg hr)) (by rfl) T.n_repr (by decide +kernel) (pa_cons (pe_call (ok__law_due T) (hr.mono (by decide)) (by rfl) T.g__law_due T.F__law_due.kp (b__law_due T) .nil pass0 (pa_cons (pv 1) (pa_cons (pv 2) (pa_cons (pv 3) (pa_cons (pv 17) (pa_cons (pe_lst pa_nil) pa_nil)))))) pa_nil)) (nomark _)) (pss_one (ps_ret pe_bl)) pss_nil)))))))))))))
      (pss_one (ps_ret pe_bl))))))))))), ?_⟩
  try dsimp only [cxOf]
  obtain ⟨wd, p, x, l, L, m, f, rfl, rfl, hx, hp, hj, q⟩ := h
  have hv := hp.w.1
  have hl := hv.offs; have h1 := hv.ne; have h2 := hv.lo; have h3 := hv.hi; have h4 := hv.days
  have eD : ∀ {σ : L2.St} {w : Wd} {t0 t1 t2 t3 t4 : TE} {E : XK} {pl mi : List Int} {r : Int × Int}, EvD K t0 σ w (Rep.list Rep.int) l → EvD K t1 σ w Rep.int L → EvD K t2 σ w Rep.int m → EvD K t3 σ w (Rep.list Rep.int) pl → EvD K t4 σ w (Rep.list Rep.int) mi → (pl.length + mi.length ≤ 200) → (∀ d ∈ pl, 0 ≤ d ∧ d < (offs l L).length) → (∀ d ∈ mi, 0 ≤ d ∧ d < (offs l L).length) → dueM l L m pl mi = r →
      EvD K (tCall (spD5 K (Rep.list Rep.int) Rep.int Rep.int (Rep.list Rep.int) (Rep.list Rep.int) (fun s L m pl mi => PreX s L m ∧ pl.length + mi.length ≤ 200 ∧ (∀ d ∈ pl, 0 ≤ d ∧ d < (offs s L).length) ∧ ∀ d ∈ mi, 0 ≤ d ∧ d < (offs s L).length) (Rep.pair Rep.int Rep.int) dueM) [] E (tCons t0 (tCons t1 (tCons t2 (tCons t3 (tCons t4 tNil)))))) σ w (Rep.pair Rep.int Rep.int) r :=
    fun e0 e1 e2 e3 e4 a b c d => EvD.eq (ev_call5 e0 e1 e2 e3 e4 ⟨hp, a, b, c⟩) d
  refine q_asg (K := K) (ev_sub (ev_add (ev_len (ev_var rfl hx)) (ev_varI rfl)) ev_int) fun vm w1 g1 r1 => ?_
  cases r1
  have hx1 := rp_gr g1 hx
  refine q_asg (K := K) (EvD.eq (EvN.d (en_lc (e' := Rep.pair Rep.int Rep.int) (by rw [irange_len]; omega) (fun d => drange l L m [d]) (ei_range1 (ev_varI rfl) (by omega)) (fun _ => rfl) fun a v w' ha g r => by
    cases r
    have := irange_mem.mp ha
    exact eD (ev_var rfl (rp_gr g hx1)) (ev_varI rfl) (ev_varI rfl) (EvN.d (en_lst (el_cons (ev_varI rfl) el_nil))) (EvN.d (en_lst el_nil)) (by show 1 + 0 ≤ 200; decide) (fun d hd => by rw [List.mem_singleton.mp hd]; omega) (fun d hd => by cases hd) (due_dr hp))) (show _ = allM l L m from rfl)) fun vd w2 g2 rd => ?_
  have hx2 := rp_gr g2 hx1
  have hal := all_len hp
  refine q_when (K := K) (b := false) (et_same (ev_reprPs (EvN.d (en_call3 (ev_var rfl hx2) (ev_varI rfl) (ev_varI rfl) hp)) (by omega) (all_bd hp)) (ev_reprPs (ev_var rfl rd) (by omega) (all_bd hp))) (fun h => nomatch h) fun _ w3 g3 => ?_
  have rd3 := rp_gr g3 rd
  refine q_asg (K := K) (EvD.eq (EvN.d (en_lc2If (e' := Rep.pair Rep.int Rep.int) (by rw [enumI_len]; omega) (fun x => decide (x.2.1 = x.2.2)) (fun x => (x.1, x.2.1)) (ei_enum (ev_var rfl rd3)) (fun _ _ => rfl) rfl
    (fun a v v' w' ha g r r' => et_test (ev_eqI (ev_fst (ev_var rfl r') ev_int) (ev_snd (ev_var rfl r') ev_int)))
    (fun a v v' w' ha hf g r r' => by
      cases r
      exact ev_pair (ev_varI rfl) (ev_fst (ev_var rfl r') ev_int)))) (show _ = certM l L m from rfl)) fun vs w4 g4 rs => ?_
  have g24 := g3.trans g4
  have hx4 := rp_gr g24 hx2
  refine q_when (K := K) (b := false) (et_same (ev_reprPs (EvN.d (en_call3 (ev_var rfl hx4) (ev_varI rfl) (ev_varI rfl) hp)) (cert_len hp) (cert_bd hp)) (ev_reprPs (ev_var rfl rs) (cert_len hp) (cert_bd hp))) (fun h => nomatch h) fun _ w5 g5 => ?_
  have rd5 := rp_gr (g4.trans g5) rd3
  have hx5 := rp_gr g5 hx4
  have hlast : atI (allM l L m) ((l.length : Int) - 1) = some (drange l L m [(l.length : Int) - 1]) := by
    refine atI_int (by omega) ?_
    unfold allM
    rw [List.getElem?_map, irange_get (by omega)]
    show some (drange l L m [0 + (((l.length : Int) - 1).toNat : Int)]) = _
    rw [show 0 + (((l.length : Int) - 1).toNat : Int) = (l.length : Int) - 1 by omega]
  refine q_unpack (K := K) (ev_ix (ev_var rfl rd5) (ev_sub (ev_len (ev_var rfl hx5)) ev_int) hlast) rfl fun va vb w6 g6 ra rb => ?_
  cases ra; cases rb
  have hx6 := rp_gr g6 hx5
  refine q_asg (K := K) (EvD.eq (ev_pair (ev_sub (ev_ix (ev_var rfl hx6) (ev_neg ev_int) (at_last h1)) (ev_varI rfl)) (ev_add (ev_sub (ev_ix (ev_var rfl hx6) (ev_neg ev_int) (at_last h1)) (ev_varI rfl)) (ev_varI rfl))) (show _ = nextM l L m from rfl)) fun vn w7 g7 rn => ?_
  have hx7 := rp_gr g7 hx6
  refine q_when (K := K) (b := false) (et_same (ev_reprP (ev_callR3 (ev_varI rfl) (ev_varI rfl) (ev_var rfl hx7) hp) (next_bd hp)) (ev_reprP (ev_var rfl rn) (next_bd hp))) (fun h => nomatch h) fun _ w8 g8 => ?_
  have g18 : Gr wd w8 := (g1.trans (g2.trans (g24.trans (g5.trans (g6.trans (g7.trans g8))))))
  have hx8 := rp_gr g8 hx7
  have rd8 := rp_gr (g6.trans (g7.trans g8)) rd5
  refine q_for (K := K) (ei_range1 ev_int (by decide)) (fun i σ z => ∃ y10 y11 y12 y13 y14 y15 y16 y17 y18 y19 : Option V, σ = [some (.ref p), some x, some (.int L), some (.int m), some (.int (l.length + L - 1)), some vd, some vs, some (.int (drange l L m [(l.length : Int) - 1]).1), some (.int (drange l L m [(l.length : Int) - 1]).2), some vn, y10, y11, y12, y13, y14, y15, y16, y17, y18, y19] ∧ Mt p wd z ∧ Jar K z p (f + 400 - 100 * i)) (fun z g => ⟨none, none, none, none, none, none, none, none, none, none, rfl, (g18.trans g).mt hj.ne, hj.gr (g18.trans g)⟩) ?_ ?_
  · intro i a v σ z z2 ha hxz hI gz hra
    obtain ⟨y10, y11, y12, y13, y14, y15, y16, y17, y18, y19, rfl, mz, jz⟩ := hI
    cases hra
    have hi4 : i < 4 := by
      have := (List.getElem?_eq_some_iff.mp ha).1
      rw [irange_len] at this
      simpa using this
    have j2 := jz.gr gz
    have hpw : (l.length + L - 1).natAbs < 2 ^ 9000 := Nat.lt_of_lt_of_le (show (l.length + L - 1).natAbs < 2 ^ 7 by omega) (Nat.pow_le_pow_right (by decide) (by decide))
    refine par2x (dip_run (K := K) (i := 0) (f := f + 399 - 100 * i) rfl (j2.le (by omega)) (ev_varI rfl) (by omega) hpw fun one z3 m3 j3 o0 o1 => dip_run (K := K) (i := 0) (f := f + 398 - 100 * i) rfl (j3.le (by omega)) (ev_varI rfl) (by omega) hpw fun two z4 m4 j4 t0 t1 => ⟨_, _, rfl, ?_⟩)
    have x84 : Ex w8.S z4.S := hxz.trans (gz.s.trans (m3.s.trans m4.s))
    have hxA := rp_ex x84 hx8
    have rdA := rp_ex x84 rd8
    have ho : 0 ≤ one ∧ one < (offs l L).length := by omega
    have ht : 0 ≤ two ∧ two < (offs l L).length := by omega
    have hat : atI (allM l L m) one = some (drange l L m [one]) := by
      refine atI_int ho.1 ?_
      unfold allM
      rw [List.getElem?_map, irange_get (by omega)]
      show some (drange l L m [0 + (one.toNat : Int)]) = _
      rw [show 0 + (one.toNat : Int) = one by omega]
    refine q_when (K := K) (b := false) (EvT.eq (et_test (ev_neD rd_pI (ev_call4 (ev_var rfl hxA) (ev_varI rfl) (ev_varI rfl) (ev_varI rfl) ⟨hp, ho⟩) (ev_ix (ev_var rfl rdA) (ev_varI rfl) hat))) (by simp)) (fun h => nomatch h) fun _ z5 g5 => ?_
    refine q_asg (K := K) (ev_call5 (ev_var rfl (rp_gr g5 hxA)) (ev_varI rfl) (ev_varI rfl) (ev_varI rfl) (ev_varI rfl) ⟨hp, ho, ht⟩) fun vt z6 g6 rt => ?_
    have hxB := rp_gr (g5.trans g6) hxA
    refine q_when (K := K) (b := false) (et_same (ev_reprP (ev_var rfl rt) (df_pb hp ho ht)) (ev_reprP (eD (ev_var rfl hxB) (ev_varI rfl) (ev_varI rfl) (EvN.d (en_lst (el_cons (ev_varI rfl) el_nil))) (EvN.d (en_lst (el_cons (ev_varI rfl) el_nil))) (by show 1 + 1 ≤ 200; decide) (fun d hd => by rw [List.mem_singleton.mp hd]; exact ht) (fun d hd => by rw [List.mem_singleton.mp hd]; exact ho) (due_df hp)) (df_pb hp ho ht))) (fun h => nomatch h) fun _ z7 g7 => ?_
    have hxC := rp_gr g7 hxB
    refine q_par (K := K) (ev_min2 (ev_varI rfl) (ev_varI rfl)) (ev_add (ev_max2 (ev_varI rfl) (ev_varI rfl)) ev_int) fun v1 v2 z8 g8 r1 r2 => ?_
    cases r1; cases r2
    have hxD := rp_gr g8 hxC
    have hrow : 0 ≤ min one two ∧ min one two ≤ max one two + 1 ∧ max one two + 1 ≤ (offs l L).length := by omega
    refine q_asg (K := K) (ev_call5 (ev_var rfl hxD) (ev_varI rfl) (ev_varI rfl) (ev_varI rfl) (ev_varI rfl) ⟨hp, hrow⟩) fun vt2 z9 g9 rt2 => ?_
    refine q_asg (K := K) (EvN.d (en_rg2 (ev_varI rfl) (ev_varI rfl) (by omega))) fun vr z10 g10 rr => ?_
    have hxE := rp_gr (g9.trans g10) hxD
    have hir : (irange (min one two) (max one two + 1)).length ≤ 100 := by rw [irange_len]; omega
    have him : ∀ d ∈ irange (min one two) (max one two + 1), 0 ≤ d ∧ d < (offs l L).length := fun d hd => by have := irange_mem.mp hd; omega
    refine q_when (K := K) (b := false) (et_same (ev_reprP (ev_var rfl (rp_gr g10 rt2)) (dr_pb hp (by omega) him)) (ev_reprP (eD (ev_var rfl hxE) (ev_varI rfl) (ev_varI rfl) (ev_var rfl rr) (EvN.d (en_lst el_nil)) (by show _ + 0 ≤ 200; omega) him (fun d hd => by cases hd) (due_dr hp)) (dr_pb hp (by omega) him))) (fun h => nomatch h) fun _ z11 g11 => ?_
    have g411 : Gr z4 z11 := g5.trans (g6.trans (g7.trans (g8.trans (g9.trans (g10.trans g11)))))
    have jB := j4.gr g411
    refine asgX (lc_jarIf (K := K) (p := p) (e := Rep.int) (l := irange 0 (l.length + L - 1)) (fun n w' => Jar K w' p (f + 398 - 100 * i - n)) (ei_range1 (ev_varI rfl) (by omega)) (by rw [irange_len]; omega) (fun _ => rfl) (fun _ _ j => j.ne) (fun _ g => jB.gr g) (fun _ _ _ j g => j.gr g) (fun _ d _ _ ne j mm => j.mt mm ne) (fun n a v w' ha xw j ra Q' k' => ?_) (fun a v w' r => by cases r; exact ev_varI rfl) (fun q1 l1 w12 m12 j12 n12 ne12 o12 hsub => ?_))
    · have hn := (irange_get' ha).2
      refine dip_run (K := K) (i := 0) (f := f + 398 - 100 * i - (n + 1)) rfl (j.le (by omega)) ev_int (by decide) (by decide) fun d w4 m4 j4 d0 d1 => ?_
      exact EvD.run (K := K) (r := Rep.int) ev_int fun v5 w5 g5 r5 => by
        cases r5
        exact ⟨rfl, _, rfl, k' _ w5 (m4.trans (g5.mt j4.ne)) (j4.gr g5)⟩
    · rw [irange_len] at j12
      obtain ⟨w13, e13, m13, r13⟩ := o12.fix
      rw [← e13]
      have mA : Mt p z11 w13 := m12.then m13 n12
      have jC : Jar K w13 p (f + 398 - 100 * i - 67) := (j12.mt m13 (Ne.symm ne12)).le (by omega)
      have hxF := rp_mt mA (rp_gr g11 hxE)
      have hpm : ∀ d ∈ l1, 0 ≤ d ∧ d < (offs l L).length := fun d hd => by have := irange_mem.mp (hsub.subset hd); omega
      have hpl : l1.length ≤ 100 := Nat.le_trans hsub.length_le (by rw [irange_len]; omega)
      have hnd : l1.Nodup := hsub.nodup (by
        unfold irange
        exact (List.pairwise_map.mpr (List.Pairwise.imp (fun h => by omega) List.pairwise_lt_range)))
      refine q_asg (K := K) (ev_call4 (ev_var rfl hxF) (ev_varI rfl) (ev_varI rfl) (ev_var rfl r13) ⟨⟨hp, by omega, hpm⟩, hnd⟩) fun vt3 w14 g14 rt3 => ?_
      refine s_when (K := K) (b := false) (et_same (ev_reprP (ev_var rfl rt3) (dr_pb hp (by omega) hpm)) (ev_reprP (eD (ev_var rfl (rp_gr g14 hxF)) (ev_varI rfl) (ev_varI rfl) (ev_var rfl (rp_gr g14 r13)) (EvN.d (en_lst el_nil)) (by show _ + 0 ≤ 200; omega) hpm (fun d hd => by cases hd) (due_dr hp)) (dr_pb hp (by omega) hpm))) (fun h => nomatch h) fun _ w15 g15 => ?_
      have mB : Mt p z w15 := (gz.mt jz.ne).trans (m3.trans (m4.trans ((g411.mt j4.ne).trans (mA.trans ((g14.trans g15).mt jC.ne)))))
      dsimp only
      refine nxt ?_ ?_
      · exact mB.s
      · exact ⟨_, _, _, _, _, _, _, _, _, _, rfl, mz.trans mB, (jC.gr (g14.trans g15)).le (by omega)⟩
  · intro σ z hxz hI
    obtain ⟨y10, y11, y12, y13, y14, y15, y16, y17, y18, y19, rfl, mz, jz⟩ := hI
    refine s_ret (K := K) ev_bl fun v w' g r => ?_
    cases r
    exact q w' (mz.trans (g.mt jz.ne)) ((jz.gr g).le (by rw [irange_len]; show f ≤ f + 400 - 100 * 4; omega))
end
end WK

namespace WK
open PySem PySem.Spec PyProof.Rows L2
/-! ### what is asked of a law; draws within its statements -/
def spLaw (K : PySem.W.Frag) : Sp := fun vs H Q _ => ∃ (wd : Wd) (sv : V) (ns : List Int), wd.H = H ∧ vs = [sv] ∧ (Rep.list Rep.int).r K wd.S sv ns ∧ ns.length ≤ 63 ∧ Bits ns ∧ ∀ w' : Wd, Q (.bl true) w'.H
theorem spLaw_mk {K : PySem.W.Frag} {H : Hp} {a : Addr} {ns : List Int} {E : XK} (hl : ns.length ≤ 63) (hb : Bits ns) (h : SqL K H a (ns.map V.int)) : spLaw K [.ref a] H (fun v _ => v = .bl true) E :=
  ⟨⟨H, H, exr H⟩, .ref a, ns, rfl, rfl, ⟨a, _, rfl, h, ints_paired ns⟩, hl, hb, fun _ => rfl⟩
section
variable {K : PySem.W.Frag} {σ : L2.St} {w : Wd} {ta tb te : TE} {tu tz : TS} {D : Ends}
theorem jar_run {tk : TE} {sv : V} {ns : List Int} {k : Int} {E : XK} {Q : VK} {i : Nat} (hi : σ[i]? = some (some sv)) (hs : (Rep.list Rep.int).r K w.S sv ns) (hk : EvD K tk σ w Rep.int k) (h0 : 0 ≤ k ∧ k ≤ 1000)
    (q : ∀ p w', Gr w w' → w.H p = none → Jar K w' p (2 ^ 59) → Q (.ref p) w'.H) : tCall (spJar K) [] E (tCons (tVar i) (tCons tk tNil)) σ w.H Q :=
  ⟨_, hi, hk.run fun v w2 g2 r2 => by
    cases r2
    exact ⟨w2, sv, ns, k, rfl, rfl, (Rep.list Rep.int).m g2.s hs, h0.1, h0.2, fun p w' g n j => q p w' (g2.trans g) (fr_back g2 n) j⟩⟩
theorem notX {H : Hp} (h : te σ H fun x H1 => ∃ c, x = .bl c ∧ if (!c) = true then tu { D with nx := tz D } σ H1 else tz D σ H1) : tSeq (tIfS (tNot (tB te)) tu tNext) tz D σ H := h
theorem notX1 {H : Hp} (h : te σ H fun x H1 => ∃ c, x = .bl c ∧ if (!c) = true then tu D σ H1 else D.nx σ H1) : tIfS (tNot (tB te)) tu tNext D σ H := h
theorem ifNT {A B : Prop} (h : B) : if (!true) = true then A else B := by rw [if_neg (by decide)]; exact h
theorem call_add1 {sp : Sp} {dvs : List V} {E : XK} {ts : TA} {H : Hp} {Q : VK} (h : ta σ H fun x H1 => tb σ H1 fun y H2 => ∃ i j, x = .int i ∧ y = .int j ∧ ts σ H2 fun vs H3 => sp ((.int (i + j) :: vs) ++ dvs) H3 Q E) :
    tCall sp dvs E (tCons (tOp (rI0 fun i j => .int (i + j)) ta tb) ts) σ H Q := h
end
end WK

namespace WK
open PySem PySem.Spec PyProof.Rows L2
section
variable {K : PySem.W.Frag} {σ : L2.St} {w : Wd} {ta tb te tn tm ts ts2 tm2 : TE} {tu tz tbd : TS} {D : Ends} {g : TG} {p : Addr}
theorem size_run {j i1 i2 n : Nat} {E : XK} {tmm : TE} {mm : Int} {f : Nat} (hn : n = 2) (hj : σ[j]? = some (some (.ref p))) (h : 8 ≤ mm ∧ mm ≤ 67) (jr : Jar K w p (f + 2)) (em : EvD K tmm σ w Rep.int mm)
    (k : ∀ a b w', Mt p w w' → Jar K w' p f → 1 ≤ a → a ≤ 8 → a ≤ b → b ≤ mm → tz D ((σ.set i1 (some (.int a))).set i2 (some (.int b))) w'.H) :
    tSeq (tAsg (tCall (spSize K) [] E (tCons (tVar j) (tCons tmm tNil))) (gTup K n (gCons (gName i1) (gCons (gName i2) gNil)))) tz D σ w.H :=
  ⟨_, hj, em.run fun v w2 g2 r2 => ⟨w2, p, mm, f, rfl, by cases r2; rfl, h.1, h.2, jr.gr g2, fun t a b w3 m3 j3 a1 a8 ab bm rp => g_pair (Q := tz D) rp hn fun v1 v2 r1 r2 => by
    cases r1; cases r2
    exact k a b w3 ((g2.mt jr.ne).trans m3) j3 a1 a8 ab bm⟩⟩
theorem high_run {j : Nat} {E : XK} {Q : VK} {tmm : TE} {mm : Int} {f : Nat} (hj : σ[j]? = some (some (.ref p))) (h : 1 ≤ mm ∧ mm ≤ 1000) (jr : Jar K w p (f + 2)) (em : EvD K tmm σ w Rep.int mm)
    (k : ∀ a w', Mt p w w' → Jar K w' p f → 0 ≤ a → a ≤ 10 ^ 30 - 1 → Q (.int a) w'.H) : tCall (spHigh K) [] E (tCons (tVar j) (tCons tmm tNil)) σ w.H Q :=
  ⟨_, hj, em.run fun v w2 g2 r2 => ⟨w2, p, mm, f, rfl, by cases r2; rfl, h.1, h.2, jr.gr g2, fun a w3 m3 j3 a0 a1 => k a w3 ((g2.mt jr.ne).trans m3) j3 a0 a1⟩⟩
theorem for_tup3 {t1 t2 t3 : TE} {H : Hp} (h : t1 σ H fun a H1 => t2 σ H1 fun b H2 => t3 σ H2 fun c H3 => tSeq (tFor (iTup K (tTup (tCons (tC a) (tCons (tC b) (tCons (tC c) tNil))))) g tbd) tz D σ H3) :
    tSeq (tFor (iTup K (tTup (tCons t1 (tCons t2 (tCons t3 tNil))))) g tbd) tz D σ H := h
end
end WK

namespace WK
open PySem PySem.Spec PyProof.Rows L2
section
variable {K : PySem.W.Frag} {σ : L2.St} {w : Wd} {tx tn tm ts ts2 tm2 : TE} {p : Addr}
theorem rightJ_run {j : Nat} {E E1 : XK} {Q : VK} {L m : Int} {f : Nat} (hj : σ[j]? = some (some (.ref p))) (hL : 1 ≤ L ∧ L ≤ 8) (hm : 0 ≤ m ∧ m ≤ 10 ^ 30 - 1)
    (hx : ∀ Q' : VK, (∀ v (l : List Int) w3, Mt p w w3 → Jar K w3 p (f + 400) → (Rep.list Rep.int).r K w3.S v l → L ≤ l.length → l.length ≤ 67 → (∀ z ∈ l, 0 ≤ z ∧ z ≤ m) → Q' v w3.H) → tx σ w.H Q') (es : ∀ w1, EvD K ts σ w1 Rep.int L) (es2 : ∀ w1, EvD K ts2 σ w1 Rep.int L) (em2 : ∀ w1, EvD K tm2 σ w1 Rep.int m)
    (k : ∀ w', Mt p w w' → Jar K w' p f → Q (.bl true) w'.H) :
    tCall (spRightJ K) [] E (tCons (tVar j) (tCons (tCall (spN2 K (Rep.list Rep.int) Rep.int (fun x L => 1 ≤ L ∧ L ≤ 8 ∧ L ≤ x.length ∧ x.length ≤ 67) Rep.int sumsL) [] E1 (tCons tx (tCons ts tNil))) (tCons ts2 (tCons tm2 tNil)))) σ w.H Q := by
  refine ⟨_, hj, hx _ fun v l w3 m3 j3 r3 hl1 hl2 hr => ?_⟩
  refine EvD.run (es w3) fun v' w4 g4 r4 => ?_
  refine ⟨w4, v, v', l, L, rfl, rfl, rp_gr g4 r3, r4, ⟨hL.1, hL.2, hl1, hl2⟩, fun q w5 g5 n5 o5 => ?_⟩
  obtain ⟨w6, e6, m6, r6⟩ := o5.fix
  rw [← e6]
  refine EvD.run (es2 w6) fun v7 w7 g7 r7 => EvD.run (em2 w7) fun v8 w8 g8 r8 => ?_
  have hwy : Way (sumsL l L) l L m := sumsL_way hL.1 (by omega) hr
  have hvs : VS (sumsL l L) L := sumsL_VS hL.1 hL.2 (by omega) (by omega)
  have j4 := j3.gr (g4.trans g5)
  have jq : p ≠ q := fun e => (j3.gr g4).ne (e ▸ n5)
  have m36 : Mt p w3 w6 := ((g4.trans g5).mt j3.ne).then m6 (fr_back g4 n5)
  have j6 := j4.mt m6 jq
  refine ⟨w8, p, .ref q, sumsL l L, L, m, f, rfl, by cases r7; cases r8; rfl, rp_gr (g7.trans g8) r6, ⟨⟨hvs, hm.1, hm.2, conf_none hwy hvs⟩, l, hwy⟩, j6.gr (g7.trans g8), fun w9 m9 j9 => ?_⟩
  exact k w9 (m3.trans (m36.trans (((g7.trans g8).mt j6.ne).trans m9))) j9
/-- the days drawn as the list -/
theorem days_x {j : Nat} {E2 : XK} {L m : Int} {f : Nat} (hj : σ[j]? = some (some (.ref p))) (hm : 0 ≤ m ∧ m ≤ 10 ^ 30) (hL : 1 ≤ L)
    (hn : ∀ Q' : VK, (∀ w1 n, Mt p w w1 → Jar K w1 p (f + 535) → L ≤ n → n ≤ 67 → Q' (.int n) w1.H) → tn σ w.H Q') (em : ∀ w1, EvD K tm σ w1 Rep.int m)
    (Q' : VK) (k : ∀ v (l : List Int) w3, Mt p w w3 → Jar K w3 p (f + 400) → (Rep.list Rep.int).r K w3.S v l → L ≤ l.length → l.length ≤ 67 → (∀ z ∈ l, 0 ≤ z ∧ z ≤ m) → Q' v w3.H) : tCall (spDays K) [] E2 (tCons (tVar j) (tCons tn (tCons tm tNil))) σ w.H Q' := by
  refine ⟨_, hj, hn _ fun w1 n m1 j1 h1 h2 => ?_⟩
  refine EvD.run (em w1) fun v w2 g2 r2 => ?_
  exact ⟨w2, p, n, m, f + 400, rfl, by cases r2; rfl, by omega, h2, hm.1, hm.2, (j1.gr g2).le (by omega), fun v l w3 m3 j3 r3 hl hr => k v l w3 (m1.trans ((g2.mt j1.ne).trans m3)) j3 r3 (by omega) (by omega) hr⟩
end
theorem px1 : PreX [6, 7, 5] 3 9 := ⟨⟨⟨by decide, by decide, by decide, by decide⟩, by decide, by decide, by decide +kernel⟩, [2, 2, 2, 3, 0], ⟨by decide, fun i hi => by
  have : i = 0 ∨ i = 1 ∨ i = 2 := by simp at hi; omega
  rcases this with rfl | rfl | rfl <;> decide +kernel, by decide⟩⟩
theorem px2 : PreX [3] 1 5 := ⟨⟨⟨by decide, by decide, by decide, by decide⟩, by decide, by decide, by decide +kernel⟩, [3], ⟨by decide, fun i hi => by
  have : i = 0 := by simp at hi; omega
  rcases this with rfl; decide +kernel, by decide⟩⟩
theorem nx1 : nextM [6, 7, 5] 3 9 = (1, 14) := by decide +kernel
theorem nx2 : nextM [3] 1 5 = (0, 5) := by decide +kernel
section
variable {P : Program} {w : World} {K : PySem.W.Frag} {mg : Str → Option Value} {base : Heap}
theorem ok_law (T : Tx K mg) : FnG P w K mg base CX0 9 (He.ga K "law") T.d_law ["script"] (spLaw K) := by
  have nd := sc_law.nd
  refine okG T.F_law sc_law (fun vs H Q E h => by obtain ⟨wd, sv, ns, _, rfl, _⟩ := h; rfl) fun cdv A outer s H vs Q E hr hg h => ⟨_, PSs.nox (pss_cons (ps_for PassesOwn.never rfl (pi_range1 (by rfl) T.n_range (pa_cons (pe_callB (call_max2 rfl) (by rfl) T.n_max (by decide +kernel) (pa_cons pe_int (pa_cons (pe_callB (call_min2 rfl) (by rfl) T.n_min (by decide +kernel) (pa_cons pe_int (pa_cons (pe_callB (show CallR _ _ (Evl.rLenS K) from call_len_seq) (by rfl) T.n_len (by decide +kernel) (pa_cons (pv 0) pa_nil)) pa_nil))) pa_nil))) pa_nil)) (pg_name (i := 1) nd rfl (Or.inl rfl)) (pss_cons (ps_set (i := 2) nd rfl (Or.inr rfl) (pe_call (ok__law_jar T) (hr.mono (by decide)) (by rfl) T.g__law_jar T.F__law_jar.kp (b__law_jar T) .nil pass0 (pa_cons (pv 0) (pa_cons (pv 1) pa_nil))))
      (pss_one (ps_for PassesOwn.never rfl (pi_range1 (by rfl) T.n_range (pa_cons pe_int pa_nil)) (pg_name (i := 3) nd rfl (Or.inl rfl)) (pss_cons (ps_asg (pe_call (ok__law_size T) (hr.mono (by decide)) (by rfl) T.g__law_size T.F__law_size.kp (b__law_size T) .nil pass0 (pa_cons (pv 2) (pa_cons pe_int pa_nil))) (pg_tup rfl (pgs_cons (pg_name (i := 4) nd rfl (Or.inl rfl)) (pgs_cons (pg_name (i := 5) nd rfl (Or.inl rfl)) pgs_nil))))
      (pss_cons (ps_set (i := 6) nd rfl (Or.inl rfl) (pe_call (ok__law_high T) (hr.mono (by decide)) (by rfl) T.g__law_high T.F__law_high.kp (b__law_high T) .nil pass0 (pa_cons (pv 2) (pa_cons pe_int pa_nil))))
      (pss_one (ps_if (pt_not (pt_val (pe_callG (ok__law_right T) hg (hr.mono (by decide)) (by rfl) T.g__law_right T.F__law_right.kp (b__law_right T) .nil pass0 (pa_cons (pv 2) (pa_cons (pe_call (ok__law_sums T) (hr.mono (by decide)) (by rfl) T.g__law_sums T.F__law_sums.kp (b__law_sums T) .nil pass0 (pa_cons (pe_call (ok__law_days T) (hr.mono (by decide)) (by rfl) T.g__law_days T.F__law_days.kp (b__law_days T) .nil pass0 (pa_cons (pv 2) (pa_cons (pv 5) (pa_cons (pv 6) pa_nil)))) (pa_cons (pv 4) pa_nil))) (pa_cons (pv 4) (pa_cons (pv 6) pa_nil))))))) (pss_one (ps_ret pe_bl)) pss_nil))))))))
      (pss_cons (ps_set (i := 2) nd rfl (Or.inr rfl) (pe_call (ok__law_jar T) (hr.mono (by decide)) (by rfl) T.g__law_jar T.F__law_jar.kp (b__law_jar T) .nil pass0 (pa_cons (pv 0) (pa_cons pe_int pa_nil))))
      (pss_cons (ps_for PassesOwn.never rfl (pi_tup (pe_tup (pa_cons pe_int (pa_cons pe_int (pa_cons (pe_op op_add pe_int (pe_call (ok__law_dip T) (hr.mono (by decide)) (by rfl) T.g__law_dip T.F__law_dip.kp (b__law_dip T) .nil pass0 (pa_cons (pv 2) (pa_cons pe_int pa_nil)))) pa_nil))))) (pg_name (i := 4) nd rfl (Or.inl rfl)) (pss_one (ps_if (pt_not (pt_val (pe_callG (ok__law_right T) hg (hr.mono (by decide)) (by rfl) T.g__law_right T.F__law_right.kp (b__law_right T) .nil pass0 (pa_cons (pv 2) (pa_cons (pe_call (ok__law_sums T) (hr.mono (by decide)) (by rfl) T.g__law_sums T.F__law_sums.kp (b__law_sums T) .nil pass0 (pa_cons (pe_call (ok__law_days T) (hr.mono (by decide)) (by rfl) T.g__law_days T.F__law_days.kp (b__law_days T) .nil pass0 (pa_cons (pv 2) (pa_cons pe_int (pa_cons (pe_op op_powW pe_int pe_int) pa_nil)))) (pa_cons (pv 4) pa_nil))) (pa_cons (pv 4) (pa_cons (pe_op op_powW pe_int pe_int) pa_nil))))))) (pss_one (ps_ret pe_bl)) pss_nil)))
      (pss_cons (ps_for PassesOwn.never rfl (pi_range1 (by rfl) T.n_range (pa_cons pe_int pa_nil)) (pg_name (i := 3) nd rfl (Or.inl rfl)) (pss_cons (ps_par (i := 4) (j := 6) (by rfl) nd rfl rfl (by decide) rfl rfl (pa_cons (pe_op op_add pe_int (pe_call (ok__law_dip T) (hr.mono (by decide)) (by rfl) T.g__law_dip T.F__law_dip.kp (b__law_dip T) .nil pass0 (pa_cons (pv 2) (pa_cons pe_int pa_nil)))) (pa_cons (pe_call (ok__law_high T) (hr.mono (by decide)) (by rfl) T.g__law_high T.F__law_high.kp (b__law_high T) .nil pass0 (pa_cons (pv 2) (pa_cons pe_int pa_nil))) pa_nil)) (by rfl))
      (pss_cons (ps_set (i := 7) nd rfl (Or.inl rfl) (pe_call (ok__law_days T) (hr.mono (by decide)) (by rfl) T.g__law_days T.F__law_days.kp (b__law_days T) .nil pass0 (pa_cons (pv 2) (pa_cons (pe_op op_add pe_int (pe_call (ok__law_dip T) (hr.mono (by decide)) (by rfl) T.g__law_dip T.F__law_dip.kp (b__law_dip T) .nil pass0 (pa_cons (pv 2) (pa_cons pe_int pa_nil)))) (pa_cons (pv 6) pa_nil)))))
      (pss_cons (ps_set (i := 8) nd rfl (Or.inl rfl) (pe_call (ok__law_dip T) (hr.mono (by decide)) (by rfl) T.g__law_dip T.F__law_dip.kp (b__law_dip T) .nil pass0 (pa_cons (pv 2) (pa_cons (pe_callB (show CallR _ _ (Evl.rLenS K) from call_len_seq) (by rfl) T.n_len (by decide +kernel) (pa_cons (pv 7) pa_nil)) pa_nil))))
      (pss_cons (ps_set (i := 7) nd rfl (Or.inl rfl) (pe_op op_cat (pe_op op_cat (pe_slice (show SlR _ (rSlL K) from sl_list) (pv 7) po_none (po_some (pv 8))) (pe_op op_rep (pe_lst (pa_cons (pe_ix (show IxR _ (rIxL K) from ix_list) (pe_lst (pa_cons pe_int (pa_cons (pv 6) pa_nil))) (pe_op op_mod (pv 3) pe_int) (fun _ _ => rfl)) pa_nil)) (pe_callB (call_min2 rfl) (by rfl) T.n_min (by decide +kernel) (pa_cons (pv 4) (pa_cons (pe_op op_sub (pe_callB (show CallR _ _ (Evl.rLenS K) from call_len_seq) (by rfl) T.n_len (by decide +kernel) (pa_cons (pv 7) pa_nil)) (pv 8)) pa_nil))))) (pe_slice (show SlR _ (rSlL K) from sl_list) (pv 7) (po_some (pe_op op_add (pv 8) (pv 4))) po_none)))
      (pss_one (ps_if (pt_not (pt_val (pe_callG (ok__law_right T) hg (hr.mono (by decide)) (by rfl) T.g__law_right T.F__law_right.kp (b__law_right T) .nil pass0 (pa_cons (pv 2) (pa_cons (pe_call (ok__law_sums T) (hr.mono (by decide)) (by rfl) T.g__law_sums T.F__law_sums.kp (b__law_sums T) .nil pass0 (pa_cons (pv 7) (pa_cons (pv 4) pa_nil))) (pa_cons (pv 4) (pa_cons (pv 6) pa_nil))))))) (pss_one (ps_ret pe_bl)) pss_nil)))))))
      (pss_cons (ps_setLc (i := 7) (own := [("turn", 3)]) (g := gName 3) (tt := tYes) rfl nd rfl rfl (sw_true rfl rfl rfl (by decide +kernel)) (pi_range1 (by rfl) T.n_range (pa_cons pe_int pa_nil)) (blkOk_by (own := [("turn", 3)]) (N := ["script", "k", "jar", "turn", "size", "many", "top", "some", "spot"]) (sc := defScope s_law) (by decide +kernel)) (fun _ _ _ _ _ => (pg_name (i := 3) nd rfl (by first | exact Or.inl rfl | exact Or.inr rfl))) (fun _ _ _ _ _ => pts_nil) (fun _ _ _ _ _ => (pe_op op_sub (pe_op op_sub (pe_op op_powW pe_int pe_int) pe_int) (pe_call (ok__law_dip T) (hr.mono (by decide)) (by rfl) T.g__law_dip T.F__law_dip.kp (b__law_dip T) .nil pass0 (pa_cons (pv 2) (pa_cons (pe_op op_powW pe_int pe_int) pa_nil))))))
      (pss_cons (ps_if (pt_not (pt_val (pe_callG (ok__law_right T) hg (hr.mono (by decide)) (by rfl) T.g__law_right T.F__law_right.kp (b__law_right T) .nil pass0 (pa_cons (pv 2) (pa_cons (pe_call (ok_sums_of T) (hr.mono (by decide)) (by rfl) T.g_sums_of T.F_sums_of.kp (b_sums_of T) .nil pass0 (pa_cons (pv 7) (pa_cons pe_int pa_nil))) (pa_cons pe_int (pa_cons (pe_op op_sub (pe_op op_powW pe_int pe_int) pe_int) pa_nil))))))) (pss_one (ps_ret pe_bl)) pss_nil)
      (pss_one (ps_ret (pe_and (pe_cmpR (show OpR _ _ (rEqD K) from (op_eqD hr.units)) (pe_call (ok_next_range T) (hr.mono (by decide)) (by rfl) T.g_next_range T.F_next_range.kp (b_next_range T) .nil pass0 (pa_cons (pe_lst (pa_cons pe_int (pa_cons pe_int (pa_cons pe_int pa_nil)))) (pa_cons pe_int (pa_cons pe_int pa_nil)))) (pe_tup (pa_cons pe_int (pa_cons pe_int pa_nil))) (nomark _)) (pe_one (pe_cmpR (show OpR _ _ (rEqD K) from (op_eqD hr.units)) (pe_call (ok_next_range T) (hr.mono (by decide)) (by rfl) T.g_next_range T.F_next_range.kp (b_next_range T) .nil pass0 (pa_cons (pe_lst (pa_cons pe_int pa_nil)) (pa_cons pe_int (pa_cons pe_int pa_nil)))) (pe_tup (pa_cons pe_int (pa_cons pe_int pa_nil))) (nomark _)))))))))))), ?_⟩
  obtain ⟨wd, sv, ns, rfl, rfl, rs, hlen, hbits, k⟩ := h
  try dsimp only [cxOf]
  refine q_for (K := K) (ei_range1 (ev_max2 ev_int (ev_min2 ev_int (ev_len (ev_var rfl rs)))) (by omega)) (fun i σ z => ∃ y1 y2 y3 y4 y5 y6 y7 y8 : Option V, σ = [some sv, y1, y2, y3, y4, y5, y6, y7, y8] ∧ Ex wd.S z.S) (fun z g => ⟨none, none, none, none, none, none, none, none, rfl, g.s⟩) ?_ ?_
  · intro i d vd σ z z2 hd hx hI gz hrd
    obtain ⟨y1, y2, y3, y4, y5, y6, y7, y8, rfl, xz⟩ := hI
    cases hrd
    have hdm := irange_mem.mp (List.mem_of_getElem? hd)
    refine asgX (jar_run (K := K) (i := 0) rfl ((Rep.list Rep.int).m (xz.trans gz.s) rs) (ev_varI rfl) ⟨hdm.1, by omega⟩ fun p z3 g3 n3 j3 => ?_)
    refine s_for (K := K) (ei_range1 (ev_int) (by decide)) (fun m σ u => ∃ y3 y4 y5 y6 y7 y8 : Option V, σ = [some sv, some (.int d), some (.ref p), y3, y4, y5, y6, y7, y8] ∧ Ex z3.S u.S ∧ Jar K u p (5000 - 1000 * m)) (fun u g => ⟨y3, y4, y5, y6, y7, y8, rfl, g.s, (j3.gr g).le (by decide)⟩) ?_ ?_
    · intro m e ve σ u u2 he hxu hI gu hre
      obtain ⟨y3, y4, y5, y6, y7, y8, rfl, xu, ju⟩ := hI
      cases hre
      have hm3 : m < 2 := by
        have := (List.getElem?_eq_some_iff.mp he).1
        rw [irange_len] at this
        simpa using this
      refine size_run (K := K) (f := 4998 - 1000 * m) rfl rfl (by decide) ((ju.gr gu).le (by omega)) ev_int fun a b u3 m3 j3 a1 a8 ab bm => ?_
      refine asgX (high_run (K := K) (f := 4996 - 1000 * m) rfl (by decide) (j3.le (by omega)) ev_int fun h u4 m4 j4 h0 h1 => ?_)
      refine notX1 (rightJ_run (K := K) (p := p) (j := 2) (L := a) (m := h) (f := 4000 - 1000 * m) rfl ⟨a1, a8⟩ ⟨h0, h1⟩ (days_x (K := K) (p := p) (f := 4000 - 1000 * m) rfl ⟨h0, by omega⟩ a1 (fun Q' q => ⟨_, rfl, q u4 b Mt.self (j4.le (by omega)) ab (by omega)⟩) (fun _ => ev_varI rfl)) (fun _ => ev_varI rfl) (fun _ => ev_varI rfl) (fun _ => ev_varI rfl) fun u5 m5 j5 => ⟨true, rfl, ifNT ?_⟩)
      dsimp only
      refine nxt ?_ ?_
      · exact gu.s.trans (m3.s.trans (m4.s.trans m5.s))
      · exact ⟨_, _, _, _, _, _, rfl, xu.trans (gu.s.trans (m3.s.trans (m4.s.trans m5.s))), j5.le (by omega)⟩
    · intro σ u hxu hI
      obtain ⟨y3, y4, y5, y6, y7, y8, rfl, xu, ju⟩ := hI
      dsimp only
      refine nxt ?_ ?_
      · exact gz.s.trans (g3.s.trans xu)
      · exact ⟨_, _, _, _, _, _, _, _, rfl, xz.trans (gz.s.trans (g3.s.trans xu))⟩
  intro σ z hx hI
  obtain ⟨y1, y2, y3, y4, y5, y6, y7, y8, rfl, xz⟩ := hI
  refine asgX (jar_run (K := K) (i := 0) rfl ((Rep.list Rep.int).m xz rs) ev_int (by decide) fun p z3 g3 n3 j3 => ?_)
  refine for_tup3 (EvD.run (K := K) (r := Rep.int) ev_int fun v1 z4 g4 r4 => EvD.run (K := K) (r := Rep.int) ev_int fun v2 z5 g5 r5 => add_run (EvD.run (K := K) (r := Rep.int) ev_int fun v3 z6 g6 r6 => dip_run (K := K) (i := 2) (f := 30000) rfl ((j3.gr ((g4.trans g5).trans g6)).le (by decide)) ev_int (by decide) (by decide) fun d z7 m7 j7 d0 d1 => ⟨_, _, r6, rfl, ?_⟩))
  cases r4; cases r5
  refine q_for (K := K) (ei_tup (el_cons (e := Rep.int) ev_int (el_cons ev_int (el_cons ev_int el_nil)))) (fun m σ u => ∃ y3 y4 y5 y6 y7 y8 : Option V, σ = [some sv, y1, some (.ref p), y3, y4, y5, y6, y7, y8] ∧ Jar K u p (25000 - 1000 * m)) (fun u g => ⟨y3, y4, y5, y6, y7, y8, rfl, (j7.gr g).le (by decide)⟩) ?_ ?_
  · intro m a v σ u u2 ha hxu hI gu hra
    obtain ⟨y3, y4, y5, y6, y7, y8, rfl, ju⟩ := hI
    cases hra
    have ham : a = 8 ∨ a = 1 ∨ a = 1 + d := by simpa using List.mem_of_getElem? ha
    have hm3 : m < 3 := (List.getElem?_eq_some_iff.mp ha).1
    have p28 : (10 : Int) ^ (28 : Int).toNat = 10000000000000000000000000000 := by decide +kernel
    have e28 : ∀ u, EvD K (tOp (rI CPowW fun i j => V.int (i ^ j.toNat)) (tC (.int 10)) (tC (.int 28))) [some sv, y1, some (.ref p), y3, some (.int a), y5, y6, y7, y8] u Rep.int 10000000000000000000000000000 := fun u => EvD.eq (ev_pow ev_int ev_int (pow_ok (n := 4) (by decide) (by decide) (by decide) (by decide))) p28
    refine notX1 (rightJ_run (K := K) (p := p) (j := 2) (L := a) (m := 10000000000000000000000000000) (f := 24000 - 1000 * m) rfl (by omega) (by decide) (days_x (K := K) (p := p) (f := 24000 - 1000 * m) rfl (by decide) (by omega) (fun Q' q => q u2 67 Mt.self ((ju.gr gu).le (by omega)) (by omega) (by decide)) e28) (fun _ => ev_varI rfl) (fun _ => ev_varI rfl) e28 fun u5 m5 j5 => ⟨true, rfl, ifNT ?_⟩)
    dsimp only
    refine nxt ?_ ?_
    · exact gu.s.trans m5.s
    · exact ⟨_, _, _, _, _, _, rfl, j5.le (by omega)⟩
  intro σ u hxu hI
  obtain ⟨y3, y4, y5, y6, y7, y8, rfl, ju⟩ := hI
  refine q_for (K := K) (ei_range1 (ev_int) (by decide)) (fun m σ u => ∃ y3 y4 y5 y6 y7 y8 : Option V, σ = [some sv, y1, some (.ref p), y3, y4, y5, y6, y7, y8] ∧ Jar K u p (20000 - 1000 * m)) (fun u g => ⟨y3, y4, y5, y6, y7, y8, rfl, (ju.gr g).le (by show 20000 ≤ 25000 - 1000 * 3; decide)⟩) ?_ ?_
  · intro m e ve σ u u2 he hxu hI gu hre
    obtain ⟨y3, y4, y5, y6, y7, y8, rfl, ju⟩ := hI
    cases hre
    have hem := irange_mem.mp (List.mem_of_getElem? he)
    have hm3 : m < 3 := by
      have := (List.getElem?_eq_some_iff.mp he).1
      rw [irange_len] at this
      simpa using this
    refine par2x (add_run (EvD.run (K := K) (r := Rep.int) ev_int fun v1 u3 g3 r3 => dip_run (K := K) (i := 2) (f := 19998 - 1000 * m) rfl (((ju.gr gu).gr g3).le (by omega)) ev_int (by decide) (by decide) fun a u4 m4 j4 a0 a1 => ⟨_, _, r3, rfl, high_run (K := K) (f := 19996 - 1000 * m) rfl (by decide) (j4.le (by omega)) ev_int fun h u5 m5 j5 h0 h1 => ⟨_, _, rfl, ?_⟩⟩))
    refine asgX (days_x (K := K) (p := p) (L := 25) (m := h) (f := 19400 - 1000 * m) rfl ⟨h0, by omega⟩ (by decide) (fun Q' q => add_run (EvD.run (K := K) (r := Rep.int) ev_int fun v1 u6 g6 r6 => dip_run (K := K) (i := 2) (f := 19990 - 1000 * m) rfl ((j5.gr g6).le (by omega)) ev_int (by decide) (by decide) fun b u7 m7 j7 b0 b1 => ⟨_, _, r6, rfl, q u7 (25 + b) ((g6.mt j5.ne).trans m7) (j7.le (by omega)) (by omega) (by omega)⟩)) (fun _ => ev_varI rfl) _ fun vx l u8 m8 j8 r8 hl1 hl2 hlr => ?_)
    have j8' : Jar K u8 p (19800 - 1000 * m) := j8.le (by omega)
    refine asgX (dip_run (K := K) (i := 2) (f := 19799 - 1000 * m) rfl (j8'.le (by omega)) (ev_len (ev_var rfl r8)) (by omega) (Nat.lt_of_lt_of_le (show ((l.length : Int)).natAbs < 2 ^ 7 by omega) (Nat.pow_le_pow_right (by decide) (by decide))) fun sp u9 m9 j9 s0 s1 => ?_)
    have r9 := rp_mt m9 r8
    have hc : ∃ c : Int, (0 ≤ c ∧ c ≤ h) ∧ atI ([0, h] : List Int) (e % 2) = some c := by
      have : e % 2 = 0 ∨ e % 2 = 1 := by omega
      rcases this with z | z <;> rw [z]
      · exact ⟨0, ⟨Int.le_refl _, h0⟩, rfl⟩
      · exact ⟨h, ⟨h0, Int.le_refl _⟩, rfl⟩
    obtain ⟨c, hc0, hc1⟩ := hc
    have es1 : sp = ((sp.toNat : Nat) : Int) := by omega
    have es2 : sp + (1 + a) = ((sp.toNat + (1 + a).toNat : Nat) : Int) := by omega
    have ec1 : cut l none (some sp) = l.take sp.toNat := by rw [show (some sp : Option Int) = some ((sp.toNat : Nat) : Int) by rw [← es1], cut_to (by omega)]
    have ec2 : cut l (some (sp + (1 + a))) none = l.drop (sp.toNat + (1 + a).toNat) := by rw [show (some (sp + (1 + a)) : Option Int) = some ((sp.toNat + (1 + a).toNat : Nat) : Int) by rw [← es2], cut_from]
    have hrep : (List.replicate (min (1 + a) ((l.length : Int) - sp)).toNat ([c] : List Int)).flatten = List.replicate (min (1 + a) ((l.length : Int) - sp)).toNat c := by simp
    refine q_asg (K := K) (EvN.d (en_cat (e := Rep.int) (en_cat (e := Rep.int) (en_sl (ev_var rfl r9) eo_none (eo_some (ev_varI rfl))) (en_rep (l := [c]) (en_lst (el_cons (ev_ix (EvN.d (en_lst (el_cons ev_int (el_cons (ev_varI rfl) el_nil)))) (ev_mod (ev_varI rfl) ev_int (by decide)) hc1) el_nil)) (ev_min2 (ev_varI rfl) (ev_sub (ev_len (ev_var rfl r9)) (ev_varI rfl))) ⟨by omega, by show 1 * _ ≤ 100000; omega, by omega⟩) (by rw [ec1, hrep, List.length_take, List.length_replicate]; omega)) (en_sl (ev_var rfl r9) (eo_some (ev_add (ev_varI rfl) (ev_varI rfl))) eo_none) (by rw [ec1, ec2, hrep, List.length_append, List.length_take, List.length_replicate, List.length_drop]; omega))) fun vy u10 g10 r10 => ?_
    rw [ec1, ec2, hrep] at r10
    have j10 := j9.gr g10
    refine notX1 (rightJ_run (K := K) (p := p) (j := 2) (L := 1 + a) (m := h) (f := 19000 - 1000 * m) rfl (by omega) ⟨h0, h1⟩ (fun Q' q => ⟨_, rfl, q _ _ u10 Mt.self (j10.le (by omega)) r10 (by simp only [List.length_append, List.length_take, List.length_replicate, List.length_drop]; omega) (by simp only [List.length_append, List.length_take, List.length_replicate, List.length_drop]; omega) (fun z hz => by
      rcases List.mem_append.mp hz with hz | hz
      · rcases List.mem_append.mp hz with hz | hz
        · exact hlr z (List.mem_of_mem_take hz)
        · rw [List.eq_of_mem_replicate hz]; exact hc0
      · exact hlr z (List.mem_of_mem_drop hz))⟩) (fun _ => ev_varI rfl) (fun _ => ev_varI rfl) (fun _ => ev_varI rfl) fun u11 m11 j11 => ⟨true, rfl, ifNT ?_⟩)
    dsimp only
    refine nxt ?_ ?_
    · exact gu.s.trans (g3.s.trans (m4.s.trans (m5.s.trans (m8.s.trans (m9.s.trans (g10.s.trans m11.s))))))
    · exact ⟨_, _, _, _, _, _, rfl, j11.le (by omega)⟩
  intro σ u hxu hI
  obtain ⟨y3, y4, y5, y6, y7, y8, rfl, ju⟩ := hI
  have j1 : Jar K u p 10000 := ju.le (by show 10000 ≤ 20000 - 1000 * 3; decide)
  refine asgX (lc_jar (K := K) (p := p) (e := Rep.int) (e' := Rep.int) (l := irange 0 20) (fun i w' => Jar K w' p (10000 - i)) (fun b => 0 ≤ b ∧ b ≤ 10 ^ 30 - 1) (ei_range1 ev_int (by decide)) (by decide) (fun _ => rfl) (fun _ _ j => j.ne) (fun _ g => j1.gr g) (fun _ _ _ j g => j.gr g) (fun _ d _ _ ne j mm => j.mt mm ne) (fun i a v w' ha xw j ra Q' k' => ?_) (fun q1 l1 w2 m2 j2 n2 ne2 o2 hl2 hp2 => ?_))
  · have hi := (irange_get' ha).2
    have p29 : (10 : Int) ^ (29 : Int).toNat = 100000000000000000000000000000 := by decide +kernel
    refine sub_run (EvD.run (K := K) (ev_sub (ev_pow ev_int ev_int (pow_ok (n := 4) (by decide) (by decide) (by decide) (by decide))) ev_int) fun v w3 g3 r3 => dip_run (K := K) (i := 2) (f := 10000 - (i + 1)) rfl ((j.gr g3).le (by omega)) (ev_pow ev_int ev_int (pow_ok (n := 4) (by decide) (by decide) (by decide) (by decide))) (by rw [p29]; decide) (by rw [p29]; decide +kernel) fun d w4 m4 j4 d0 d1 => ⟨_, _, r3, rfl, ?_⟩)
    rw [p29] at d1
    rw [pow30]
    exact k' _ (1000000000000000000000000000000 - 1 - d) w4 ((g3.mt j.ne).trans m4) j4 rfl ⟨by omega, by omega⟩
  · obtain ⟨w3, e3, m3, r3⟩ := o2.fix
    rw [← e3]
    have j3' : Jar K w3 p 9000 := (j2.mt m3 (Ne.symm ne2)).le (by show 9000 ≤ 10000 - (irange 0 20).length; rw [irange_len]; decide)
    have hl20 : l1.length = 20 := by rw [hl2, irange_len]; rfl
    have e30 : ∀ u, EvD K (tOp (rI0 fun i j => V.int (i - j)) (tOp (rI CPowW fun i j => V.int (i ^ j.toNat)) (tC (.int 10)) (tC (.int 30))) (tC (.int 1))) [some sv, y1, some (.ref p), y3, y4, y5, y6, some (.ref q1), y8] u Rep.int (10 ^ 30 - 1) := fun u => EvD.eq (ev_sub (ev_pow ev_int ev_int (pow_ok (n := 4) (by decide) (by decide) (by decide) (by decide))) ev_int) (by rw [pow30]; rfl)
    refine notX (rightJ_run (K := K) (p := p) (j := 2) (L := 8) (m := 10 ^ 30 - 1) (f := 8000) rfl (by decide) (by decide) (fun Q' q => ⟨_, rfl, q _ _ w3 Mt.self (j3'.le (by decide)) r3 (by omega) (by omega) hp2⟩) (fun _ => ev_int) (fun _ => ev_int) e30 fun u11 m11 j11 => ⟨true, rfl, ifNT ?_⟩)
    refine s_ret (K := K) (EvD.eq (ev_andV (ev_eqD rd_pI (ev_call3 (EvN.d (en_lst (el_cons ev_int (el_cons ev_int (el_cons ev_int el_nil))))) ev_int ev_int px1) (ev_pair ev_int ev_int)) fun _ => ev_eqD rd_pI (ev_call3 (EvN.d (en_lst (el_cons ev_int el_nil))) ev_int ev_int px2) (ev_pair ev_int ev_int)) (show _ = true by rw [nx1, nx2]; decide)) fun v w4 g4 r4 => ?_
    cases r4
    exact k w4
end
end WK

namespace WK
open PySem PySem.Spec PyProof.Rows L2
set_option maxHeartbeats 0
def dd_is_integer : He.DefD := ⟨("is_integer", none), "is_integer", "is_integer", defArgs s_is_integer, defBody s_is_integer, defScope s_is_integer, [], []⟩
def dd_are_integers : He.DefD := ⟨("are_integers", none), "are_integers", "are_integers", defArgs s_are_integers, defBody s_are_integers, defScope s_are_integers, [], []⟩
def dd_is_sums : He.DefD := ⟨("is_sums", none), "is_sums", "is_sums", defArgs s_is_sums, defBody s_is_sums, defScope s_is_sums, [], []⟩
def dd_need_length : He.DefD := ⟨("need_length", none), "need_length", "need_length", defArgs s_need_length, defBody s_need_length, defScope s_need_length, [], []⟩
def dd_need_sums : He.DefD := ⟨("need_sums", none), "need_sums", "need_sums", defArgs s_need_sums, defBody s_need_sums, defScope s_need_sums, [], []⟩
def dd_need_day : He.DefD := ⟨("need_day", none), "need_day", "need_day", defArgs s_need_day, defBody s_need_day, defScope s_need_day, [], []⟩
def dd_day_count : He.DefD := ⟨("day_count", none), "day_count", "day_count", defArgs s_day_count, defBody s_day_count, defScope s_day_count, [], []⟩
def dd_offsets_in : He.DefD := ⟨("offsets_in", none), "offsets_in", "offsets_in", defArgs s_offsets_in, defBody s_offsets_in, defScope s_offsets_in, [], []⟩
def dd_sums_of : He.DefD := ⟨("sums_of", none), "sums_of", "sums_of", defArgs s_sums_of, defBody s_sums_of, defScope s_sums_of, [], []⟩
def dd_total_in : He.DefD := ⟨("total_in", none), "total_in", "total_in", defArgs s_total_in, defBody s_total_in, defScope s_total_in, [], []⟩
def dd_need_most : He.DefD := ⟨("need_most", none), "need_most", "need_most", defArgs s_need_most, defBody s_need_most, defScope s_need_most, [], []⟩
def dd_need_all : He.DefD := ⟨("need_all", none), "need_all", "need_all", defArgs s_need_all, defBody s_need_all, defScope s_need_all, [], []⟩
def dd_classes_in : He.DefD := ⟨("classes_in", none), "classes_in", "classes_in", defArgs s_classes_in, defBody s_classes_in, defScope s_classes_in, [], []⟩
def dd_bounds_in : He.DefD := ⟨("bounds_in", none), "bounds_in", "bounds_in", defArgs s_bounds_in, defBody s_bounds_in, defScope s_bounds_in, [], []⟩
def dd_apart_days : He.DefD := ⟨("apart_days", none), "apart_days", "apart_days", defArgs s_apart_days, defBody s_apart_days, defScope s_apart_days, [], []⟩
def dd_end_days : He.DefD := ⟨("end_days", none), "end_days", "end_days", defArgs s_end_days, defBody s_end_days, defScope s_end_days, [], []⟩
def dd_conflict_in : He.DefD := ⟨("conflict_in", none), "conflict_in", "conflict_in", defArgs s_conflict_in, defBody s_conflict_in, defScope s_conflict_in, [], []⟩
def dd_need_way : He.DefD := ⟨("need_way", none), "need_way", "need_way", defArgs s_need_way, defBody s_need_way, defScope s_need_way, [], []⟩
def dd_weighed : He.DefD := ⟨("weighed", none), "weighed", "weighed", defArgs s_weighed, defBody s_weighed, defScope s_weighed, [], []⟩
def dd_weighed_range : He.DefD := ⟨("weighed_range", none), "weighed_range", "weighed_range", defArgs s_weighed_range, defBody s_weighed_range, defScope s_weighed_range, [], []⟩
def dd_range_of_days : He.DefD := ⟨("range_of_days", none), "range_of_days", "range_of_days", defArgs s_range_of_days, defBody s_range_of_days, defScope s_range_of_days, [], []⟩
def dd_range_in : He.DefD := ⟨("range_in", none), "range_in", "range_in", defArgs s_range_in, defBody s_range_in, defScope s_range_in, [], []⟩
def dd_next_in : He.DefD := ⟨("next_in", none), "next_in", "next_in", defArgs s_next_in, defBody s_next_in, defScope s_next_in, [], []⟩
def dd_day_range : He.DefD := ⟨("day_range", none), "day_range", "day_range", defArgs s_day_range, defBody s_day_range, defScope s_day_range, [], []⟩
def dd_all_in : He.DefD := ⟨("all_in", none), "all_in", "all_in", defArgs s_all_in, defBody s_all_in, defScope s_all_in, [], []⟩
def dd_all_ranges : He.DefD := ⟨("all_ranges", none), "all_ranges", "all_ranges", defArgs s_all_ranges, defBody s_all_ranges, defScope s_all_ranges, [], []⟩
def dd_certain_days : He.DefD := ⟨("certain_days", none), "certain_days", "certain_days", defArgs s_certain_days, defBody s_certain_days, defScope s_certain_days, [], []⟩
def dd_row_range : He.DefD := ⟨("row_range", none), "row_range", "row_range", defArgs s_row_range, defBody s_row_range, defScope s_row_range, [], []⟩
def dd_need_days : He.DefD := ⟨("need_days", none), "need_days", "need_days", defArgs s_need_days, defBody s_need_days, defScope s_need_days, [], []⟩
def dd_total_range : He.DefD := ⟨("total_range", none), "total_range", "total_range", defArgs s_total_range, defBody s_total_range, defScope s_total_range, [], []⟩
def dd_difference_range : He.DefD := ⟨("difference_range", none), "difference_range", "difference_range", defArgs s_difference_range, defBody s_difference_range, defScope s_difference_range, [], []⟩
def dd_next_range : He.DefD := ⟨("next_range", none), "next_range", "next_range", defArgs s_next_range, defBody s_next_range, defScope s_next_range, [], []⟩
def dd__law_jar : He.DefD := ⟨("_law_jar", none), "_law_jar", "_law_jar", defArgs s__law_jar, defBody s__law_jar, defScope s__law_jar, [], []⟩
def dd__law_dip : He.DefD := ⟨("_law_dip", none), "_law_dip", "_law_dip", defArgs s__law_dip, defBody s__law_dip, defScope s__law_dip, [], []⟩
def dd__law_sums : He.DefD := ⟨("_law_sums", none), "_law_sums", "_law_sums", defArgs s__law_sums, defBody s__law_sums, defScope s__law_sums, [], []⟩
def dd__law_days : He.DefD := ⟨("_law_days", none), "_law_days", "_law_days", defArgs s__law_days, defBody s__law_days, defScope s__law_days, [], []⟩
def dd__law_top : He.DefD := ⟨("_law_top", none), "_law_top", "_law_top", defArgs s__law_top, defBody s__law_top, defScope s__law_top, [], []⟩
def dd__law_high : He.DefD := ⟨("_law_high", none), "_law_high", "_law_high", defArgs s__law_high, defBody s__law_high, defScope s__law_high, [], []⟩
def dd__law_size : He.DefD := ⟨("_law_size", none), "_law_size", "_law_size", defArgs s__law_size, defBody s__law_size, defScope s__law_size, [], []⟩
def dd__law_gaps : He.DefD := ⟨("_law_gaps", none), "_law_gaps", "_law_gaps", defArgs s__law_gaps, defBody s__law_gaps, defScope s__law_gaps, [], []⟩
def dd__law_box : He.DefD := ⟨("_law_box", none), "_law_box", "_law_box", defArgs s__law_box, defBody s__law_box, defScope s__law_box, [], []⟩
def dd__law_fits : He.DefD := ⟨("_law_fits", none), "_law_fits", "_law_fits", defArgs s__law_fits, defBody s__law_fits, defScope s__law_fits, [], []⟩
def dd__law_filled : He.DefD := ⟨("_law_filled", none), "_law_filled", "_law_filled", defArgs s__law_filled, defBody s__law_filled, defScope s__law_filled, [], []⟩
def dd__law_best : He.DefD := ⟨("_law_best", none), "_law_best", "_law_best", defArgs s__law_best, defBody s__law_best, defScope s__law_best, [], []⟩
def dd__law_due : He.DefD := ⟨("_law_due", none), "_law_due", "_law_due", defArgs s__law_due, defBody s__law_due, defScope s__law_due, [], []⟩
def dd__law_right : He.DefD := ⟨("_law_right", none), "_law_right", "_law_right", defArgs s__law_right, defBody s__law_right, defScope s__law_right, [], []⟩
def dd_law : He.DefD := ⟨("law", none), "law", "law", defArgs s_law, defBody s_law, defScope s_law, [], []⟩
def hfn : List He.DefD := (([dd_is_integer, dd_are_integers, dd_is_sums, dd_need_length, dd_need_sums, dd_need_day, dd_day_count, dd_offsets_in, dd_sums_of, dd_total_in, dd_need_most, dd_need_all, dd_classes_in, dd_bounds_in, dd_apart_days, dd_end_days, dd_conflict_in, dd_need_way, dd_weighed, dd_weighed_range, dd_range_of_days, dd_range_in, dd_next_in, dd_day_range, dd_all_in, dd_all_ranges, dd_certain_days, dd_row_range, dd_need_days, dd_total_range] : List He.DefD) ++ ([dd_difference_range, dd_next_range, dd__law_jar, dd__law_dip, dd__law_sums, dd__law_days, dd__law_top, dd__law_high, dd__law_size, dd__law_gaps, dd__law_box, dd__law_fits, dd__law_filled, dd__law_best, dd__law_due, dd__law_right, dd_law] : List He.DefD))
def hfa : List He.Fa := (([.glo "is_integer", .glo "are_integers", .glo "is_sums", .glo "need_length", .glo "need_sums", .glo "need_day", .glo "day_count", .glo "offsets_in", .glo "sums_of", .glo "total_in", .glo "need_most", .glo "need_all", .glo "classes_in", .glo "bounds_in", .glo "apart_days", .glo "end_days", .glo "conflict_in", .glo "need_way", .glo "weighed", .glo "weighed_range", .glo "range_of_days", .glo "range_in", .glo "next_in", .glo "day_range", .glo "all_in", .glo "all_ranges", .glo "certain_days", .glo "row_range", .glo "need_days", .glo "total_range"] : List He.Fa) ++ ([.glo "difference_range", .glo "next_range", .glo "_law_jar", .glo "_law_dip", .glo "_law_sums", .glo "_law_days", .glo "_law_top", .glo "_law_high", .glo "_law_size", .glo "_law_gaps", .glo "_law_box", .glo "_law_fits", .glo "_law_filled", .glo "_law_best", .glo "_law_due", .glo "_law_right", .glo "law", .free "range", .free "enumerate", .free "sorted", .free "sum", .free "isinstance", .free "int", .free "list", .free "all", .free "len", .free "min", .free "abs", .free "max", .free "repr"] : List He.Fa) ++ ([.free "bool", .free "set", .free "zip", .int "MOST_DAYS" 67, .int "MOST_LENGTH" 8, .int "MOST_MOST" 999999999999999999999999999999] : List He.Fa))
abbrev hR : PySem.W.OpenRow := PySem.W.OpenLaw.row PySem.Challenge.rw_weeksums_k10_ranges_of_great_numbers
abbrev hk : PySem.W.Hook := He.hookD 4 hfa hfn
def hob (s : PySem.W.SharedT) : He.AlD := He.obsDG 4 hfa hfn (HandSHeadRun.getT s)
theorem hob_eq (s : PySem.W.SharedT) : hob s = hk.obs s.abs := He.obsDG_eq (HandSHeadRun.getT_eq s)
def hloose : List PySem.Str := ((["__name__", "SumError", "InvalidSums", "InvalidNumbers", "InvalidLength", "InvalidMost", "InvalidDay", "InvalidDays", "Impossible", "MOST_DAYS", "MOST_LENGTH", "is_integer", "are_integers", "is_sums", "need_length", "need_sums", "need_day", "day_count", "offsets_in", "sums_of", "total_in", "MOST_MOST", "need_most", "need_all", "classes_in", "bounds_in", "apart_days", "end_days", "conflict_in", "need_way"] : List PySem.Str) ++ (["weighed", "weighed_range", "range_of_days", "range_in", "next_in", "day_range", "all_in", "all_ranges", "certain_days", "row_range", "need_days", "total_range", "difference_range", "next_range", "_law_jar", "_law_dip", "_law_sums", "_law_days", "_law_top", "_law_high", "_law_size", "_law_gaps", "_law_box", "_law_fits", "_law_filled", "_law_best", "_law_due", "_law_right"] : List PySem.Str))
theorem hrun (w : World) : HandSHeadRun.RunEq hR (PySem.W.view hR.prog [62]) hk hob 8000 hloose w := by
  intro os
  kernel_rfl
theorem htx {K : PySem.W.Frag} {h : Heap} {mg : Str → Option Value} (X : K.In h) (G : h.Ns mainGlobals mg) (c : He.SaysD hfa hfn K) : Nonempty (Tx K mg) := by
  obtain ⟨d0, F0⟩ := c.def_ 0 (d := dd_is_integer) rfl
  obtain ⟨d1, F1⟩ := c.def_ 1 (d := dd_are_integers) rfl
  obtain ⟨d2, F2⟩ := c.def_ 2 (d := dd_is_sums) rfl
  obtain ⟨d3, F3⟩ := c.def_ 3 (d := dd_need_length) rfl
  obtain ⟨d4, F4⟩ := c.def_ 4 (d := dd_need_sums) rfl
  obtain ⟨d5, F5⟩ := c.def_ 5 (d := dd_need_day) rfl
  obtain ⟨d6, F6⟩ := c.def_ 6 (d := dd_day_count) rfl
  obtain ⟨d7, F7⟩ := c.def_ 7 (d := dd_offsets_in) rfl
  obtain ⟨d8, F8⟩ := c.def_ 8 (d := dd_sums_of) rfl
  obtain ⟨d9, F9⟩ := c.def_ 9 (d := dd_total_in) rfl
  obtain ⟨d10, F10⟩ := c.def_ 10 (d := dd_need_most) rfl
  obtain ⟨d11, F11⟩ := c.def_ 11 (d := dd_need_all) rfl
  obtain ⟨d12, F12⟩ := c.def_ 12 (d := dd_classes_in) rfl
  obtain ⟨d13, F13⟩ := c.def_ 13 (d := dd_bounds_in) rfl
  obtain ⟨d14, F14⟩ := c.def_ 14 (d := dd_apart_days) rfl
  obtain ⟨d15, F15⟩ := c.def_ 15 (d := dd_end_days) rfl
  obtain ⟨d16, F16⟩ := c.def_ 16 (d := dd_conflict_in) rfl
  obtain ⟨d17, F17⟩ := c.def_ 17 (d := dd_need_way) rfl
  obtain ⟨d18, F18⟩ := c.def_ 18 (d := dd_weighed) rfl
  obtain ⟨d19, F19⟩ := c.def_ 19 (d := dd_weighed_range) rfl
  obtain ⟨d20, F20⟩ := c.def_ 20 (d := dd_range_of_days) rfl
  obtain ⟨d21, F21⟩ := c.def_ 21 (d := dd_range_in) rfl
  obtain ⟨d22, F22⟩ := c.def_ 22 (d := dd_next_in) rfl
  obtain ⟨d23, F23⟩ := c.def_ 23 (d := dd_day_range) rfl
  obtain ⟨d24, F24⟩ := c.def_ 24 (d := dd_all_in) rfl
  obtain ⟨d25, F25⟩ := c.def_ 25 (d := dd_all_ranges) rfl
  obtain ⟨d26, F26⟩ := c.def_ 26 (d := dd_certain_days) rfl
  obtain ⟨d27, F27⟩ := c.def_ 27 (d := dd_row_range) rfl
  obtain ⟨d28, F28⟩ := c.def_ 28 (d := dd_need_days) rfl
  obtain ⟨d29, F29⟩ := c.def_ 29 (d := dd_total_range) rfl
  obtain ⟨d30, F30⟩ := c.def_ 30 (d := dd_difference_range) rfl
  obtain ⟨d31, F31⟩ := c.def_ 31 (d := dd_next_range) rfl
  obtain ⟨d32, F32⟩ := c.def_ 32 (d := dd__law_jar) rfl
  obtain ⟨d33, F33⟩ := c.def_ 33 (d := dd__law_dip) rfl
  obtain ⟨d34, F34⟩ := c.def_ 34 (d := dd__law_sums) rfl
  obtain ⟨d35, F35⟩ := c.def_ 35 (d := dd__law_days) rfl
  obtain ⟨d36, F36⟩ := c.def_ 36 (d := dd__law_top) rfl
  obtain ⟨d37, F37⟩ := c.def_ 37 (d := dd__law_high) rfl
  obtain ⟨d38, F38⟩ := c.def_ 38 (d := dd__law_size) rfl
  obtain ⟨d39, F39⟩ := c.def_ 39 (d := dd__law_gaps) rfl
  obtain ⟨d40, F40⟩ := c.def_ 40 (d := dd__law_box) rfl
  obtain ⟨d41, F41⟩ := c.def_ 41 (d := dd__law_fits) rfl
  obtain ⟨d42, F42⟩ := c.def_ 42 (d := dd__law_filled) rfl
  obtain ⟨d43, F43⟩ := c.def_ 43 (d := dd__law_best) rfl
  obtain ⟨d44, F44⟩ := c.def_ 44 (d := dd__law_due) rfl
  obtain ⟨d45, F45⟩ := c.def_ 45 (d := dd__law_right) rfl
  obtain ⟨d46, F46⟩ := c.def_ 46 (d := dd_law) rfl
  refine ⟨{
    d_is_integer := d0,
    F_is_integer := F0,
    g_is_integer := He.glo_ok X G (c.fact 0 (f := .glo "is_integer") rfl),
    d_are_integers := d1,
    F_are_integers := F1,
    g_are_integers := He.glo_ok X G (c.fact 1 (f := .glo "are_integers") rfl),
    d_is_sums := d2,
    F_is_sums := F2,
    g_is_sums := He.glo_ok X G (c.fact 2 (f := .glo "is_sums") rfl),
    d_need_length := d3,
    F_need_length := F3,
    g_need_length := He.glo_ok X G (c.fact 3 (f := .glo "need_length") rfl),
    d_need_sums := d4,
    F_need_sums := F4,
    g_need_sums := He.glo_ok X G (c.fact 4 (f := .glo "need_sums") rfl),
    d_need_day := d5,
    F_need_day := F5,
    g_need_day := He.glo_ok X G (c.fact 5 (f := .glo "need_day") rfl),
    d_day_count := d6,
    F_day_count := F6,
    g_day_count := He.glo_ok X G (c.fact 6 (f := .glo "day_count") rfl),
    d_offsets_in := d7,
    F_offsets_in := F7,
    g_offsets_in := He.glo_ok X G (c.fact 7 (f := .glo "offsets_in") rfl),
    d_sums_of := d8,
    F_sums_of := F8,
    g_sums_of := He.glo_ok X G (c.fact 8 (f := .glo "sums_of") rfl),
    d_total_in := d9,
    F_total_in := F9,
    g_total_in := He.glo_ok X G (c.fact 9 (f := .glo "total_in") rfl),
    d_need_most := d10,
    F_need_most := F10,
    g_need_most := He.glo_ok X G (c.fact 10 (f := .glo "need_most") rfl),
    d_need_all := d11,
    F_need_all := F11,
    g_need_all := He.glo_ok X G (c.fact 11 (f := .glo "need_all") rfl),
    d_classes_in := d12,
    F_classes_in := F12,
    g_classes_in := He.glo_ok X G (c.fact 12 (f := .glo "classes_in") rfl),
    d_bounds_in := d13,
    F_bounds_in := F13,
    g_bounds_in := He.glo_ok X G (c.fact 13 (f := .glo "bounds_in") rfl),
    d_apart_days := d14,
    F_apart_days := F14,
    g_apart_days := He.glo_ok X G (c.fact 14 (f := .glo "apart_days") rfl),
    d_end_days := d15,
    F_end_days := F15,
    g_end_days := He.glo_ok X G (c.fact 15 (f := .glo "end_days") rfl),
    d_conflict_in := d16,
    F_conflict_in := F16,
    g_conflict_in := He.glo_ok X G (c.fact 16 (f := .glo "conflict_in") rfl),
    d_need_way := d17,
    F_need_way := F17,
    g_need_way := He.glo_ok X G (c.fact 17 (f := .glo "need_way") rfl),
    d_weighed := d18,
    F_weighed := F18,
    g_weighed := He.glo_ok X G (c.fact 18 (f := .glo "weighed") rfl),
    d_weighed_range := d19,
    F_weighed_range := F19,
    g_weighed_range := He.glo_ok X G (c.fact 19 (f := .glo "weighed_range") rfl),
    d_range_of_days := d20,
    F_range_of_days := F20,
    g_range_of_days := He.glo_ok X G (c.fact 20 (f := .glo "range_of_days") rfl),
    d_range_in := d21,
    F_range_in := F21,
    g_range_in := He.glo_ok X G (c.fact 21 (f := .glo "range_in") rfl),
    d_next_in := d22,
    F_next_in := F22,
    g_next_in := He.glo_ok X G (c.fact 22 (f := .glo "next_in") rfl),
    d_day_range := d23,
    F_day_range := F23,
    g_day_range := He.glo_ok X G (c.fact 23 (f := .glo "day_range") rfl),
    d_all_in := d24,
    F_all_in := F24,
    g_all_in := He.glo_ok X G (c.fact 24 (f := .glo "all_in") rfl),
    d_all_ranges := d25,
    F_all_ranges := F25,
    g_all_ranges := He.glo_ok X G (c.fact 25 (f := .glo "all_ranges") rfl),
    d_certain_days := d26,
    F_certain_days := F26,
    g_certain_days := He.glo_ok X G (c.fact 26 (f := .glo "certain_days") rfl),
    d_row_range := d27,
    F_row_range := F27,
    g_row_range := He.glo_ok X G (c.fact 27 (f := .glo "row_range") rfl),
    d_need_days := d28,
    F_need_days := F28,
    g_need_days := He.glo_ok X G (c.fact 28 (f := .glo "need_days") rfl),
    d_total_range := d29,
    F_total_range := F29,
    g_total_range := He.glo_ok X G (c.fact 29 (f := .glo "total_range") rfl),
    d_difference_range := d30,
    F_difference_range := F30,
    g_difference_range := He.glo_ok X G (c.fact 30 (f := .glo "difference_range") rfl),
    d_next_range := d31,
    F_next_range := F31,
    g_next_range := He.glo_ok X G (c.fact 31 (f := .glo "next_range") rfl),
    d__law_jar := d32,
    F__law_jar := F32,
    g__law_jar := He.glo_ok X G (c.fact 32 (f := .glo "_law_jar") rfl),
    d__law_dip := d33,
    F__law_dip := F33,
    g__law_dip := He.glo_ok X G (c.fact 33 (f := .glo "_law_dip") rfl),
    d__law_sums := d34,
    F__law_sums := F34,
    g__law_sums := He.glo_ok X G (c.fact 34 (f := .glo "_law_sums") rfl),
    d__law_days := d35,
    F__law_days := F35,
    g__law_days := He.glo_ok X G (c.fact 35 (f := .glo "_law_days") rfl),
    d__law_top := d36,
    F__law_top := F36,
    g__law_top := He.glo_ok X G (c.fact 36 (f := .glo "_law_top") rfl),
    d__law_high := d37,
    F__law_high := F37,
    g__law_high := He.glo_ok X G (c.fact 37 (f := .glo "_law_high") rfl),
    d__law_size := d38,
    F__law_size := F38,
    g__law_size := He.glo_ok X G (c.fact 38 (f := .glo "_law_size") rfl),
    d__law_gaps := d39,
    F__law_gaps := F39,
    g__law_gaps := He.glo_ok X G (c.fact 39 (f := .glo "_law_gaps") rfl),
    d__law_box := d40,
    F__law_box := F40,
    g__law_box := He.glo_ok X G (c.fact 40 (f := .glo "_law_box") rfl),
    d__law_fits := d41,
    F__law_fits := F41,
    g__law_fits := He.glo_ok X G (c.fact 41 (f := .glo "_law_fits") rfl),
    d__law_filled := d42,
    F__law_filled := F42,
    g__law_filled := He.glo_ok X G (c.fact 42 (f := .glo "_law_filled") rfl),
    d__law_best := d43,
    F__law_best := F43,
    g__law_best := He.glo_ok X G (c.fact 43 (f := .glo "_law_best") rfl),
    d__law_due := d44,
    F__law_due := F44,
    g__law_due := He.glo_ok X G (c.fact 44 (f := .glo "_law_due") rfl),
    d__law_right := d45,
    F__law_right := F45,
    g__law_right := He.glo_ok X G (c.fact 45 (f := .glo "_law_right") rfl),
    d_law := d46,
    F_law := F46,
    g_law := He.glo_ok X G (c.fact 46 (f := .glo "law") rfl),
    n_range := He.free_ok X G (c.fact 47 (f := .free "range") rfl),
    n_enumerate := He.free_ok X G (c.fact 48 (f := .free "enumerate") rfl),
    n_sorted := He.free_ok X G (c.fact 49 (f := .free "sorted") rfl),
    n_sum := He.free_ok X G (c.fact 50 (f := .free "sum") rfl),
    n_isinstance := He.free_ok X G (c.fact 51 (f := .free "isinstance") rfl),
    n_int := He.free_ok X G (c.fact 52 (f := .free "int") rfl),
    n_list := He.free_ok X G (c.fact 53 (f := .free "list") rfl),
    n_all := He.free_ok X G (c.fact 54 (f := .free "all") rfl),
    n_len := He.free_ok X G (c.fact 55 (f := .free "len") rfl),
    n_min := He.free_ok X G (c.fact 56 (f := .free "min") rfl),
    n_abs := He.free_ok X G (c.fact 57 (f := .free "abs") rfl),
    n_max := He.free_ok X G (c.fact 58 (f := .free "max") rfl),
    n_repr := He.free_ok X G (c.fact 59 (f := .free "repr") rfl),
    n_bool := He.free_ok X G (c.fact 60 (f := .free "bool") rfl),
    n_set := He.free_ok X G (c.fact 61 (f := .free "set") rfl),
    n_zip := He.free_ok X G (c.fact 62 (f := .free "zip") rfl),
    c_MOST_DAYS := He.int_ok X G (c.fact 63 (f := .int "MOST_DAYS" 67) rfl),
    c_MOST_LENGTH := He.int_ok X G (c.fact 64 (f := .int "MOST_LENGTH" 8) rfl),
    c_MOST_MOST := He.int_ok X G (c.fact 65 (f := .int "MOST_MOST" 999999999999999999999999999999) rfl) }⟩
end WK

open PySem PySem.W PySem.Calls PyProof.Rows
theorem PySem.Challenge.cw_weeksums_k10_ranges_of_great_numbers_holds : PySem.Challenge.rw_weeksums_k10_ranges_of_great_numbers.Holds := by
  w_on; o_law
  refine HandSHeadRun.head_any (r := OpenLaw.row PySem.Challenge.rw_weeksums_k10_ranges_of_great_numbers) (q := view (OpenLaw.row PySem.Challenge.rw_weeksums_k10_ranges_of_great_numbers).prog [62]) (H := WK.hk) (ob := WK.hob) (M := 8000) (loose := WK.hloose) (d := HandSHeadRun.topDef (OpenLaw.row PySem.Challenge.rw_weeksums_k10_ranges_of_great_numbers).prog 62) (kwd := []) WK.hob_eq
    (by kernel_rfl) (fun s => by kernel_rfl) WK.hrun (by kernel_rfl) (by kernel_rfl) (by kernel_rfl) (by rfl) (by first | assumption | decide +kernel) (by decide +kernel) ⟨rfl, rfl, rfl, rfl, rfl, by decide +kernel⟩ ?hw ?hc
  case hw => w_witness2
  case hc =>
    refine WK.walk_G (l := PySem.Challenge.rw_weeksums_k10_ranges_of_great_numbers) (n := 63) (k := 9) (x := "script") (CX := L2.CX0) rfl (by decide) (by kernel_rfl) ⟨rfl, by decide, by decide⟩ ?F (fun _ _ _ _ z => z)
    intro w mg fa h Y G hmg0
    obtain ⟨K, KX, c⟩ := Y
    have hmg : mg ("law" : PySem.Str) = some (.ref fa) := by
      have e : (HandSHeadRun.topDef (OpenLaw.row PySem.Challenge.rw_weeksums_k10_ranges_of_great_numbers).prog 62).name = ("law" : PySem.Str) := by kernel_rfl
      rw [← e]
      exact hmg0
    obtain ⟨T⟩ := WK.htx KX G c
    have e := hmg.symm.trans T.g_law
    cases e
    have b := fun s (v : Value) => L2.FunD.bindsA (ps := ["script"]) T.F_law (fun _ _ _ _ _ _ us hl => match us, hl with | [_], _ => rfl) s [v] rfl
    exact ⟨K, T.d_law, WK.spLaw K, KX, b, fun H a ns hl hbits _ hS => WK.spLaw_mk hl hbits hS, fun base _ _ => WK.ok_law T⟩

