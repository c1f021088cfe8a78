import PyProof.Rows.All
import Wide.All
import OpenK.AllK
import Wide.FinOn
import HandS.ForMost
import HandS.Evl
import HandS.Style
import HandS.Wide
import HandS.Exc
import HandS.ExcOwn
import HandS.WordsExc
import HandS.Conv
import HandS.Sort
import HandS.SortInts
import HandS.Defaults
import HandS.IsInst
import HandS.EndBits
import HandS.HeadEnd
import HandS.Head0
import HandS.Head1
import HandS.Head2
import HandS.HeadHook1
import HandS.HeadHook2
import KE.KStateDown
import PySem.Challenge.RW_weeksums_k21_days_joined_by_two_lengths
set_option Elab.async false
set_option linter.all false
set_option maxRecDepth 100000
set_option maxHeartbeats 4000000
/-! WK, part 1: worlds (a settled part and a heap), what values stand for, evaluations, loops, promises. -/
namespace WK
open PySem PySem.Spec PyProof.Rows L2

abbrev Ex := Evl.Ex
theorem exr (H : Hp) : Ex H H := Evl.Ex.refl H

/-- a world: S what is settled for good, H all that is tracked -/
structure Wd where
  S : Hp
  H : Hp
  ex : Ex S H
/-- only growth -/
structure Gr (w w' : Wd) : Prop where
  s : Ex w.S w'.S
  h : Ex w.H w'.H
  n : ∀ p, w.H p ≠ none → w.S p = none → w'.S p = none
theorem Gr.refl (w : Wd) : Gr w w := ⟨exr _, exr _, fun _ _ h => h⟩
theorem ex_ne {H H' : Hp} {p : Addr} (e : Ex H H') (h : H p ≠ none) : H' p ≠ none := by
  cases q : H p with
  | none => exact absurd q h
  | some o => rw [e p o q]; exact fun z => nomatch z
theorem Gr.trans {a b c : Wd} (x : Gr a b) (y : Gr b c) : Gr a c :=
  ⟨x.s.trans y.s, x.h.trans y.h, fun p h n => y.n p (ex_ne x.h h) (x.n p h n)⟩
/-- an own object: it may be changed -/
structure Own (w : Wd) (p : Addr) (o : HO) : Prop where
  s : w.S p = none
  h : w.H p = some o
theorem Own.ne {w : Wd} {p : Addr} {o : HO} (x : Own w p o) : w.H p ≠ none := by rw [x.h]; exact fun z => nomatch z
theorem Own.gr {w w' : Wd} {p : Addr} {o : HO} (x : Own w p o) (g : Gr w w') : Own w' p o := ⟨g.n p x.ne x.s, g.h p o x.h⟩
theorem fresh_s {w : Wd} {p : Addr} (h : w.H p = none) : w.S p = none := Evl.fresh_back w.ex h
theorem ex_upd {S : Hp} {p : Addr} {o : HO} (h : S p = none) : Ex S (upd S p o) := Evl.Ex.new h
theorem ex_upd2 {S H : Hp} {p : Addr} {o : HO} (e : Ex S H) : Ex (upd S p o) (upd H p o) := fun a u h => by
  by_cases q : a = p
  · subst q; rw [upd_same] at h ⊢; exact h
  · rw [upd_ne q] at h ⊢; exact e a u h
/-- a new own object -/
def Wd.new (w : Wd) (p : Addr) (o : HO) (h : w.H p = none) : Wd := ⟨w.S, upd w.H p o, fun a u e => Evl.Ex.new h a u (w.ex a u e)⟩
theorem gr_new {w : Wd} {p : Addr} {o : HO} (h : w.H p = none) : Gr w (w.new p o h) := ⟨exr _, Evl.Ex.new h, fun _ _ n => n⟩
theorem own_new {w : Wd} {p : Addr} {o : HO} (h : w.H p = none) : Own (w.new p o h) p o := ⟨fresh_s (w := w) h, upd_same⟩
/-- a new settled object -/
def Wd.put (w : Wd) (p : Addr) (o : HO) : Wd := ⟨upd w.S p o, upd w.H p o, ex_upd2 w.ex⟩
theorem gr_put {w : Wd} {p : Addr} {o : HO} (h : w.H p = none) : Gr w (w.put p o) :=
  ⟨ex_upd (fresh_s h), Evl.Ex.new h, fun q hq n => by
    show upd w.S p o q = none
    rw [upd_ne (show q ≠ p from fun z => hq (z ▸ h))]; exact n⟩
theorem put_s {w : Wd} {p : Addr} {o : HO} : (w.put p o).S p = some o := upd_same
/-- an own object is settled -/
def Wd.fix (w : Wd) (p : Addr) (o : HO) (h : w.H p = some o) : Wd := ⟨upd w.S p o, w.H, fun a u e => by
  by_cases q : a = p
  · subst q; rw [upd_same] at e; rw [h]; exact e
  · rw [upd_ne q] at e; exact w.ex a u e⟩
/-- what a change of the object at p leaves -/
structure Mt (p : Addr) (w w' : Wd) : Prop where
  s : Ex w.S w'.S
  gr : ∀ w0, Gr w0 w → w0.H p = none → Gr w0 w'
  own : ∀ q o, q ≠ p → Own w q o → Own w' q o
  dom : ∀ q, w.H q ≠ none → w'.H q ≠ none
theorem mt_fix {w : Wd} {p : Addr} {o : HO} (x : Own w p o) : Mt p w (w.fix p o x.h) :=
  ⟨ex_upd x.s, fun w0 g n => ⟨g.s.trans (ex_upd x.s), g.h, fun q h m => by
      show upd w.S p o q = none
      rw [upd_ne (show q ≠ p from fun z => h (z ▸ n))]; exact g.n q h m⟩,
   fun q u ne y => ⟨by show upd w.S p o q = none; rw [upd_ne ne]; exact y.s, y.h⟩, fun _ h => h⟩
theorem fix_s {w : Wd} {p : Addr} {o : HO} (h : w.H p = some o) : (w.fix p o h).S p = some o := upd_same
def Wd.set (w : Wd) (p : Addr) (o : HO) (h : w.S p = none) : Wd := ⟨w.S, upd w.H p o, fun a u e => Evl.Ex.mut w.ex h a u e⟩
theorem mt_set {w : Wd} {p : Addr} {o : HO} (h : w.S p = none) : Mt p w (w.set p o h) :=
  ⟨exr _, fun w0 g n => ⟨g.s, Evl.Ex.mut g.h n, g.n⟩, fun q u ne y => ⟨y.s, by show upd w.H p o q = some u; rw [upd_ne ne]; exact y.h⟩,
   fun q hq => by
    show upd w.H p o q ≠ none
    by_cases z : q = p
    · subst z; rw [upd_same]; exact fun z => nomatch z
    · rw [upd_ne z]; exact hq⟩
theorem own_set {w : Wd} {p : Addr} {o : HO} (h : w.S p = none) : Own (w.set p o h) p o := ⟨h, upd_same⟩
theorem Mt.trans {p : Addr} {a b c : Wd} (x : Mt p a b) (y : Mt p b c) : Mt p a c :=
  ⟨x.s.trans y.s, fun w0 g n => y.gr w0 (x.gr w0 g n) n, fun q o ne h => y.own q o ne (x.own q o ne h), fun q h => y.dom q (x.dom q h)⟩
theorem Gr.mt {p : Addr} {a b : Wd} (g : Gr a b) (h : a.H p ≠ none) : Mt p a b :=
  ⟨g.s, fun w0 x n => x.trans g, fun q o _ x => x.gr g, fun q h => ex_ne g.h h⟩
theorem Own.apart {w : Wd} {p q : Addr} {o : HO} (x : Own w p o) (h : w.H q = none) : q ≠ p := fun z => by rw [z, x.h] at h; cases h
theorem fr_back {w w' : Wd} {p : Addr} (g : Gr w w') (h : w'.H p = none) : w.H p = none := Evl.fresh_back g.h h

/-! ### what values stand for -/
structure Rep (α : Type) where
  r : PySem.W.Frag → Hp → V → α → Prop
  m : ∀ {K H H' v a}, Ex H H' → r K H v a → r K H' v a
theorem paired_mono {α : Type} {F G : V → α → Prop} {xs : List V} {l : List α} (h : Paired F xs l) (f : ∀ v a, F v a → G v a) : Paired G xs l := Paired.mapP h f
namespace Rep
def int : Rep Int := ⟨fun _ _ v a => v = .int a, fun _ h => h⟩
def bl : Rep Bool := ⟨fun _ _ v a => v = .bl a, fun _ h => h⟩
def str : Rep Str := ⟨fun _ _ v a => v = .str a, fun _ h => h⟩
def non : Rep Unit := ⟨fun _ _ v _ => v = .non, fun _ h => h⟩
def list {α : Type} (e : Rep α) : Rep (List α) := ⟨fun K H v l => ∃ a xs, v = .ref a ∧ SqL K H a xs ∧ Paired (e.r K H) xs l,
  fun x h => by obtain ⟨a, xs, e1, h1, h2⟩ := h; exact ⟨a, xs, e1, Evl.ex_l x h1, paired_mono h2 fun _ _ q => e.m x q⟩⟩
def pair {α β : Type} (e : Rep α) (f : Rep β) : Rep (α × β) := ⟨fun K H v l => ∃ a x y, v = .ref a ∧ SqT K H a [x, y] ∧ e.r K H x l.1 ∧ f.r K H y l.2,
  fun x h => by obtain ⟨a, u, v, e1, h1, h2, h3⟩ := h; exact ⟨a, u, v, e1, Evl.ex_t x h1, e.m x h2, f.m x h3⟩⟩
def opt {α : Type} (e : Rep α) : Rep (Option α) := ⟨fun K H v l => match l with
  | none => v = .non
  | some a => e.r K H v a, fun {K H H' v l} x h => by cases l with
    | none => exact h
    | some a => exact e.m x h⟩
abbrev lints : Rep (List Int) := list int
/-- a scalar: told without the heap -/
def Flat {α : Type} (e : Rep α) : Prop := ∀ K H H' v a, e.r K H v a → e.r K H' v a
theorem flat_int : Flat int := fun _ _ _ _ _ h => h
theorem flat_bl : Flat bl := fun _ _ _ _ _ h => h
theorem flat_str : Flat str := fun _ _ _ _ _ h => h
theorem flat_non : Flat non := fun _ _ _ _ _ h => h
end Rep
theorem paired_len {α : Type} {F : V → α → Prop} {xs : List V} {l : List α} (h : Paired F xs l) : xs.length = l.length := Paired.length h
theorem paired_get {α : Type} {F : V → α → Prop} : ∀ {xs : List V} {l : List α} {i : Nat} {a : α}, Paired F xs l → l[i]? = some a → ∃ v, xs[i]? = some v ∧ F v a
  | _, _, _, _, .nil, e => by simp at e
  | _, _, 0, _, .cons r _, e => by simp at e; subst e; exact ⟨_, rfl, r⟩
  | _, _, i + 1, a, .cons _ t, e => by
    obtain ⟨u, h1, h2⟩ := paired_get (i := i) (a := a) t (by simpa using e)
    exact ⟨u, by simpa using h1, h2⟩
theorem paired_get' {α : Type} {F : V → α → Prop} : ∀ {xs : List V} {l : List α} {i : Nat} {v : V}, Paired F xs l → xs[i]? = some v → ∃ a, l[i]? = some a ∧ F v a
  | _, _, _, _, .nil, e => by simp at e
  | _, _, 0, _, .cons r _, e => by simp at e; subst e; exact ⟨_, rfl, r⟩
  | _, _, i + 1, a, .cons _ t, e => by
    obtain ⟨u, h1, h2⟩ := paired_get' (i := i) t (by simpa using e)
    exact ⟨u, by simpa using h1, h2⟩
theorem paired_ints {xs : List V} {l : List Int} (h : Paired (fun v (a : Int) => v = .int a) xs l) : xs = l.map V.int := by
  induction h with
  | nil => rfl
  | cons r _ ih => rw [List.map_cons, r, ih]
theorem ints_paired (l : List Int) : Paired (fun v (a : Int) => v = .int a) (l.map V.int) l := by
  induction l with
  | nil => exact .nil
  | cons a r ih => exact .cons rfl ih
theorem paired_bls {xs : List V} {l : List Bool} (h : Paired (fun v (a : Bool) => v = .bl a) xs l) : xs = l.map V.bl := by
  induction h with
  | nil => rfl
  | cons r _ ih => rw [List.map_cons, r, ih]
theorem paired_set {α : Type} {F : V → α → Prop} {v : V} {a : α} (r : F v a) : ∀ {xs : List V} {l : List α} (i : Nat), Paired F xs l → Paired F (xs.set i v) (l.set i a)
  | _, _, _, .nil => .nil
  | _, _, 0, .cons _ t => .cons r t
  | _, _, i + 1, .cons q t => .cons q (paired_set r i t)
theorem paired_app {α : Type} {F : V → α → Prop} : ∀ {xs ys : List V} {l m : List α}, Paired F xs l → Paired F ys m → Paired F (xs ++ ys) (l ++ m)
  | _, _, _, _, .nil, s => s
  | _, _, _, _, .cons r t, s => .cons r (paired_app t s)
theorem paired_drop {α : Type} {F : V → α → Prop} : ∀ {xs : List V} {l : List α} (n : Nat), Paired F xs l → Paired F (xs.drop n) (l.drop n)
  | _, _, 0, r => r
  | _, _, _ + 1, .nil => .nil
  | _, _, n + 1, .cons _ t => paired_drop n t
theorem paired_take {α : Type} {F : V → α → Prop} : ∀ {xs : List V} {l : List α} (n : Nat), Paired F xs l → Paired F (xs.take n) (l.take n)
  | _, _, 0, _ => .nil
  | _, _, _ + 1, .nil => .nil
  | _, _, n + 1, .cons r t => .cons r (paired_take n t)
theorem paired_rev {α : Type} {F : V → α → Prop} {xs : List V} {l : List α} (h : Paired F xs l) : Paired F xs.reverse l.reverse := by
  induction h with
  | nil => exact .nil
  | cons r t ih => rw [List.reverse_cons, List.reverse_cons]; exact paired_app ih (.cons r .nil)
theorem paired_rep {α : Type} {F : V → α → Prop} {v : V} {a : α} (r : F v a) : ∀ n, Paired F (List.replicate n v) (List.replicate n a)
  | 0 => .nil
  | n + 1 => .cons r (paired_rep r n)

/-- an own list -/
def OwnL {α : Type} (K : PySem.W.Frag) (w : Wd) (p : Addr) (e : Rep α) (l : List α) : Prop := ∃ xs, Own w p (.lst xs) ∧ Paired (e.r K w.S) xs l
theorem OwnL.gr {α : Type} {K : PySem.W.Frag} {w w' : Wd} {p : Addr} {e : Rep α} {l : List α} (h : OwnL K w p e l) (g : Gr w w') : OwnL K w' p e l := by
  obtain ⟨xs, a, b⟩ := h
  exact ⟨xs, a.gr g, paired_mono b fun _ _ q => e.m g.s q⟩
theorem OwnL.mt {α : Type} {K : PySem.W.Frag} {w w' : Wd} {p q : Addr} {e : Rep α} {l : List α} (h : OwnL K w q e l) (g : Mt p w w') (ne : q ≠ p) : OwnL K w' q e l := by
  obtain ⟨xs, a, b⟩ := h
  exact ⟨xs, g.own _ _ ne a, paired_mono b fun _ _ q => e.m g.s q⟩
theorem OwnL.ne {α : Type} {K : PySem.W.Frag} {w : Wd} {p : Addr} {e : Rep α} {l : List α} (h : OwnL K w p e l) : w.H p ≠ none := by obtain ⟨xs, a, b⟩ := h; exact a.ne
theorem OwnL.apart {α : Type} {K : PySem.W.Frag} {w : Wd} {p q : Addr} {e : Rep α} {l : List α} (h : OwnL K w p e l) (z : w.H q = none) : q ≠ p := fun x => h.ne (x ▸ z)
/-- settled: a list as a value -/
theorem OwnL.fix {α : Type} {K : PySem.W.Frag} {w : Wd} {p : Addr} {e : Rep α} {l : List α} (h : OwnL K w p e l) : ∃ w', w'.H = w.H ∧ Mt p w w' ∧ (Rep.list e).r K w'.S (.ref p) l := by
  obtain ⟨xs, a, b⟩ := h
  exact ⟨w.fix p _ a.h, rfl, mt_fix a, p, xs, rfl, SqL.of (fix_s a.h), paired_mono b fun _ _ q => e.m (mt_fix a).s q⟩

/-! ### evaluations -/
section
variable (K : PySem.W.Frag)
def EvD {α : Type} (te : TE) (σ : L2.St) (w : Wd) (r : Rep α) (a : α) : Prop := ∀ w1, Gr w w1 → ∀ Q : VK, (∀ v w2, Gr w1 w2 → r.r K w2.S v a → Q v w2.H) → te σ w1.H Q
def EvN {α : Type} (te : TE) (σ : L2.St) (w : Wd) (e : Rep α) (l : List α) : Prop := ∀ w1, Gr w w1 → ∀ Q : VK, (∀ p w2, Gr w1 w2 → w1.H p = none → OwnL K w2 p e l → Q (.ref p) w2.H) → te σ w1.H Q
def EvT (_K : PySem.W.Frag) (t : TT) (σ : L2.St) (w : Wd) (b : Bool) : Prop := ∀ w1, Gr w w1 → ∀ Q : Bool → Hp → Prop, (∀ w2, Gr w1 w2 → Q b w2.H) → t σ w1.H Q
def EvO (_K : PySem.W.Frag) (t : TO) (σ : L2.St) (w : Wd) (o : Option Int) : Prop := ∀ w1, Gr w w1 → ∀ Q : Option Int → Hp → Prop, (∀ w2, Gr w1 w2 → Q o w2.H) → t σ w1.H Q
end
section
variable {K : PySem.W.Frag} {σ : L2.St} {w w' : Wd} {ta tb tc te : TE} {t u : TT} {α β γ δ : Type} {r : Rep α} {rb : Rep β} {a : α}
theorem EvD.gr (h : EvD K te σ w r a) (g : Gr w w') : EvD K te σ w' r a := fun w1 x => h w1 (g.trans x)
theorem EvN.gr {l : List α} (h : EvN K te σ w r l) (g : Gr w w') : EvN K te σ w' r l := fun w1 x => h w1 (g.trans x)
theorem EvT.gr {b : Bool} (h : EvT K t σ w b) (g : Gr w w') : EvT K t σ w' b := fun w1 x => h w1 (g.trans x)
theorem EvD.run (h : EvD K te σ w r a) {Q : VK} (k : ∀ v w2, Gr w w2 → r.r K w2.S v a → Q v w2.H) : te σ w.H Q := h w (Gr.refl w) Q k
theorem EvN.run {l : List α} (h : EvN K te σ w r l) {Q : VK} (k : ∀ p w2, Gr w w2 → w.H p = none → OwnL K w2 p r l → Q (.ref p) w2.H) : te σ w.H Q := h w (Gr.refl w) Q k
theorem EvT.run {b : Bool} (h : EvT K t σ w b) {Q : Bool → Hp → Prop} (k : ∀ w2, Gr w w2 → Q b w2.H) : t σ w.H Q := h w (Gr.refl w) Q k
theorem EvN.d {l : List α} (h : EvN K te σ w r l) : EvD K te σ w (Rep.list r) l := fun w1 x Q q => h w1 x _ fun p w2 g n o => by
  obtain ⟨w3, e, m, rr⟩ := o.fix
  rw [← e]
  exact q _ w3 (m.gr w1 g n) rr
theorem EvD.eq {b : α} (h : EvD K te σ w r a) (e : a = b) : EvD K te σ w r b := e ▸ h
theorem EvN.eq {l l' : List α} (h : EvN K te σ w r l) (e : l = l') : EvN K te σ w r l' := e ▸ h
theorem EvT.eq {b c : Bool} (h : EvT K t σ w b) (e : b = c) : EvT K t σ w c := e ▸ h
theorem ev_var {i : Nat} {v : V} (h : σ[i]? = some (some v)) (hr : r.r K w.S v a) : EvD K (tVar i) σ w r a := fun w1 g Q q => ⟨v, h, q v w1 (Gr.refl _) (r.m g.s hr)⟩
theorem ev_int {i : Int} : EvD K (tC (.int i)) σ w Rep.int i := fun w1 _ Q q => q _ w1 (Gr.refl _) rfl
theorem ev_bl {b : Bool} : EvD K (tC (.bl b)) σ w Rep.bl b := fun w1 _ Q q => q _ w1 (Gr.refl _) rfl
theorem ev_str {b : Str} : EvD K (tC (.str b)) σ w Rep.str b := fun w1 _ Q q => q _ w1 (Gr.refl _) rfl
theorem ev_non : EvD K (tC .non) σ w Rep.non () := fun w1 _ Q q => q _ w1 (Gr.refl _) rfl
theorem ev_none : EvD K (tC .non) σ w (Rep.opt r) none := fun w1 _ Q q => q _ w1 (Gr.refl _) rfl
theorem ev_some (h : EvD K te σ w r a) : EvD K te σ w (Rep.opt r) (some a) := fun w1 g Q q => h w1 g Q fun v w2 g2 x => q v w2 g2 x
/-- two ints -/
theorem ev_I0 {f : Int → Int → V} {x y : Int} {rr : Rep γ} {z : γ} (ha : EvD K ta σ w Rep.int x) (hb : EvD K tb σ w Rep.int y) (hz : ∀ H, rr.r K H (f x y) z) : EvD K (tOp (rI0 f) ta tb) σ w rr z := fun w1 g Q q =>
  ha w1 g _ fun v w2 g2 e => hb w2 (g.trans g2) _ fun v' w3 g3 e' => ⟨x, y, e, e', q _ w3 (g2.trans g3) (hz _)⟩
theorem ev_add {x y : Int} (ha : EvD K ta σ w Rep.int x) (hb : EvD K tb σ w Rep.int y) : EvD K (tOp (rI0 fun i j => .int (i + j)) ta tb) σ w Rep.int (x + y) := ev_I0 ha hb fun _ => rfl
theorem ev_sub {x y : Int} (ha : EvD K ta σ w Rep.int x) (hb : EvD K tb σ w Rep.int y) : EvD K (tOp (rI0 fun i j => .int (i - j)) ta tb) σ w Rep.int (x - y) := ev_I0 ha hb fun _ => rfl
theorem ev_lt {x y : Int} (ha : EvD K ta σ w Rep.int x) (hb : EvD K tb σ w Rep.int y) : EvD K (tOp (rI0 fun i j => .bl (decide (i < j))) ta tb) σ w Rep.bl (decide (x < y)) := ev_I0 ha hb fun _ => rfl
theorem ev_le {x y : Int} (ha : EvD K ta σ w Rep.int x) (hb : EvD K tb σ w Rep.int y) : EvD K (tOp (rI0 fun i j => .bl (decide (i ≤ j))) ta tb) σ w Rep.bl (decide (x ≤ y)) := ev_I0 ha hb fun _ => rfl
theorem ev_I {C : Int → Int → Prop} {f : Int → Int → V} {x y : Int} {rr : Rep γ} {z : γ} (ha : EvD K ta σ w Rep.int x) (hb : EvD K tb σ w Rep.int y) (hc : C x y) (hz : ∀ H, rr.r K H (f x y) z) : EvD K (tOp (rI C f) ta tb) σ w rr z := fun w1 g Q q =>
  ha w1 g _ fun v w2 g2 e => hb w2 (g.trans g2) _ fun v' w3 g3 e' => ⟨x, y, e, e', hc, q _ w3 (g2.trans g3) (hz _)⟩
theorem ev_Ii {C : Int → Int → Prop} {f : Int → Int → Int} {x y : Int} (ha : EvD K ta σ w Rep.int x) (hb : EvD K tb σ w Rep.int y) (hc : C x y) : EvD K (tOp (rI C fun i j => .int (f i j)) ta tb) σ w Rep.int (f x y) := ev_I ha hb hc fun _ => rfl
theorem ev_neg {x : Int} (ha : EvD K ta σ w Rep.int x) : EvD K (tUn (rU fun i => .int (-i)) ta) σ w Rep.int (-x) := fun w1 g Q q => ha w1 g _ fun v w2 g2 e => ⟨x, e, q _ w2 g2 rfl⟩
/-- == of ints, texts, bools, None -/
theorem ev_eqI {x y : Int} (ha : EvD K ta σ w Rep.int x) (hb : EvD K tb σ w Rep.int y) : EvD K (tOp rEq ta tb) σ w Rep.bl (decide (x = y)) := fun w1 g Q q =>
  ha w1 g _ fun v w2 g2 e => hb w2 (g.trans g2) _ fun v' w3 g3 e' => by
    cases e; cases e'
    refine ⟨rfl, ?_⟩
    have z : decide (V.int x = V.int y) = decide (x = y) := by
      by_cases h : x = y
      · subst h; simp
      · rw [decide_eq_false h, decide_eq_false (fun z => h (V.int.inj z))]
    rw [z]
    exact q _ w3 (g2.trans g3) rfl
theorem ev_neI {x y : Int} (ha : EvD K ta σ w Rep.int x) (hb : EvD K tb σ w Rep.int y) : EvD K (tOp rNe ta tb) σ w Rep.bl (!decide (x = y)) := fun w1 g Q q =>
  ha w1 g _ fun v w2 g2 e => hb w2 (g.trans g2) _ fun v' w3 g3 e' => by
    cases e; cases e'
    refine ⟨rfl, ?_⟩
    have z : decide (V.int x = V.int y) = decide (x = y) := by
      by_cases h : x = y
      · subst h; simp
      · rw [decide_eq_false h, decide_eq_false (fun z => h (V.int.inj z))]
    rw [z]
    exact q _ w3 (g2.trans g3) rfl
theorem ev_eqS {x y : Str} (ha : EvD K ta σ w Rep.str x) (hb : EvD K tb σ w Rep.str y) : EvD K (tOp rEq ta tb) σ w Rep.bl (decide (x = y)) := fun w1 g Q q =>
  ha w1 g _ fun v w2 g2 e => hb w2 (g.trans g2) _ fun v' w3 g3 e' => by
    cases e; cases e'
    refine ⟨rfl, ?_⟩
    have z : decide (V.str x = V.str y) = decide (x = y) := by
      by_cases h : x = y
      · subst h; simp
      · rw [decide_eq_false h, decide_eq_false (fun z => h (V.str.inj z))]
    rw [z]
    exact q _ w3 (g2.trans g3) rfl
theorem ev_neS {x y : Str} (ha : EvD K ta σ w Rep.str x) (hb : EvD K tb σ w Rep.str y) : EvD K (tOp rNe ta tb) σ w Rep.bl (!decide (x = y)) := fun w1 g Q q =>
  ha w1 g _ fun v w2 g2 e => hb w2 (g.trans g2) _ fun v' w3 g3 e' => by
    cases e; cases e'
    refine ⟨rfl, ?_⟩
    have z : decide (V.str x = V.str y) = decide (x = y) := by
      by_cases h : x = y
      · subst h; simp
      · rw [decide_eq_false h, decide_eq_false (fun z => h (V.str.inj z))]
    rw [z]
    exact q _ w3 (g2.trans g3) rfl
/-- x is None, x is not None, of what may be None -/
def Rep.NN (r : Rep α) : Prop := ∀ K H v a, r.r K H v a → v ≠ .non
theorem ev_isN {o : Option α} (hn : r.NN) (ha : EvD K ta σ w (Rep.opt r) o) : EvD K (tOp (fun x y H Q => y = .non ∧ Q (.bl (decide (x = .non))) H) ta (tC .non)) σ w Rep.bl o.isNone := fun w1 g Q q =>
  ha w1 g _ fun v w2 g2 e => ⟨rfl, by
    cases o with
    | none => cases (show v = .non from e); exact q _ w2 g2 rfl
    | some a => rw [decide_eq_false (hn _ _ _ _ e)]; exact q _ w2 g2 rfl⟩
theorem ev_notN {o : Option α} (hn : r.NN) (ha : EvD K ta σ w (Rep.opt r) o) : EvD K (tOp (fun x y H Q => y = .non ∧ Q (.bl (!decide (x = .non))) H) ta (tC .non)) σ w Rep.bl o.isSome := fun w1 g Q q =>
  ha w1 g _ fun v w2 g2 e => ⟨rfl, by
    cases o with
    | none => cases (show v = .non from e); exact q _ w2 g2 rfl
    | some a => rw [decide_eq_false (hn _ _ _ _ e)]; exact q _ w2 g2 rfl⟩
theorem nn_list {r : Rep α} : (Rep.list r).NN := fun _ _ _ _ h e => by obtain ⟨_, _, z, _⟩ := h; rw [z] at e; cases e
theorem nn_pair {r : Rep α} {s : Rep β} : (Rep.pair r s).NN := fun _ _ _ _ h e => by obtain ⟨_, _, _, z, _⟩ := h; rw [z] at e; cases e
theorem nn_int : Rep.int.NN := fun _ _ _ _ h e => by rw [h] at e; cases e
theorem nn_bl : Rep.bl.NN := fun _ _ _ _ h e => by rw [h] at e; cases e
theorem nn_str : Rep.str.NN := fun _ _ _ _ h e => by rw [h] at e; cases e
/-! tests -/
theorem et_test {b : Bool} (h : EvD K te σ w Rep.bl b) : EvT K (tTest te) σ w b := fun w1 g Q q => h w1 g _ fun v w2 g2 e => ⟨b, e, q w2 g2⟩
theorem et_B {b : Bool} (h : EvD K te σ w Rep.bl b) : EvT K (tB te) σ w b := fun w1 g Q q => h w1 g _ fun v w2 g2 e => ⟨b, e, q w2 g2⟩
theorem et_not {b : Bool} (h : EvT K t σ w b) : EvT K (tNot t) σ w (!b) := fun w1 g Q q => h w1 g _ fun w2 g2 => q w2 g2
theorem et_and {a b : Bool} (h1 : EvT K t σ w a) (h2 : a = true → EvT K u σ w b) : EvT K (tAnd t u) σ w (a && b) := fun w1 g Q q => h1 w1 g _ fun w2 g2 => by
  cases a with
  | true => exact h2 rfl w2 (g.trans g2) Q fun w3 g3 => q w3 (g2.trans g3)
  | false => exact q w2 g2
theorem et_or {a b : Bool} (h1 : EvT K t σ w a) (h2 : a = false → EvT K u σ w b) : EvT K (tOr t u) σ w (a || b) := fun w1 g Q q => h1 w1 g _ fun w2 g2 => by
  cases a with
  | true => exact q w2 g2
  | false => exact h2 rfl w2 (g.trans g2) Q fun w3 g3 => q w3 (g2.trans g3)
theorem et_yes : EvT K tYes σ w true := fun w1 _ Q q => q w1 (Gr.refl _)
theorem ev_andV {a b : Bool} (h1 : EvD K ta σ w Rep.bl a) (h2 : a = true → EvD K tb σ w Rep.bl b) : EvD K (tAndV ta tb) σ w Rep.bl (a && b) := fun w1 g Q q => h1 w1 g _ fun v w2 g2 e => ⟨a, e, by
  cases a with
  | true => exact h2 rfl w2 (g.trans g2) Q fun v w3 g3 x => q v w3 (g2.trans g3) x
  | false => exact q _ w2 g2 rfl⟩
theorem ev_orV {a b : Bool} (h1 : EvD K ta σ w Rep.bl a) (h2 : a = false → EvD K tb σ w Rep.bl b) : EvD K (tOrV ta tb) σ w Rep.bl (a || b) := fun w1 g Q q => h1 w1 g _ fun v w2 g2 e => ⟨a, e, by
  cases a with
  | true => exact q _ w2 g2 rfl
  | false => exact h2 rfl w2 (g.trans g2) Q fun v w3 g3 x => q v w3 (g2.trans g3) x⟩
theorem ev_notV {a : Bool} (h1 : EvD K ta σ w Rep.bl a) : EvD K (tNotV ta) σ w Rep.bl (!a) := fun w1 g Q q => h1 w1 g _ fun v w2 g2 e => ⟨a, e, q _ w2 g2 rfl⟩
theorem ev_if {b : Bool} {x : α} (h : EvT K t σ w b) (h1 : b = true → EvD K ta σ w r x) (h2 : b = false → EvD K tb σ w r x) : EvD K (tIf t ta tb) σ w r x := fun w1 g Q q => h w1 g _ fun w2 g2 => by
  cases b with
  | true => exact h1 rfl w2 (g.trans g2) Q fun v w3 g3 x => q v w3 (g2.trans g3) x
  | false => exact h2 rfl w2 (g.trans g2) Q fun v w3 g3 x => q v w3 (g2.trans g3) x
theorem ev_ifV {b : Bool} {x y : α} (h : EvT K t σ w b) (h1 : b = true → EvD K ta σ w r x) (h2 : b = false → EvD K tb σ w r y) : EvD K (tIf t ta tb) σ w r (if b = true then x else y) :=
  ev_if h (fun e => (h1 e).eq (by rw [e, if_pos rfl])) (fun e => (h2 e).eq (by rw [e, if_neg (by decide)]))
/-- a chain of two comparisons, as a value, as a test -/
theorem ev_chain {rr rr' : R2} {x y z : Int} {p q : Bool} (ha : EvD K ta σ w Rep.int x) (hb : EvD K tb σ w Rep.int y) (hc : EvD K tc σ w Rep.int z)
    (h1 : ∀ H Q, Q (.bl p) H → rr (.int x) (.int y) H Q) (h2 : ∀ H Q, Q (.bl q) H → rr' (.int y) (.int z) H Q) : EvD K (tChain rr rr' ta tb tc) σ w Rep.bl (p && q) := fun w1 g Q k =>
  ha w1 g _ fun v w2 g2 e => hb w2 (g.trans g2) _ fun v' w3 g3 e' => by
    cases e; cases e'
    refine h1 _ _ ⟨p, rfl, ?_⟩
    cases p with
    | true =>
      exact hc w3 ((g.trans g2).trans g3) _ fun v2 w4 g4 e2 => by
        cases e2
        exact h2 _ _ (k _ w4 ((g2.trans g3).trans g4) rfl)
    | false => exact k _ w3 (g2.trans g3) rfl
end
end WK

/-! WK, part 2: lists, tuples, loops, comprehensions. -/
namespace WK
open PySem PySem.Spec PyProof.Rows L2

theorem sz5 {n : Nat} (h : n ≤ 100000) : n ≤ sizeLine := Nat.le_trans h (by decide)
theorem sz5' {n : Nat} (h : n < 100000) : n < sizeLine := Nat.lt_of_lt_of_le h (by decide)
section
variable {K : PySem.W.Frag} {σ : L2.St} {w w' : Wd} {ta tb tc te tl : TE} {t u : TT} {α β γ δ : Type} {r : Rep α} {rb : Rep β} {rc : Rep γ} {a : α} {e : Rep α} {l : List α}

/-- an own list read as if it were settled, for a scalar -/
theorem peek_run {p : Addr} {xs : List V} {w w1 : Wd} (o : Own w p (.lst xs)) (g : Gr w w1) : Gr (w.fix p _ o.h) (w1.fix p _ (o.gr g).h) :=
  ⟨ex_upd2 g.s, g.h, fun q hq hn => by
    show upd w1.S p _ q = none
    by_cases z : q = p
    · subst z; have : upd w.S q (.lst xs) q = none := hn; rw [upd_same] at this; cases this
    · rw [upd_ne z]; have : upd w.S p (.lst xs) q = none := hn; rw [upd_ne z] at this; exact g.n q hq this⟩
def Wd.off (w : Wd) (p : Addr) : Wd := ⟨fun q => if q = p then none else w.S q, w.H, fun a u h => by
  have h : (if a = p then none else w.S a) = some u := h
  by_cases z : a = p
  · rw [if_pos z] at h; cases h
  · rw [if_neg z] at h; exact w.ex a u h⟩
theorem off_gr {p : Addr} {xs : List V} {w1 w2 : Wd} (o : Own w1 p (.lst xs)) (g : Gr (w1.fix p _ o.h) w2) : Gr w1 (w2.off p) :=
  ⟨fun a u h => by
    have z : a ≠ p := fun q => by rw [q, o.s] at h; cases h
    show (if a = p then none else w2.S a) = some u
    rw [if_neg z]
    exact g.s a u (by show upd w1.S p _ a = some u; rw [upd_ne z]; exact h), g.h, fun q hq hn => by
    show (if q = p then none else w2.S q) = none
    by_cases z : q = p
    · rw [if_pos z]
    · rw [if_neg z]; exact g.n q hq (by show upd w1.S p _ q = none; rw [upd_ne z]; exact hn)⟩
theorem ev_peek {p : Addr} (o : OwnL K w p e l) (hf : rb.Flat) {b : β} (h : ∀ w', Mt p w w' → (Rep.list e).r K w'.S (.ref p) l → EvD K te σ w' rb b) : EvD K te σ w rb b := fun w1 g Q q => by
  obtain ⟨xs, ow, hp⟩ := o
  have h1 := h (w.fix p _ ow.h) (mt_fix ow) ⟨p, xs, rfl, SqL.of (fix_s ow.h), paired_mono hp fun _ _ x => e.m (mt_fix ow).s x⟩
  exact h1 (w1.fix p _ (ow.gr g).h) (peek_run ow g) Q fun v w2 g2 x => q v (w2.off p) (off_gr (ow.gr g) g2) (hf _ _ _ _ _ x)
theorem et_peek {p : Addr} (o : OwnL K w p e l) {b : Bool} (h : ∀ w', Mt p w w' → (Rep.list e).r K w'.S (.ref p) l → EvT K t σ w' b) : EvT K t σ w b := fun w1 g Q q => by
  obtain ⟨xs, ow, hp⟩ := o
  have h1 := h (w.fix p _ ow.h) (mt_fix ow) ⟨p, xs, rfl, SqL.of (fix_s ow.h), paired_mono hp fun _ _ x => e.m (mt_fix ow).s x⟩
  exact h1 (w1.fix p _ (ow.gr g).h) (peek_run ow g) Q fun w2 g2 => q (w2.off p) (off_gr (ow.gr g) g2)

/-! ### displays -/
/-- arguments: a list of values, each standing for what it stands for -/
def EvA (K : PySem.W.Frag) (ta : TA) (σ : L2.St) (w : Wd) (P : Hp → List V → Prop) : Prop := ∀ w1, Gr w w1 → ∀ Q : List V → Hp → Prop, (∀ vs w2, Gr w1 w2 → P w2.S vs → Q vs w2.H) → ta σ w1.H Q
theorem ea_nil : EvA K tNil σ w (fun _ vs => vs = []) := fun w1 _ Q q => q _ w1 (Gr.refl _) rfl
theorem ea_cons {tr : TA} {P : Hp → List V → Prop} (h : EvD K te σ w r a) (hr : EvA K tr σ w P) : EvA K (tCons te tr) σ w (fun S vs => ∃ v r', vs = v :: r' ∧ r.r K S v a ∧ P S r') := fun w1 g Q q =>
  h w1 g _ fun v w2 g2 x => hr w2 (g.trans g2) _ fun r' w3 g3 y => q _ w3 (g2.trans g3) ⟨v, r', rfl, r.m g3.s x, y⟩
/-- items of one kind -/
def EvL (K : PySem.W.Frag) (ta : TA) (σ : L2.St) (w : Wd) (e : Rep α) (l : List α) : Prop := EvA K ta σ w (fun S vs => Paired (e.r K S) vs l)
theorem el_nil : EvL K tNil σ w e [] := fun w1 _ Q q => q _ w1 (Gr.refl _) .nil
theorem el_cons {tr : TA} (h : EvD K te σ w e a) (hr : EvL K tr σ w e l) : EvL K (tCons te tr) σ w e (a :: l) := fun w1 g Q q =>
  h w1 g _ fun v w2 g2 x => hr w2 (g.trans g2) _ fun r' w3 g3 y => q _ w3 (g2.trans g3) (.cons (e.m g3.s x) y)
theorem en_lst {tr : TA} (h : EvL K tr σ w e l) (hz : l.length ≤ 100000 := by first | decide | simp) : EvN K (tLst tr) σ w e l := fun w1 g Q q =>
  h w1 g _ fun vs w2 g2 x => ⟨by rw [paired_len x]; exact sz5 hz, fun p hp => q p (w2.new p _ hp) (g2.trans (gr_new hp)) (fr_back g2 hp) ⟨vs, own_new hp, paired_mono x fun _ _ z => z⟩⟩
theorem ev_pair {b : β} (h : EvD K ta σ w r a) (h2 : EvD K tb σ w rb b) : EvD K (tTup (tCons ta (tCons tb tNil))) σ w (Rep.pair r rb) (a, b) := fun w1 g Q q =>
  h w1 g _ fun v w2 g2 x => h2 w2 (g.trans g2) _ fun v' w3 g3 y => ⟨by show 2 ≤ sizeLine; decide, fun p hp =>
    q _ (w3.put p _) ((g2.trans g3).trans (gr_put hp)) ⟨p, v, v', rfl, SqT.of put_s, r.m (g3.s.trans (gr_put hp).s) x, rb.m (gr_put hp).s y⟩⟩
/-! ### reading -/
theorem ev_len (h : EvD K ta σ w (Rep.list e) l) : EvD K (tCB (Evl.rLenS K) (tCons ta tNil)) σ w Rep.int (l.length : Int) := fun w1 g Q q =>
  h w1 g _ fun v w2 g2 x => by
    obtain ⟨a, xs, rfl, hs, hp⟩ := x
    refine ⟨a, xs, rfl, .inl (Evl.ex_l w2.ex hs), q _ w2 g2 ?_⟩
    rw [paired_len hp]; exact rfl
theorem ev_ix {i : Int} {x : α} (h : EvD K ta σ w (Rep.list e) l) (hi : EvD K tb σ w Rep.int i) (hx : atI l i = some x) : EvD K (tOp (rIxL K) ta tb) σ w e x := fun w1 g Q q =>
  h w1 g _ fun v w2 g2 z => hi w2 (g.trans g2) _ fun v' w3 g3 z' => by
    cases z'
    obtain ⟨a, xs, rfl, hs, hp⟩ := z
    unfold atI at hx
    obtain ⟨j, hj, hx⟩ := Option.bind_eq_some_iff.mp hx
    obtain ⟨v, hv, hr⟩ := paired_get hp hx
    refine ⟨a, xs, i, v, rfl, rfl, Evl.ex_l (g3.s.trans w3.ex) hs, ?_, q v w3 (g2.trans g3) (e.m g3.s hr)⟩
    unfold atI
    rw [paired_len hp, hj]
    exact hv
theorem atI_of {x : α} {j : Nat} (h : l[j]? = some x) : atI l (j : Int) = some x := by
  have hj := (List.getElem?_eq_some_iff.mp h).1
  unfold atI
  rw [Evl.ixN_nat hj]
  exact h
theorem atI_int {x : α} {i : Int} (h0 : 0 ≤ i) (h : l[i.toNat]? = some x) : atI l i = some x := by
  have := atI_of h
  rwa [Int.toNat_of_nonneg h0] at this
theorem atI_neg {x : α} {j : Nat} (hj : 0 < j) (h : l[l.length - j]? = some x) (hl : j ≤ l.length) : atI l (-(j : Int)) = some x := by
  unfold atI ixN
  rw [if_neg (by omega), if_pos (by omega)]
  have : (-(j : Int) + (l.length : Int)).toNat = l.length - j := by omega
  rw [this]
  exact h
theorem ev_fst {x : α × β} (h : EvD K ta σ w (Rep.pair r rb) x) (hi : EvD K tb σ w Rep.int 0) : EvD K (tOp (rIxT K) ta tb) σ w r x.1 := fun w1 g Q q =>
  h w1 g _ fun v w2 g2 z => hi w2 (g.trans g2) _ fun v' w3 g3 z' => by
    cases z'
    obtain ⟨a, u, v, rfl, hs, h1, h2⟩ := z
    exact ⟨a, [u, v], 0, u, rfl, rfl, Evl.ex_t (g3.s.trans w3.ex) hs, rfl, q u w3 (g2.trans g3) (r.m g3.s h1)⟩
theorem ev_snd {x : α × β} (h : EvD K ta σ w (Rep.pair r rb) x) (hi : EvD K tb σ w Rep.int 1) : EvD K (tOp (rIxT K) ta tb) σ w rb x.2 := fun w1 g Q q =>
  h w1 g _ fun v w2 g2 z => hi w2 (g.trans g2) _ fun v' w3 g3 z' => by
    cases z'
    obtain ⟨a, u, v, rfl, hs, h1, h2⟩ := z
    exact ⟨a, [u, v], 1, v, rfl, rfl, Evl.ex_t (g3.s.trans w3.ex) hs, rfl, q v w3 (g2.trans g3) (rb.m g3.s h2)⟩
/-- slices -/
theorem eo_none : EvO K tNoPart σ w none := fun w1 _ Q q => q w1 (Gr.refl _)
theorem eo_some {i : Int} (h : EvD K te σ w Rep.int i) : EvO K (tPart te) σ w (some i) := fun w1 g Q q => h w1 g _ fun v w2 g2 x => ⟨i, x, q w2 g2⟩
def cut (l : List α) (lo hi : Option Int) : List α := (l.drop (HT.sIx l.length 0 lo)).take (HT.sIx l.length l.length hi - HT.sIx l.length 0 lo)
theorem paired_cut {F : V → α → Prop} {xs : List V} (h : Paired F xs l) (lo hi : Option Int) : Paired F (cutV xs lo hi) (cut l lo hi) := by
  unfold cutV cut
  rw [paired_len h]
  exact paired_take _ (paired_drop _ h)
theorem en_sl {tlo thi : TO} {lo hi : Option Int} (h : EvD K te σ w (Rep.list e) l) (h1 : EvO K tlo σ w lo) (h2 : EvO K thi σ w hi) : EvN K (tSl (rSlL K) te tlo thi) σ w e (cut l lo hi) := fun w1 g Q q =>
  h w1 g _ fun v w2 g2 x => h1 w2 (g.trans g2) _ fun w3 g3 => h2 w3 ((g.trans g2).trans g3) _ fun w4 g4 => by
    obtain ⟨a, xs, rfl, hs, hp⟩ := x
    refine ⟨a, xs, rfl, Evl.ex_l ((g3.s.trans g4.s).trans w4.ex) hs, fun p np => ?_⟩
    exact q p (w4.new p _ np) (((g2.trans g3).trans g4).trans (gr_new np)) (fr_back ((g2.trans g3).trans g4) np) ⟨_, own_new np, paired_cut (paired_mono hp fun _ _ z => e.m (g3.s.trans g4.s) z) lo hi⟩
theorem cut_to {n : Nat} (h : n ≤ l.length) : cut l none (some (n : Int)) = l.take n := by
  unfold cut
  rw [HT.sIx_none, HT.sIx_nat, Nat.min_eq_left h]; simp
theorem cut_from {n : Nat} : cut l (some (n : Int)) none = l.drop n := by
  unfold cut
  rw [HT.sIx_none, HT.sIx_nat]
  by_cases h : n ≤ l.length
  · rw [Nat.min_eq_left h]; exact List.take_of_length_le (by simp)
  · rw [Nat.min_eq_right (by omega), List.drop_length, List.drop_of_length_le (show l.length ≤ n by omega), List.take_nil]
theorem cut_ft {n m : Nat} (h : m ≤ l.length) : cut l (some (n : Int)) (some (m : Int)) = (l.drop n).take (m - n) := by
  unfold cut
  rw [HT.sIx_nat, HT.sIx_nat, Nat.min_eq_left h]
  by_cases hn : n ≤ l.length
  · rw [Nat.min_eq_left hn]
  · rw [Nat.min_eq_right (by omega), List.drop_of_length_le (Nat.le_refl _), List.drop_of_length_le (by omega)]; simp
theorem cut_all : cut l none none = l := by unfold cut; rw [HT.sIx_none, HT.sIx_none]; simp
theorem en_rev (h : EvD K te σ w (Rep.list e) l) : EvN K (tRevL K te) σ w e l.reverse := fun w1 g Q q =>
  h w1 g _ fun v w2 g2 x => by
    obtain ⟨a, xs, rfl, hs, hp⟩ := x
    exact ⟨a, xs, rfl, Evl.ex_l w2.ex hs, fun p np => q p (w2.new p _ np) (g2.trans (gr_new np)) (fr_back g2 np) ⟨_, own_new np, paired_rev hp⟩⟩
/-- list(xs) -/
theorem en_list (h : EvD K te σ w (Rep.list e) l) : EvN K (tCB (Evl.rListS K) (tCons te tNil)) σ w e l := fun w1 g Q q =>
  h w1 g _ fun v w2 g2 x => by
    obtain ⟨a, xs, rfl, hs, hp⟩ := x
    exact ⟨a, xs, rfl, .inl (Evl.ex_l w2.ex hs), fun p np => q p (w2.new p _ np) (g2.trans (gr_new np)) (fr_back g2 np) ⟨_, own_new np, hp⟩⟩
/-- xs + ys -/
theorem en_cat {m : List α} (h : EvN K ta σ w e l) (h2 : EvN K tb σ w e m) (hz : l.length + m.length ≤ 100000) : EvN K (tOp rCat ta tb) σ w e (l ++ m) := fun w1 g Q q =>
  h w1 g _ fun p w2 g2 n2 o2 => h2 w2 (g.trans g2) _ fun p' w3 g3 n3 o3 => by
    obtain ⟨xs, ox, hx⟩ := o2.gr g3
    obtain ⟨ys, oy, hy⟩ := o3
    refine ⟨p, p', xs, ys, rfl, rfl, ox.h, oy.h, by rw [paired_len hx, paired_len hy]; exact sz5 hz, fun d nd => ?_⟩
    exact q d (w3.new d _ nd) ((g2.trans g3).trans (gr_new nd)) (fr_back (g2.trans g3) nd) ⟨_, own_new nd, paired_app hx hy⟩
/-- [x] * n -/
theorem en_rep {k : Int} (h : EvN K ta σ w e l) (h2 : EvD K tb σ w Rep.int k) (h0 : 0 ≤ k ∧ l.length * k.toNat ≤ 100000 ∧ k ≤ 100000) : EvN K (tOp rRep ta tb) σ w e ((List.replicate k.toNat l).flatten) := fun w1 g Q q =>
  h w1 g _ fun p w2 g2 n2 o2 => h2 w2 (g.trans g2) _ fun v w3 g3 hk => by
    cases hk
    obtain ⟨xs, ox, hx⟩ := o2.gr g3
    refine ⟨p, k, xs, rfl, rfl, ox.h, by omega, by omega, by rw [paired_len hx]; exact sz5 h0.2.1, fun d nd => ?_⟩
    refine q d (w3.new d _ nd) ((g2.trans g3).trans (gr_new nd)) (fr_back (g2.trans g3) nd) ⟨_, own_new nd, ?_⟩
    have : ∀ n, Paired (e.r K w3.S) (List.flatten (List.replicate n xs)) (List.flatten (List.replicate n l)) := by
      intro n
      induction n with
      | zero => exact .nil
      | succ n ih => rw [List.replicate_succ, List.replicate_succ, List.flatten_cons, List.flatten_cons]; exact paired_app hx ih
    exact this _
/-! ### built-in functions of lists -/
theorem lints_at {v : V} {l : List Int} {S : Hp} (h : (Rep.list Rep.int).r K S v l) : ∃ a, v = .ref a ∧ SqL K S a (l.map V.int) := by
  obtain ⟨a, xs, rfl, hs, hp⟩ := h
  rw [paired_ints hp] at hs
  exact ⟨a, rfl, hs⟩
theorem lbls_at {v : V} {l : List Bool} {S : Hp} (h : (Rep.list Rep.bl).r K S v l) : ∃ a, v = .ref a ∧ SqL K S a (l.map V.bl) := by
  obtain ⟨a, xs, rfl, hs, hp⟩ := h
  rw [paired_bls hp] at hs
  exact ⟨a, rfl, hs⟩
theorem ev_sum {l : List Int} (h : EvD K ta σ w (Rep.list Rep.int) l) : EvD K (tCB (rSum K) (tCons ta tNil)) σ w Rep.int l.sum := fun w1 g Q q =>
  h w1 g _ fun v w2 g2 x => by
    obtain ⟨a, rfl, hs⟩ := lints_at x
    exact ⟨a, l, rfl, Evl.ex_l w2.ex hs, q _ w2 g2 rfl⟩
def maxL (l : List Int) : Int := l.foldl (fun a b => if a < b then b else a) (l.headD 0)
def minL (l : List Int) : Int := l.foldl (fun a b => if b < a then b else a) (l.headD 0)
theorem foldl_max : ∀ (l : List Int) (a : Int), (∀ y ∈ a :: l, y ≤ l.foldl (fun a b => if a < b then b else a) a) ∧ l.foldl (fun a b => if a < b then b else a) a ∈ a :: l
  | [], a => ⟨fun y h => by simp at h; simp [h], by simp⟩
  | b :: r, a => by
    obtain ⟨h1, h2⟩ := foldl_max r (if a < b then b else a)
    simp only [List.foldl_cons]
    refine ⟨fun y hy => ?_, ?_⟩
    · have hm := h1 (if a < b then b else a) List.mem_cons_self
      rcases List.mem_cons.mp hy with e | hy
      · subst e; split at hm <;> (rename_i hh; simp only [hh, if_true, if_false] ; omega)
      · rcases List.mem_cons.mp hy with e | hy
        · subst e; split at hm <;> (rename_i hh; simp only [hh, if_true, if_false] ; omega)
        · exact h1 y (List.mem_cons_of_mem _ hy)
    · rcases List.mem_cons.mp h2 with e | h
      · rw [e]; split <;> simp
      · exact List.mem_cons_of_mem _ (List.mem_cons_of_mem _ h)
theorem foldl_min : ∀ (l : List Int) (a : Int), (∀ y ∈ a :: l, l.foldl (fun a b => if b < a then b else a) a ≤ y) ∧ l.foldl (fun a b => if b < a then b else a) a ∈ a :: l
  | [], a => ⟨fun y h => by simp at h; simp [h], by simp⟩
  | b :: r, a => by
    obtain ⟨h1, h2⟩ := foldl_min r (if b < a then b else a)
    simp only [List.foldl_cons]
    refine ⟨fun y hy => ?_, ?_⟩
    · have hm := h1 (if b < a then b else a) List.mem_cons_self
      rcases List.mem_cons.mp hy with e | hy
      · subst e; split at hm <;> (rename_i hh; simp only [hh, if_true, if_false] ; omega)
      · rcases List.mem_cons.mp hy with e | hy
        · subst e; split at hm <;> (rename_i hh; simp only [hh, if_true, if_false] ; omega)
        · exact h1 y (List.mem_cons_of_mem _ hy)
    · rcases List.mem_cons.mp h2 with e | h
      · rw [e]; split <;> simp
      · exact List.mem_cons_of_mem _ (List.mem_cons_of_mem _ h)
theorem maxL_spec {l : List Int} (h : l ≠ []) : maxL l ∈ l ∧ ∀ y ∈ l, y ≤ maxL l := by
  cases l with
  | nil => exact absurd rfl h
  | cons a r =>
    have := foldl_max r a
    unfold maxL
    simp only [List.headD_cons, List.foldl_cons, Int.lt_irrefl, if_false]
    exact ⟨this.2, this.1⟩
theorem minL_spec {l : List Int} (h : l ≠ []) : minL l ∈ l ∧ ∀ y ∈ l, minL l ≤ y := by
  cases l with
  | nil => exact absurd rfl h
  | cons a r =>
    have := foldl_min r a
    unfold minL
    simp only [List.headD_cons, List.foldl_cons, Int.lt_irrefl, if_false]
    exact ⟨this.2, this.1⟩
theorem maxL_uniq {l : List Int} {m : Int} (h : m ∈ l) (h2 : ∀ y ∈ l, y ≤ m) : m = maxL l := by
  have hn : l ≠ [] := fun z => by rw [z] at h; cases h
  obtain ⟨a, b⟩ := maxL_spec hn
  exact Int.le_antisymm (b m h) (h2 _ a)
theorem minL_uniq {l : List Int} {m : Int} (h : m ∈ l) (h2 : ∀ y ∈ l, m ≤ y) : m = minL l := by
  have hn : l ≠ [] := fun z => by rw [z] at h; cases h
  obtain ⟨a, b⟩ := minL_spec hn
  exact Int.le_antisymm (h2 _ a) (b m h)
theorem ev_maxL {l : List Int} (h : EvD K ta σ w (Rep.list Rep.int) l) (hn : l ≠ []) : EvD K (tCB (rMax K) (tCons ta tNil)) σ w Rep.int (maxL l) := fun w1 g Q q =>
  h w1 g _ fun v w2 g2 x => by
    obtain ⟨a, rfl, hs⟩ := lints_at x
    exact ⟨a, l, rfl, Evl.ex_l w2.ex hs, List.length_pos_iff.mpr hn, fun m hm hle => q _ w2 g2 (by rw [maxL_uniq hm hle]; rfl)⟩
theorem ev_minL {l : List Int} (h : EvD K ta σ w (Rep.list Rep.int) l) (hn : l ≠ []) : EvD K (tCB (rMin K) (tCons ta tNil)) σ w Rep.int (minL l) := fun w1 g Q q =>
  h w1 g _ fun v w2 g2 x => by
    obtain ⟨a, rfl, hs⟩ := lints_at x
    exact ⟨a, l, rfl, Evl.ex_l w2.ex hs, List.length_pos_iff.mpr hn, fun m hm hle => q _ w2 g2 (by rw [minL_uniq hm hle]; rfl)⟩
theorem ev_all {l : List Bool} (h : EvD K ta σ w (Rep.list Rep.bl) l) : EvD K (tCB (rAll K) (tCons ta tNil)) σ w Rep.bl (l.all id) := fun w1 g Q q =>
  h w1 g _ fun v w2 g2 x => by
    obtain ⟨a, rfl, hs⟩ := lbls_at x
    exact ⟨a, l, rfl, Evl.ex_l w2.ex hs, q _ w2 g2 rfl⟩
theorem ev_any {l : List Bool} (h : EvD K ta σ w (Rep.list Rep.bl) l) : EvD K (tCB (rAny K) (tCons ta tNil)) σ w Rep.bl (l.any id) := fun w1 g Q q =>
  h w1 g _ fun v w2 g2 x => by
    obtain ⟨a, rfl, hs⟩ := lbls_at x
    exact ⟨a, l, rfl, Evl.ex_l w2.ex hs, q _ w2 g2 rfl⟩
theorem ev_max2 {i j : Int} (ha : EvD K ta σ w Rep.int i) (hb : EvD K tb σ w Rep.int j) : EvD K (tCB (fun xs H Q => ∃ i j, xs = [.int i, .int j] ∧ Q (.int (if j > i then j else i)) H) (tCons ta (tCons tb tNil))) σ w Rep.int (max i j) := fun w1 g Q q =>
  ha w1 g _ fun v w2 g2 e => hb w2 (g.trans g2) _ fun v' w3 g3 e' => ⟨i, j, by rw [e, e'], q _ w3 (g2.trans g3) (by show V.int _ = V.int _; congr 1; split <;> omega)⟩
theorem ev_min2 {i j : Int} (ha : EvD K ta σ w Rep.int i) (hb : EvD K tb σ w Rep.int j) : EvD K (tCB (fun xs H Q => ∃ i j, xs = [.int i, .int j] ∧ Q (.int (if j < i then j else i)) H) (tCons ta (tCons tb tNil))) σ w Rep.int (min i j) := fun w1 g Q q =>
  ha w1 g _ fun v w2 g2 e => hb w2 (g.trans g2) _ fun v' w3 g3 e' => ⟨i, j, by rw [e, e'], q _ w3 (g2.trans g3) (by show V.int _ = V.int _; congr 1; split <;> omega)⟩
theorem ev_abs {i : Int} (ha : EvD K ta σ w Rep.int i) : EvD K (tCB (fun xs H Q => ∃ i, xs = [.int i] ∧ Q (.int (if i < 0 then -i else i)) H) (tCons ta tNil)) σ w Rep.int (i.natAbs : Int) := fun w1 g Q q =>
  ha w1 g _ fun v w2 g2 e => ⟨i, by rw [e], q _ w2 g2 (by show V.int _ = V.int _; congr 1; split <;> omega)⟩
theorem ev_intI {i : Int} (ha : EvD K ta σ w Rep.int i) : EvD K (tCB (fun xs H Q => (∃ i, xs = [.int i] ∧ Q (.int i) H) ∨ ∃ k, xs = [.bl k] ∧ Q (.int (if k then 1 else 0)) H) (tCons ta tNil)) σ w Rep.int i := fun w1 g Q q =>
  ha w1 g _ fun v w2 g2 e => .inl ⟨i, by rw [e], q _ w2 g2 rfl⟩
theorem ev_intB {b : Bool} (ha : EvD K ta σ w Rep.bl b) : EvD K (tCB (fun xs H Q => (∃ i, xs = [.int i] ∧ Q (.int i) H) ∨ ∃ k, xs = [.bl k] ∧ Q (.int (if k then 1 else 0)) H) (tCons ta tNil)) σ w Rep.int (if b = true then 1 else 0) := fun w1 g Q q =>
  ha w1 g _ fun v w2 g2 e => .inr ⟨b, by rw [e], q _ w2 g2 rfl⟩

/-! ### what is walked -/
def Walks (K : PySem.W.Frag) (J : It) (w : Wd) (e : Rep α) (l : List α) : Prop := ∀ w', Ex w.S w'.S → ∀ i,
  (∀ a, l[i]? = some a → J.go i w'.H ∧ ∀ x H', J.yld i w'.H x H' → ∃ w2 : Wd, w2.H = H' ∧ Gr w' w2 ∧ e.r K w2.S x a) ∧ (l.length ≤ i → J.stop i w'.H)
def EvI (K : PySem.W.Frag) (wi : TI) (σ : L2.St) (w : Wd) (e : Rep α) (l : List α) : Prop := ∀ w1, Gr w w1 → ∀ R : It → Hp → Prop, (∀ J w2, Gr w1 w2 → Walks K J w2 e l → R J w2.H) → wi σ w1.H R
theorem ei_list (h : EvD K tl σ w (Rep.list e) l) : EvI K (iList K tl) σ w e l := fun w1 g R q =>
  h w1 g _ fun v w2 g2 x => by
    obtain ⟨a, xs, rfl, hs, hp⟩ := x
    refine ⟨a, rfl, ⟨xs, Evl.ex_l w2.ex hs⟩, q _ w2 g2 fun w3 x3 i => ⟨fun b hb => ?_, fun hi => ⟨xs, Evl.ex_l (x3.trans w3.ex) hs, by rw [paired_len hp]; exact hi⟩⟩⟩
    obtain ⟨v, hv, hr⟩ := paired_get hp hb
    refine ⟨⟨xs, v, Evl.ex_l (x3.trans w3.ex) hs, hv⟩, fun x H' hy => ?_⟩
    obtain ⟨rfl, f⟩ := hy
    have := f xs (Evl.ex_l (x3.trans w3.ex) hs)
    rw [hv] at this
    cases this
    exact ⟨w3, rfl, Gr.refl _, e.m x3 hr⟩
/-- lo, lo + 1, .. below hi -/
def irange (lo hi : Int) : List Int := (List.range (hi - lo).toNat).map fun (i : Nat) => lo + (i : Int)
theorem irange_get {lo hi : Int} {i : Nat} (h : lo + (i : Int) < hi) : (irange lo hi)[i]? = some (lo + (i : Int)) := by
  unfold irange
  rw [List.getElem?_map, List.getElem?_range (by omega)]; rfl
theorem irange_get' {lo hi a : Int} {i : Nat} (h : (irange lo hi)[i]? = some a) : a = lo + (i : Int) ∧ lo + (i : Int) < hi := by
  unfold irange at h
  rw [List.getElem?_map] at h
  cases q : (List.range (hi - lo).toNat)[i]? with
  | none => rw [q] at h; cases h
  | some j =>
    rw [q] at h
    have := List.getElem?_eq_some_iff.mp q
    obtain ⟨h1, h2⟩ := this
    rw [List.getElem_range] at h2
    rw [List.length_range] at h1
    cases h
    subst h2
    exact ⟨rfl, by omega⟩
theorem irange_len {lo hi : Int} : (irange lo hi).length = (hi - lo).toNat := by unfold irange; simp
theorem irange_mem {lo hi a : Int} : a ∈ irange lo hi ↔ lo ≤ a ∧ a < hi := by
  unfold irange
  simp only [List.mem_map, List.mem_range]
  constructor
  · rintro ⟨i, h, rfl⟩; omega
  · intro h; exact ⟨(a - lo).toNat, by omega, by omega⟩
theorem walks_rng (lo : Int) (n : Nat) (hi : Int) (hn : n = (hi - lo).toNat) : Walks K (Itr lo n) w Rep.int (irange lo hi) := fun w' _ i => ⟨fun a ha => by
    obtain ⟨rfl, h⟩ := irange_get' ha
    refine ⟨by show i < n; omega, fun x H' hy => ?_⟩
    obtain ⟨rfl, rfl⟩ := hy
    exact ⟨w', rfl, Gr.refl _, rfl⟩, fun hi => by rw [irange_len] at hi; show n ≤ i; omega⟩
theorem ei_range1 {n : Int} (h : EvD K te σ w Rep.int n) (hn : -100000 ≤ n ∧ n ≤ 100000) : EvI K (iRng1 (tCons te tNil)) σ w Rep.int (irange 0 n) := fun w1 g R q =>
  h w1 g _ fun v w2 g2 x => ⟨n, by rw [x], by omega, by omega, q _ w2 g2 (walks_rng 0 n.toNat n (by omega))⟩
theorem ei_range2 {lo n : Int} (h : EvD K ta σ w Rep.int lo) (h2 : EvD K tb σ w Rep.int n) (hn : -100000 ≤ lo ∧ lo ≤ 100000 ∧ -100000 ≤ n ∧ n ≤ 100000) : EvI K (iRng2 (tCons ta (tCons tb tNil))) σ w Rep.int (irange lo n) := fun w1 g R q =>
  h w1 g _ fun v w2 g2 x => h2 w2 (g.trans g2) _ fun v' w3 g3 x' => ⟨lo, n, by rw [x, x'], ⟨by omega, by omega, by omega, by omega⟩, q _ w3 (g2.trans g3) (walks_rng lo _ n rfl)⟩
/-- lo, lo + c, .. below hi -/
def srange (lo hi c : Int) : List Int := (List.range ((hi - lo + c - 1) / c).toNat).map fun (i : Nat) => lo + (i : Int) * c
theorem srange_get' {lo hi c a : Int} {i : Nat} (h : (srange lo hi c)[i]? = some a) : a = lo + (i : Int) * c ∧ i < ((hi - lo + c - 1) / c).toNat := by
  unfold srange at h
  rw [List.getElem?_map] at h
  cases q : (List.range ((hi - lo + c - 1) / c).toNat)[i]? with
  | none => rw [q] at h; cases h
  | some j =>
    rw [q] at h
    obtain ⟨h1, h2⟩ := List.getElem?_eq_some_iff.mp q
    rw [List.getElem_range] at h2
    rw [List.length_range] at h1
    cases h
    subst h2
    exact ⟨rfl, h1⟩
theorem srange_len {lo hi c : Int} : (srange lo hi c).length = ((hi - lo + c - 1) / c).toNat := by unfold srange; simp
theorem ei_range3 {lo hi c : Int} (h : EvD K ta σ w Rep.int lo) (h2 : EvD K tb σ w Rep.int hi) (h3 : EvD K tc σ w Rep.int c) (hc : RgC lo hi c ((hi - lo + c - 1) / c).toNat) : EvI K (iRng3 (tCons ta (tCons tb (tCons tc tNil)))) σ w Rep.int (srange lo hi c) := fun w1 g R q =>
  h w1 g _ fun v w2 g2 x => h2 w2 (g.trans g2) _ fun v' w3 g3 x' => h3 w3 ((g.trans g2).trans g3) _ fun v'' w4 g4 x'' =>
    ⟨lo, hi, c, _, by rw [x, x', x''], hc, q _ w4 ((g2.trans g3).trans g4) fun w' _ i => ⟨fun a ha => by
      obtain ⟨rfl, h⟩ := srange_get' ha
      refine ⟨h, fun x H' hy => ?_⟩
      obtain ⟨rfl, rfl⟩ := hy
      exact ⟨w', rfl, Gr.refl _, rfl⟩, fun hi => by rw [srange_len] at hi; exact hi⟩⟩
/-- enumerate -/
def enumI (l : List α) : List (Int × α) := l.zipIdx.map fun p => ((p.2 : Int), p.1)
theorem enumI_get {i : Nat} : (enumI l)[i]? = (l[i]?).map fun a => ((i : Int), a) := by
  unfold enumI
  rw [List.getElem?_map, List.getElem?_zipIdx]
  cases l[i]? <;> simp
theorem enumI_len : (enumI l).length = l.length := by unfold enumI; simp
theorem ei_enum (h : EvD K te σ w (Rep.list e) l) : EvI K (iEnum K (tCons te tNil)) σ w (Rep.pair Rep.int e) (enumI l) := fun w1 g R q =>
  h w1 g _ fun v w2 g2 x => by
    obtain ⟨a, xs, rfl, hs, hp⟩ := x
    refine ⟨a, xs, rfl, Evl.ex_l w2.ex hs, q _ w2 g2 fun w3 x3 i => ⟨fun b hb => ?_, fun hi => ⟨xs, Evl.ex_l (x3.trans w3.ex) hs, by rw [paired_len hp]; rw [enumI_len] at hi; exact hi⟩⟩⟩
    rw [enumI_get] at hb
    cases hl : l[i]? with
    | none => rw [hl] at hb; cases hb
    | some c =>
      rw [hl] at hb
      cases hb
      obtain ⟨v, hv, hr⟩ := paired_get hp hl
      refine ⟨⟨xs, v, Evl.ex_l (x3.trans w3.ex) hs, hv⟩, fun x H' hy => ?_⟩
      obtain ⟨T, y, rfl, nT, rfl, f⟩ := hy
      have := f xs (Evl.ex_l (x3.trans w3.ex) hs)
      rw [hv] at this
      cases this
      exact ⟨w3.put T _, rfl, gr_put nT, T, _, _, rfl, SqT.of put_s, rfl, e.m (x3.trans (gr_put nT).s) hr⟩
theorem ei_zip {m : List β} (h : EvD K ta σ w (Rep.list e) l) (h2 : EvD K tb σ w (Rep.list rb) m) : EvI K (iZip K (tCons ta (tCons tb tNil))) σ w (Rep.pair e rb) (l.zip m) := fun w1 g R q =>
  h w1 g _ fun v w2 g2 x => h2 w2 (g.trans g2) _ fun v' w3 g3 x' => by
    obtain ⟨a, xs, rfl, hs, hp⟩ := x
    obtain ⟨b, ys, rfl, hs', hp'⟩ := x'
    refine ⟨a, b, xs, ys, rfl, Evl.ex_l (g3.s.trans w3.ex) hs, Evl.ex_l w3.ex hs', q _ w3 (g2.trans g3) fun w4 x4 i => ⟨fun c hc => ?_, fun hi => ⟨xs, ys, Evl.ex_l ((g3.s.trans x4).trans w4.ex) hs, Evl.ex_l (x4.trans w4.ex) hs', by
      rw [paired_len hp, paired_len hp']; rw [List.length_zip] at hi; omega⟩⟩⟩
    obtain ⟨c1, c2⟩ := c
    obtain ⟨h1, h2⟩ := List.getElem?_zip_eq_some.mp hc
    obtain ⟨v, hv, hr⟩ := paired_get hp h1
    obtain ⟨v', hv', hr'⟩ := paired_get hp' h2
    refine ⟨⟨xs, ys, v, v', Evl.ex_l ((g3.s.trans x4).trans w4.ex) hs, Evl.ex_l (x4.trans w4.ex) hs', hv, hv'⟩, fun x H' hy => ?_⟩
    obtain ⟨T, y, z, rfl, nT, rfl, f, f'⟩ := hy
    have q1 := f xs (Evl.ex_l ((g3.s.trans x4).trans w4.ex) hs)
    have q2 := f' ys (Evl.ex_l (x4.trans w4.ex) hs')
    rw [hv] at q1
    rw [hv'] at q2
    cases q1; cases q2
    exact ⟨w4.put T _, rfl, gr_put nT, T, _, _, rfl, SqT.of put_s, e.m ((g3.s.trans x4).trans (gr_put nT).s) hr, rb.m (x4.trans (gr_put nT).s) hr'⟩
/-- a target of two names -/
theorem g_pair {n : Nat} {i j : Nat} {x : α × β} {v : V} {Q : L2.St → Hp → Prop} (h : (Rep.pair r rb).r K w.S v x) (hn : n = 2) (k : ∀ v1 v2, r.r K w.S v1 x.1 → rb.r K w.S v2 x.2 → Q ((σ.set i (some v1)).set j (some v2)) w.H) : gTup K n (gCons (gName i) (gCons (gName j) gNil)) v σ w.H Q := by
  obtain ⟨a, u, z, rfl, hs, h1, h2⟩ := h
  exact ⟨a, [u, z], rfl, Evl.ex_t w.ex hs, hn.symm, u, [z], rfl, z, [], rfl, rfl, k u z h1 h2⟩
theorem en_given (hL : l.length ≤ 100000) {wi : TI} {g : TG} {vs : List Nat} {e' : Rep β} (f : α → Bool) (gg : α → β) (h : EvI K wi σ w e l)
    (hb : ∀ a v w', a ∈ l → Gr w w' → e.r K w'.S v a → ∀ Q : L2.St → Hp → Prop, (∀ σ2 w2, Gr w' w2 → wipe σ2 vs = wipe σ vs → EvT K t σ2 w2 (f a) → (f a = true → EvD K te σ2 w2 e' (gg a)) → Q σ2 w2.H) → g v (wipe σ vs) w'.H Q) :
    EvN K (tLc wi g t te vs) σ w e' ((l.filter f).map gg) := fun w1 g1 Q q => h w1 g1 _ fun J w2 g2 hJ Dl hD => by
  refine ⟨fun i m H => m = l.length - i ∧ i ≤ l.length ∧ ∃ w' : Wd, w'.H = H ∧ Gr w2 w' ∧ OwnL K w' Dl e' (((l.take i).filter f).map gg), ⟨l.length, by simp, Nat.zero_le _, w2.new Dl _ hD, rfl, gr_new hD, [], own_new hD, .nil⟩, ?_⟩
  rintro i m H ⟨rfl, hi, w', rfl, g3, o⟩
  obtain ⟨j1, j2⟩ := hJ w' g3.s i
  by_cases hlt : i < l.length
  · have hget : l[i]? = some l[i] := by simp [hlt]
    obtain ⟨hgo, hy⟩ := j1 _ hget
    have htk : l.take (i + 1) = l.take i ++ [l[i]] := by rw [List.take_add_one, hget]; rfl
    refine .inr ⟨hgo, fun H => ∃ w4 : Wd, w4.H = H ∧ Gr w2 w4 ∧ OwnL K w4 Dl e' (((l.take (i + 1)).filter f).map gg), fun H' hN => ⟨l.length - (i + 1), by omega, rfl, hlt, hN⟩, fun x H' hx => ?_⟩
    obtain ⟨w4, rfl, g4, hr⟩ := hy x H' hx
    refine hb _ x w4 (List.getElem_mem hlt) ((g1.trans g2).trans (g3.trans g4)) hr _ fun σ2 w5 g5 hw ht he => ⟨hw, ht.run fun w6 g6 => ?_⟩
    have o6 := o.gr ((g4.trans g5).trans g6)
    have g26 : Gr w2 w6 := ((g3.trans g4).trans g5).trans g6
    cases hf : f l[i] with
    | true =>
      refine (he hf).gr g6 |>.run fun v w7 g7 hv => ?_
      obtain ⟨xs, ow, hp⟩ := o6.gr g7
      have hle : (List.filter f (List.take i l)).length ≤ i := Nat.le_trans (List.length_filter_le _ _) (by rw [List.length_take]; omega)
      refine ⟨xs, ow.h, ?_, w7.set Dl _ ow.s, rfl, (mt_set ow.s).gr w2 (g26.trans g7) hD, xs ++ [v], own_set ow.s, ?_⟩
      · rw [paired_len hp, List.length_map]
        exact sz5' (by omega)
      · rw [htk, List.filter_append, List.map_append, List.filter_cons, if_pos hf]
        exact paired_app hp (.cons hv .nil)
    | false =>
      refine ⟨w6, rfl, g26, ?_⟩
      rw [htk, List.filter_append, List.map_append, List.filter_cons, if_neg (by rw [hf]; decide)]
      simpa using o6
  · have e0 : i = l.length := by omega
    subst e0
    rw [List.take_length] at o
    exact .inl ⟨j2 (Nat.le_refl _), q Dl w' (g2.trans g3) (fr_back g2 hD) o⟩
/-- [e for x in ..] -/
theorem en_lc (hL : l.length ≤ 100000) {wi : TI} {j : Nat} {vs : List Nat} {e' : Rep β} (gg : α → β) (h : EvI K wi σ w e l) (hw : ∀ x, wipe ((wipe σ vs).set j (some x)) vs = wipe σ vs)
    (hb : ∀ a v w', a ∈ l → Gr w w' → e.r K w'.S v a → EvD K te ((wipe σ vs).set j (some v)) w' e' (gg a)) :
    EvN K (tLc wi (gName j) tYes te vs) σ w e' (l.map gg) := by
  have := en_given (t := tYes) (te := te) hL (g := gName j) (vs := vs) (e' := e') (fun _ => true) gg h fun a v w' ha g1 hr Q q => q _ w' (Gr.refl _) (hw v) et_yes fun _ => hb a v w' ha g1 hr
  rw [List.filter_eq_self.mpr fun _ _ => rfl] at this
  exact this
theorem en_lcIf (hL : l.length ≤ 100000) {wi : TI} {j : Nat} {vs : List Nat} {e' : Rep β} (f : α → Bool) (gg : α → β) (h : EvI K wi σ w e l) (hw : ∀ x, wipe ((wipe σ vs).set j (some x)) vs = wipe σ vs)
    (ht : ∀ a v w', a ∈ l → Gr w w' → e.r K w'.S v a → EvT K t ((wipe σ vs).set j (some v)) w' (f a))
    (hb : ∀ a v w', a ∈ l → f a = true → Gr w w' → e.r K w'.S v a → EvD K te ((wipe σ vs).set j (some v)) w' e' (gg a)) :
    EvN K (tLc wi (gName j) t te vs) σ w e' ((l.filter f).map gg) :=
  en_given hL f gg h fun a v w' ha g1 hr Q q => q _ w' (Gr.refl _) (hw v) (ht a v w' ha g1 hr) fun hf => hb a v w' ha hf g1 hr
/-- [e for x, y in ..] -/
theorem en_lc2 {l : List (α × γ)} (hL : l.length ≤ 100000) {wi : TI} {i j n : Nat} {vs : List Nat} {e' : Rep β} (gg : α × γ → β) (h : EvI K wi σ w (Rep.pair e rc) l) (hw : ∀ x y, wipe (((wipe σ vs).set i (some x)).set j (some y)) vs = wipe σ vs) (hn : n = 2)
    (hb : ∀ a v v' w', a ∈ l → Gr w w' → e.r K w'.S v a.1 → rc.r K w'.S v' a.2 → EvD K te (((wipe σ vs).set i (some v)).set j (some v')) w' e' (gg a)) :
    EvN K (tLc wi (gTup K n (gCons (gName i) (gCons (gName j) gNil))) tYes te vs) σ w e' (l.map gg) := by
  have := en_given (t := tYes) (te := te) hL (g := gTup K n (gCons (gName i) (gCons (gName j) gNil))) (vs := vs) (e' := e') (fun _ => true) gg h fun a v w' ha g1 hr Q q => g_pair hr hn fun v1 v2 h1 h2 => q _ w' (Gr.refl _) (hw v1 v2) et_yes fun _ => hb a v1 v2 w' ha g1 h1 h2
  rw [List.filter_eq_self.mpr fun _ _ => rfl] at this
  exact this
theorem en_lc2If {l : List (α × γ)} (hL : l.length ≤ 100000) {wi : TI} {i j n : Nat} {vs : List Nat} {e' : Rep β} (f : α × γ → Bool) (gg : α × γ → β) (h : EvI K wi σ w (Rep.pair e rc) l) (hw : ∀ x y, wipe (((wipe σ vs).set i (some x)).set j (some y)) vs = wipe σ vs) (hn : n = 2)
    (ht : ∀ a v v' w', a ∈ l → Gr w w' → e.r K w'.S v a.1 → rc.r K w'.S v' a.2 → EvT K t (((wipe σ vs).set i (some v)).set j (some v')) w' (f a))
    (hb : ∀ a v v' w', a ∈ l → f a = true → Gr w w' → e.r K w'.S v a.1 → rc.r K w'.S v' a.2 → EvD K te (((wipe σ vs).set i (some v)).set j (some v')) w' e' (gg a)) :
    EvN K (tLc wi (gTup K n (gCons (gName i) (gCons (gName j) gNil))) t te vs) σ w e' ((l.filter f).map gg) :=
  en_given hL f gg h fun a v w' ha g1 hr Q q => g_pair hr hn fun v1 v2 h1 h2 => q _ w' (Gr.refl _) (hw v1 v2) (ht a v1 v2 w' ha g1 h1 h2) fun hf => hb a v1 v2 w' ha hf g1 h1 h2

/-! ### statements -/
variable {D : Ends} {tu tw tz : TS} {g : TG}
theorem q_asg {i : Nat} (h : EvD K te σ w r a) (k : ∀ v w', Gr w w' → r.r K w'.S v a → tz D (σ.set i (some v)) w'.H) : tSeq (tAsg te (gName i)) tz D σ w.H := h.run k
theorem s_asg {i : Nat} (h : EvD K te σ w r a) (k : ∀ v w', Gr w w' → r.r K w'.S v a → D.nx (σ.set i (some v)) w'.H) : tAsg te (gName i) D σ w.H := h.run k
theorem q_asgN {i : Nat} (h : EvN K te σ w e l) (k : ∀ p w', Gr w w' → w.H p = none → OwnL K w' p e l → tz D (σ.set i (some (.ref p))) w'.H) : tSeq (tAsg te (gName i)) tz D σ w.H := h.run k
theorem s_asgN {i : Nat} (h : EvN K te σ w e l) (k : ∀ p w', Gr w w' → w.H p = none → OwnL K w' p e l → D.nx (σ.set i (some (.ref p))) w'.H) : tAsg te (gName i) D σ w.H := h.run k
theorem s_ret (h : EvD K te σ w r a) (k : ∀ v w', Gr w w' → r.r K w'.S v a → D.rt v w'.H) : tRet te D σ w.H := h.run k
theorem s_retN (h : EvN K te σ w e l) (k : ∀ p w', Gr w w' → w.H p = none → OwnL K w' p e l → D.rt (.ref p) w'.H) : tRet te D σ w.H := h.run k
/-- the name of an own list is returned -/
theorem s_retO {i : Nat} {p : Addr} (h : σ[i]? = some (some (.ref p))) (k : D.rt (.ref p) w.H) : tRet (tVar i) D σ w.H := ⟨_, h, k⟩
theorem q_if {b : Bool} (h : EvT K t σ w b) (h1 : b = true → ∀ w', Gr w w' → tu { D with nx := tz D } σ w'.H) (h2 : b = false → ∀ w', Gr w w' → tw { D with nx := tz D } σ w'.H) : tSeq (tIfS t tu tw) tz D σ w.H := h.run fun w' g => by
  cases b with
  | true => exact h1 rfl w' g
  | false => exact h2 rfl w' g
theorem s_if {b : Bool} (h : EvT K t σ w b) (h1 : b = true → ∀ w', Gr w w' → tu D σ w'.H) (h2 : b = false → ∀ w', Gr w w' → tw D σ w'.H) : tIfS t tu tw D σ w.H := h.run fun w' g => by
  cases b with
  | true => exact h1 rfl w' g
  | false => exact h2 rfl w' g
theorem q_when {b : Bool} (h : EvT K t σ w b) (h1 : b = true → ∀ w', Gr w w' → tu { D with nx := tz D } σ w'.H) (h2 : b = false → ∀ w', Gr w w' → tz D σ w'.H) : tSeq (tIfS t tu tNext) tz D σ w.H := q_if h h1 h2
theorem s_when {b : Bool} (h : EvT K t σ w b) (h1 : b = true → ∀ w', Gr w w' → tu D σ w'.H) (h2 : b = false → ∀ w', Gr w w' → D.nx σ w'.H) : tIfS t tu tNext D σ w.H := s_if h h1 h2
theorem q_drop (h : EvD K te σ w r a) (k : ∀ w', Gr w w' → tz D σ w'.H) : tSeq (tDrop te) tz D σ w.H := h.run fun _ w' g _ => k w' g
theorem s_drop (h : EvD K te σ w r a) (k : ∀ w', Gr w w' → D.nx σ w'.H) : tDrop te D σ w.H := h.run fun _ w' g _ => k w' g
theorem q_aug {i : Nat} {f : Int → Int → Int} {x y : Int} (hx : σ[i]? = some (some (.int x))) (h : EvD K te σ w Rep.int y) (k : ∀ w', Gr w w' → tz D (σ.set i (some (.int (f x y)))) w'.H) : tSeq (tAug i te (ipI f)) tz D σ w.H :=
  ⟨.int x, hx, h.run fun v w' g e => ⟨x, y, rfl, e, k w' g⟩⟩
theorem s_aug {i : Nat} {f : Int → Int → Int} {x y : Int} (hx : σ[i]? = some (some (.int x))) (h : EvD K te σ w Rep.int y) (k : ∀ w', Gr w w' → D.nx (σ.set i (some (.int (f x y)))) w'.H) : tAug i te (ipI f) D σ w.H :=
  ⟨.int x, hx, h.run fun v w' g e => ⟨x, y, rfl, e, k w' g⟩⟩
/-- a, b = e, e' -/
theorem q_par {i j : Nat} {b : β} (h : EvD K ta σ w r a) (h2 : EvD K tb σ w rb b) (k : ∀ v v' w', Gr w w' → r.r K w'.S v a → rb.r K w'.S v' b → tz D ((σ.set i (some v)).set j (some v')) w'.H) : tSeq (tPar i j (tCons ta (tCons tb tNil))) tz D σ w.H :=
  h w (Gr.refl _) _ fun v w2 g2 x => h2 w2 g2 _ fun v' w3 g3 y => ⟨v, v', rfl, k v v' w3 (g2.trans g3) (r.m g3.s x) y⟩
theorem q_parN {i j : Nat} (h : EvD K ta σ w r a) (h2 : EvN K tb σ w e l) (k : ∀ v p w', Gr w w' → r.r K w'.S v a → w.H p = none → OwnL K w' p e l → tz D ((σ.set i (some v)).set j (some (.ref p))) w'.H) : tSeq (tPar i j (tCons ta (tCons tb tNil))) tz D σ w.H :=
  h w (Gr.refl _) _ fun v w2 g2 x => h2 w2 g2 _ fun p w3 g3 n y => ⟨v, .ref p, rfl, k v p w3 (g2.trans g3) (r.m g3.s x) (fr_back g2 n) y⟩
theorem q_parNN {i j : Nat} {m : List β} (h : EvN K ta σ w e l) (h2 : EvN K tb σ w rb m) (k : ∀ p p' w', Gr w w' → w.H p = none → w.H p' = none → p ≠ p' → OwnL K w' p e l → OwnL K w' p' rb m → tz D ((σ.set i (some (.ref p))).set j (some (.ref p'))) w'.H) : tSeq (tPar i j (tCons ta (tCons tb tNil))) tz D σ w.H :=
  h w (Gr.refl _) _ fun p w2 g2 n o => h2 w2 g2 _ fun p' w3 g3 n' y => ⟨.ref p, .ref p', rfl, k p p' w3 (g2.trans g3) n (fr_back g2 n') (fun z => o.apart n' z.symm) (o.gr g3) y⟩
theorem q_parNV {i j : Nat} {b : β} (h : EvN K ta σ w e l) (h2 : EvD K tb σ w rb b) (k : ∀ p v w', Gr w w' → w.H p = none → OwnL K w' p e l → rb.r K w'.S v b → tz D ((σ.set i (some (.ref p))).set j (some v)) w'.H) : tSeq (tPar i j (tCons ta (tCons tb tNil))) tz D σ w.H :=
  h w (Gr.refl _) _ fun p w2 g2 n o => h2 w2 g2 _ fun v w3 g3 y => ⟨.ref p, v, rfl, k p v w3 (g2.trans g3) n (o.gr g3) y⟩
/-- a, b = e, e a pair -/
theorem q_unpack {i j n : Nat} {x : α × β} (h : EvD K te σ w (Rep.pair r rb) x) (hn : n = 2) (k : ∀ v v' w', Gr w w' → r.r K w'.S v x.1 → rb.r K w'.S v' x.2 → tz D ((σ.set i (some v)).set j (some v')) w'.H) : tSeq (tAsg te (gTup K n (gCons (gName i) (gCons (gName j) gNil)))) tz D σ w.H :=
  h.run fun v w' g hr => g_pair hr hn fun v1 v2 h1 h2 => k v1 v2 w' g h1 h2
/-- xs.append(e) -/
theorem app_core {p : Addr} {Q : VK} (o : OwnL K w p e l) (he : e.r K w.S v a) (hz : l.length < 100000) (k : ∀ w', Mt p w w' → OwnL K w' p e (l ++ [a]) → Q .non w'.H) : rAppend (.ref p) [v] w.H Q := by
  obtain ⟨xs, ow, hp⟩ := o
  exact ⟨p, xs, v, rfl, rfl, ow.h, by rw [paired_len hp]; exact sz5' hz, k (w.set p _ ow.s) (mt_set ow.s) ⟨_, own_set ow.s, paired_app hp (.cons he .nil)⟩⟩
theorem app_run {i : Nat} {p : Addr} {Q : VK} (o : OwnL K w p e l) (hi : σ[i]? = some (some (.ref p))) (he : EvD K te σ w e a) (hz : l.length < 100000) (k : ∀ w', Mt p w w' → OwnL K w' p e (l ++ [a]) → Q .non w'.H) : tBM K "list" rAppend (tVar i) (tCons te tNil) σ w.H Q := by
  obtain ⟨xs, ow, hp⟩ := id o
  exact ⟨_, hi, .inl ⟨rfl, _, SqL.of ow.h⟩, he.run fun v w2 g2 hv => app_core (o.gr g2) hv hz fun w3 m3 o3 => k w3 ((g2.mt o.ne).trans m3) o3⟩
theorem q_app {i : Nat} {p : Addr} (o : OwnL K w p e l) (hi : σ[i]? = some (some (.ref p))) (he : EvD K te σ w e a) (hz : l.length < 100000) (k : ∀ w', Mt p w w' → OwnL K w' p e (l ++ [a]) → tz D σ w'.H) : tSeq (tDrop (tBM K "list" rAppend (tVar i) (tCons te tNil))) tz D σ w.H := app_run o hi he hz k
theorem s_app {i : Nat} {p : Addr} (o : OwnL K w p e l) (hi : σ[i]? = some (some (.ref p))) (he : EvD K te σ w e a) (hz : l.length < 100000) (k : ∀ w', Mt p w w' → OwnL K w' p e (l ++ [a]) → D.nx σ w'.H) : tDrop (tBM K "list" rAppend (tVar i) (tCons te tNil)) D σ w.H := app_run o hi he hz k
/-- xs[k] = e -/
theorem set_run {i : Nat} {p : Addr} {x : Int} {Q : L2.St → Hp → Prop} (o : OwnL K w p e l) (hi : σ[i]? = some (some (.ref p))) (he : EvD K te σ w e a) (hx : EvD K tb σ w Rep.int x) (hb : 0 ≤ x ∧ x < l.length) (k : ∀ w', Mt p w w' → OwnL K w' p e (l.set x.toNat a) → Q σ w'.H) : te σ w.H fun y H1 => gSub (tVar i) tb rSetL y σ H1 Q := by
  refine he.run fun v w2 g2 hv => ⟨_, hi, (hx.gr g2).run fun v' w3 g3 hx' => ?_⟩
  cases hx'
  obtain ⟨xs, ow, hp⟩ := (o.gr g2).gr g3
  refine ⟨p, xs, x, x.toNat, rfl, rfl, ow.h, ?_, ?_⟩
  · have : x = (x.toNat : Int) := by omega
    rw [this, Evl.ixN_nat (by rw [paired_len hp]; omega)]; rfl
  · exact k (w3.set p _ ow.s) (((g2.trans g3).mt o.ne).trans (mt_set ow.s)) ⟨_, own_set ow.s, paired_set (e.m g3.s hv) _ hp⟩
theorem q_set {i : Nat} {p : Addr} {x : Int} (o : OwnL K w p e l) (hi : σ[i]? = some (some (.ref p))) (he : EvD K te σ w e a) (hx : EvD K tb σ w Rep.int x) (hb : 0 ≤ x ∧ x < l.length) (k : ∀ w', Mt p w w' → OwnL K w' p e (l.set x.toNat a) → tz D σ w'.H) : tSeq (tAsg te (gSub (tVar i) tb rSetL)) tz D σ w.H := set_run (Q := tz D) o hi he hx hb k
theorem s_set {i : Nat} {p : Addr} {x : Int} (o : OwnL K w p e l) (hi : σ[i]? = some (some (.ref p))) (he : EvD K te σ w e a) (hx : EvD K tb σ w Rep.int x) (hb : 0 ≤ x ∧ x < l.length) (k : ∀ w', Mt p w w' → OwnL K w' p e (l.set x.toNat a) → D.nx σ w'.H) : tAsg te (gSub (tVar i) tb rSetL) D σ w.H := set_run (Q := D.nx) o hi he hx hb k
/-- an own list's item -/
theorem ev_var_ref {i : Nat} {p : Addr} {Q : VK} (hi : σ[i]? = some (some (.ref p))) {H : Hp} (k : Q (.ref p) H) : tVar i σ H Q := ⟨_, hi, k⟩
theorem ev_ixO {i : Nat} {p : Addr} {x : Int} {b : α} (o : OwnL K w p e l) (hi : σ[i]? = some (some (.ref p))) (hx : EvD K tb σ w Rep.int x) (hb : atI l x = some b) : EvD K (tOp (rIxL K) (tVar i) tb) σ w e b := fun w1 g Q q =>
  ⟨_, hi, hx w1 g _ fun v w2 g2 hv => by
    cases hv
    obtain ⟨xs, ow, hp⟩ := (o.gr g).gr g2
    unfold atI at hb
    obtain ⟨j, hj, hb⟩ := Option.bind_eq_some_iff.mp hb
    obtain ⟨v, hv, hr⟩ := paired_get hp hb
    refine ⟨p, xs, x, v, rfl, rfl, SqL.of ow.h, ?_, q v w2 g2 hr⟩
    unfold atI
    rw [paired_len hp, hj]
    exact hv⟩
/-! ### loops -/
def Nxt (I : L2.St → Wd → Prop) (w : Wd) : L2.St → Hp → Prop := fun σ H => ∃ w' : Wd, w'.H = H ∧ Ex w.S w'.S ∧ I σ w'
theorem for_core {wi : TI} {tb : TS} (h : EvI K wi σ w e l) (I : Nat → L2.St → Wd → Prop) (h0 : ∀ w1, Gr w w1 → I 0 σ w1)
    (hs : ∀ i a v σ' w' w2, l[i]? = some a → Ex w.S w'.S → I i σ' w' → Gr w' w2 → e.r K w2.S v a → g v σ' w2.H fun σ2 H2 => tb { D with nx := Nxt (I (i + 1)) w', ct := Nxt (I (i + 1)) w', bk := D.nx } σ2 H2)
    (hd : ∀ σ' w', Ex w.S w'.S → I l.length σ' w' → D.nx σ' w'.H) : tFor wi g tb D σ w.H := h w (Gr.refl _) _ fun J w1 g1 hJ => by
  refine ⟨fun i m σ H => m = l.length - i ∧ i ≤ l.length ∧ ∃ w' : Wd, w'.H = H ∧ Ex w1.S w'.S ∧ I i σ w', ⟨l.length, by simp, Nat.zero_le _, w1, rfl, exr _, h0 w1 g1⟩, ?_⟩
  rintro i m σ' H ⟨rfl, hi, w', rfl, x1, hI⟩
  obtain ⟨j1, j2⟩ := hJ w' x1 i
  by_cases hlt : i < l.length
  · have hget : l[i]? = some l[i] := by simp [hlt]
    obtain ⟨hgo, hy⟩ := j1 _ hget
    refine .inr ⟨hgo, Nxt (I (i + 1)) w', fun σ2 H2 hN => ?_, fun x H' hx => ?_⟩
    · obtain ⟨w3, e3, x3, i3⟩ := hN
      exact ⟨l.length - (i + 1), by omega, rfl, hlt, w3, e3, x1.trans x3, i3⟩
    · obtain ⟨w4, rfl, g4, hr⟩ := hy x H' hx
      exact hs i _ x σ' w' w4 hget (g1.s.trans x1) hI g4 hr
  · have e0 : i = l.length := by omega
    subst e0
    exact .inl ⟨j2 (Nat.le_refl _), hd σ' w' (g1.s.trans x1) hI⟩
end
end WK

/-! WK, part 3: promises of defs by what their values stand for; loops of names. -/
namespace WK
open PySem PySem.Spec PyProof.Rows L2
def spD0 {γ : Type} (K : PySem.W.Frag)  (pre : Prop) (rc : Rep γ) (f : γ) : Sp := fun vs H Q _ => ∃ (wd : Wd), wd.H = H ∧ vs = [] ∧ pre ∧ (∀ v w', Gr wd w' → rc.r K w'.S v f → Q v w'.H)
theorem ev_call0 {γ : Type}  {pre : Prop} {rc : Rep γ} {f : γ}  {σ : L2.St} {w : Wd} {K : PySem.W.Frag} {E : XK}  (hp : pre) : EvD K (tCall (spD0 K  pre rc f) [] E tNil) σ w rc f := fun w1 g Q q =>
  ⟨w1, rfl, rfl, hp, fun v w' g' x => q v w' ((Gr.refl _).trans g') x⟩
theorem okD0 {γ : Type}  {pre : Prop} {rc : Rep γ} {f : γ} {P : Program} {w : World} {K : PySem.W.Frag} {mg : Str → Option Value} {base : Heap} {x qual : Str} {params : Arguments} {body : List Stmt} {scope : Scope} {dvs : List V} {kws : List (Str × V)} {fa : Addr} {fd : FuncData} {CX : CXT} {N ps : List Str} {k : Nat}
    (F : FunD K x qual params body scope dvs kws fa fd) (S : FnScope N ps scope) (hl : ps.length = 0)
    (hb : ∀ (cdv : Value) (A : Around) (outer : List Env) (s : Shared) (H : Hp) (E : XK), Room k (A.deeper (envOfC qual scope s.heap.objs.size fa cdv)) → ∃ t, PSs (cxOf CX P w K mg base N qual scope fa cdv A outer s H E).nox body t ∧
      ∀ (wd : Wd) (Q : VK), pre → (∀ v w', Gr wd w' → rc.r K w'.S v f → Q v w'.H) → t { nx := fun _ H' => Q .non H', rt := Q } (start N []) wd.H) : FnOk P w K mg base CX (k + 1) fa fd ps (spD0 K  pre rc f) :=
  FunD.ok F S (fun vs H Q E h => by obtain ⟨wd, hw, hv, _⟩ := h; rw [hl, hv] <;> rfl) fun cdv A outer s H vs Q E hr h => by
    obtain ⟨t, ht, hq⟩ := hb cdv A outer s H E hr
    obtain ⟨wd, hw, hv, hp, q⟩ := h
    subst hv; subst hw
    exact ⟨t, PSs.nox ht, hq wd Q hp q⟩
def spN0 {γ : Type} (K : PySem.W.Frag)  (pre : Prop) (rc : Rep γ) (f : List γ) : Sp := fun vs H Q _ => ∃ (wd : Wd), wd.H = H ∧ vs = [] ∧ pre ∧ (∀ p w', Gr wd w' → wd.H p = none → OwnL K w' p rc f → Q (.ref p) w'.H)
theorem en_call0 {γ : Type}  {pre : Prop} {rc : Rep γ} {f : List γ}  {σ : L2.St} {w : Wd} {K : PySem.W.Frag} {E : XK}  (hp : pre) : EvN K (tCall (spN0 K  pre rc f) [] E tNil) σ w rc f := fun w1 g Q q =>
  ⟨w1, rfl, rfl, hp, fun p w' g' n x => q p w' ((Gr.refl _).trans g') (fr_back (Gr.refl _) n) x⟩
theorem okN0 {γ : Type}  {pre : Prop} {rc : Rep γ} {f : List γ} {P : Program} {w : World} {K : PySem.W.Frag} {mg : Str → Option Value} {base : Heap} {x qual : Str} {params : Arguments} {body : List Stmt} {scope : Scope} {dvs : List V} {kws : List (Str × V)} {fa : Addr} {fd : FuncData} {CX : CXT} {N ps : List Str} {k : Nat}
    (F : FunD K x qual params body scope dvs kws fa fd) (S : FnScope N ps scope) (hl : ps.length = 0)
    (hb : ∀ (cdv : Value) (A : Around) (outer : List Env) (s : Shared) (H : Hp) (E : XK), Room k (A.deeper (envOfC qual scope s.heap.objs.size fa cdv)) → ∃ t, PSs (cxOf CX P w K mg base N qual scope fa cdv A outer s H E).nox body t ∧
      ∀ (wd : Wd) (Q : VK), pre → (∀ p w', Gr wd w' → wd.H p = none → OwnL K w' p rc f → Q (.ref p) w'.H) → t { nx := fun _ H' => Q .non H', rt := Q } (start N []) wd.H) : FnOk P w K mg base CX (k + 1) fa fd ps (spN0 K  pre rc f) :=
  FunD.ok F S (fun vs H Q E h => by obtain ⟨wd, hw, hv, _⟩ := h; rw [hl, hv] <;> rfl) fun cdv A outer s H vs Q E hr h => by
    obtain ⟨t, ht, hq⟩ := hb cdv A outer s H E hr
    obtain ⟨wd, hw, hv, hp, q⟩ := h
    subst hv; subst hw
    exact ⟨t, PSs.nox ht, hq wd Q hp q⟩
def spD1 {α0 γ : Type} (K : PySem.W.Frag) (r0 : Rep α0) (pre : α0 → Prop) (rc : Rep γ) (f : α0 → γ) : Sp := fun vs H Q _ => ∃ (wd : Wd) (x0 : V) (a0 : α0), wd.H = H ∧ vs = [x0] ∧ r0.r K wd.S x0 a0 ∧ pre a0 ∧ (∀ v w', Gr wd w' → rc.r K w'.S v (f a0) → Q v w'.H)
theorem ev_call1 {α0 γ : Type} {r0 : Rep α0} {pre : α0 → Prop} {rc : Rep γ} {f : α0 → γ} {a0 : α0} {t0 : TE} {σ : L2.St} {w : Wd} {K : PySem.W.Frag} {E : XK} (h0 : EvD K t0 σ w r0 a0) (hp : pre a0) : EvD K (tCall (spD1 K r0 pre rc f) [] E (tCons t0 tNil)) σ w rc (f a0) := fun w1 g Q q =>
  h0 w1 (g) _ fun v0 u0 k0 z0 => ⟨u0, _, _, rfl, rfl, z0, hp, fun v w' g' x => q v w' ((k0).trans g') x⟩
theorem okD1 {α0 γ : Type} {r0 : Rep α0} {pre : α0 → Prop} {rc : Rep γ} {f : α0 → γ} {P : Program} {w : World} {K : PySem.W.Frag} {mg : Str → Option Value} {base : Heap} {x qual : Str} {params : Arguments} {body : List Stmt} {scope : Scope} {dvs : List V} {kws : List (Str × V)} {fa : Addr} {fd : FuncData} {CX : CXT} {N ps : List Str} {k : Nat}
    (F : FunD K x qual params body scope dvs kws fa fd) (S : FnScope N ps scope) (hl : ps.length = 1)
    (hb : ∀ (cdv : Value) (A : Around) (outer : List Env) (s : Shared) (H : Hp) (E : XK), Room k (A.deeper (envOfC qual scope s.heap.objs.size fa cdv)) → ∃ t, PSs (cxOf CX P w K mg base N qual scope fa cdv A outer s H E).nox body t ∧
      ∀ (wd : Wd) (x0 : V) (a0 : α0) (Q : VK), r0.r K wd.S x0 a0 → pre a0 → (∀ v w', Gr wd w' → rc.r K w'.S v (f a0) → Q v w'.H) → t { nx := fun _ H' => Q .non H', rt := Q } (start N [x0]) wd.H) : FnOk P w K mg base CX (k + 1) fa fd ps (spD1 K r0 pre rc f) :=
  FunD.ok F S (fun vs H Q E h => by obtain ⟨wd, x0, a0, hw, hv, _⟩ := h; rw [hl, hv] <;> rfl) fun cdv A outer s H vs Q E hr h => by
    obtain ⟨t, ht, hq⟩ := hb cdv A outer s H E hr
    obtain ⟨wd, x0, a0, hw, hv, q0, hp, q⟩ := h
    subst hv; subst hw
    exact ⟨t, PSs.nox ht, hq wd x0 a0 Q q0 hp q⟩
def spN1 {α0 γ : Type} (K : PySem.W.Frag) (r0 : Rep α0) (pre : α0 → Prop) (rc : Rep γ) (f : α0 → List γ) : Sp := fun vs H Q _ => ∃ (wd : Wd) (x0 : V) (a0 : α0), wd.H = H ∧ vs = [x0] ∧ r0.r K wd.S x0 a0 ∧ pre a0 ∧ (∀ p w', Gr wd w' → wd.H p = none → OwnL K w' p rc (f a0) → Q (.ref p) w'.H)
theorem en_call1 {α0 γ : Type} {r0 : Rep α0} {pre : α0 → Prop} {rc : Rep γ} {f : α0 → List γ} {a0 : α0} {t0 : TE} {σ : L2.St} {w : Wd} {K : PySem.W.Frag} {E : XK} (h0 : EvD K t0 σ w r0 a0) (hp : pre a0) : EvN K (tCall (spN1 K r0 pre rc f) [] E (tCons t0 tNil)) σ w rc (f a0) := fun w1 g Q q =>
  h0 w1 (g) _ fun v0 u0 k0 z0 => ⟨u0, _, _, rfl, rfl, z0, hp, fun p w' g' n x => q p w' ((k0).trans g') (fr_back (k0) n) x⟩
theorem okN1 {α0 γ : Type} {r0 : Rep α0} {pre : α0 → Prop} {rc : Rep γ} {f : α0 → List γ} {P : Program} {w : World} {K : PySem.W.Frag} {mg : Str → Option Value} {base : Heap} {x qual : Str} {params : Arguments} {body : List Stmt} {scope : Scope} {dvs : List V} {kws : List (Str × V)} {fa : Addr} {fd : FuncData} {CX : CXT} {N ps : List Str} {k : Nat}
    (F : FunD K x qual params body scope dvs kws fa fd) (S : FnScope N ps scope) (hl : ps.length = 1)
    (hb : ∀ (cdv : Value) (A : Around) (outer : List Env) (s : Shared) (H : Hp) (E : XK), Room k (A.deeper (envOfC qual scope s.heap.objs.size fa cdv)) → ∃ t, PSs (cxOf CX P w K mg base N qual scope fa cdv A outer s H E).nox body t ∧
      ∀ (wd : Wd) (x0 : V) (a0 : α0) (Q : VK), r0.r K wd.S x0 a0 → pre a0 → (∀ p w', Gr wd w' → wd.H p = none → OwnL K w' p rc (f a0) → Q (.ref p) w'.H) → t { nx := fun _ H' => Q .non H', rt := Q } (start N [x0]) wd.H) : FnOk P w K mg base CX (k + 1) fa fd ps (spN1 K r0 pre rc f) :=
  FunD.ok F S (fun vs H Q E h => by obtain ⟨wd, x0, a0, hw, hv, _⟩ := h; rw [hl, hv] <;> rfl) fun cdv A outer s H vs Q E hr h => by
    obtain ⟨t, ht, hq⟩ := hb cdv A outer s H E hr
    obtain ⟨wd, x0, a0, hw, hv, q0, hp, q⟩ := h
    subst hv; subst hw
    exact ⟨t, PSs.nox ht, hq wd x0 a0 Q q0 hp q⟩
def spD2 {α0 α1 γ : Type} (K : PySem.W.Frag) (r0 : Rep α0) (r1 : Rep α1) (pre : α0 → α1 → Prop) (rc : Rep γ) (f : α0 → α1 → γ) : Sp := fun vs H Q _ => ∃ (wd : Wd) (x0 x1 : V) (a0 : α0) (a1 : α1), wd.H = H ∧ vs = [x0, x1] ∧ r0.r K wd.S x0 a0 ∧ r1.r K wd.S x1 a1 ∧ pre a0 a1 ∧ (∀ v w', Gr wd w' → rc.r K w'.S v (f a0 a1) → Q v w'.H)
theorem ev_call2 {α0 α1 γ : Type} {r0 : Rep α0} {r1 : Rep α1} {pre : α0 → α1 → Prop} {rc : Rep γ} {f : α0 → α1 → γ} {a0 : α0} {a1 : α1} {t0 t1 : TE} {σ : L2.St} {w : Wd} {K : PySem.W.Frag} {E : XK} (h0 : EvD K t0 σ w r0 a0) (h1 : EvD K t1 σ w r1 a1) (hp : pre a0 a1) : EvD K (tCall (spD2 K r0 r1 pre rc f) [] E (tCons t0 (tCons t1 tNil))) σ w rc (f a0 a1) := fun w1 g Q q =>
  h0 w1 (g) _ fun v0 u0 k0 z0 => h1 u0 (g.trans k0) _ fun v1 u1 k1 z1 => ⟨u1, _, _, _, _, rfl, rfl, r0.m (k1.s) z0, z1, hp, fun v w' g' x => q v w' (((k0).trans k1).trans g') x⟩
theorem okD2 {α0 α1 γ : Type} {r0 : Rep α0} {r1 : Rep α1} {pre : α0 → α1 → Prop} {rc : Rep γ} {f : α0 → α1 → γ} {P : Program} {w : World} {K : PySem.W.Frag} {mg : Str → Option Value} {base : Heap} {x qual : Str} {params : Arguments} {body : List Stmt} {scope : Scope} {dvs : List V} {kws : List (Str × V)} {fa : Addr} {fd : FuncData} {CX : CXT} {N ps : List Str} {k : Nat}
    (F : FunD K x qual params body scope dvs kws fa fd) (S : FnScope N ps scope) (hl : ps.length = 2)
    (hb : ∀ (cdv : Value) (A : Around) (outer : List Env) (s : Shared) (H : Hp) (E : XK), Room k (A.deeper (envOfC qual scope s.heap.objs.size fa cdv)) → ∃ t, PSs (cxOf CX P w K mg base N qual scope fa cdv A outer s H E).nox body t ∧
      ∀ (wd : Wd) (x0 : V) (x1 : V) (a0 : α0) (a1 : α1) (Q : VK), r0.r K wd.S x0 a0 → r1.r K wd.S x1 a1 → pre a0 a1 → (∀ v w', Gr wd w' → rc.r K w'.S v (f a0 a1) → Q v w'.H) → t { nx := fun _ H' => Q .non H', rt := Q } (start N [x0, x1]) wd.H) : FnOk P w K mg base CX (k + 1) fa fd ps (spD2 K r0 r1 pre rc f) :=
  FunD.ok F S (fun vs H Q E h => by obtain ⟨wd, x0, x1, a0, a1, hw, hv, _⟩ := h; rw [hl, hv] <;> rfl) fun cdv A outer s H vs Q E hr h => by
    obtain ⟨t, ht, hq⟩ := hb cdv A outer s H E hr
    obtain ⟨wd, x0, x1, a0, a1, hw, hv, q0, q1, hp, q⟩ := h
    subst hv; subst hw
    exact ⟨t, PSs.nox ht, hq wd x0 x1 a0 a1 Q q0 q1 hp q⟩
def spN2 {α0 α1 γ : Type} (K : PySem.W.Frag) (r0 : Rep α0) (r1 : Rep α1) (pre : α0 → α1 → Prop) (rc : Rep γ) (f : α0 → α1 → List γ) : Sp := fun vs H Q _ => ∃ (wd : Wd) (x0 x1 : V) (a0 : α0) (a1 : α1), wd.H = H ∧ vs = [x0, x1] ∧ r0.r K wd.S x0 a0 ∧ r1.r K wd.S x1 a1 ∧ pre a0 a1 ∧ (∀ p w', Gr wd w' → wd.H p = none → OwnL K w' p rc (f a0 a1) → Q (.ref p) w'.H)
theorem en_call2 {α0 α1 γ : Type} {r0 : Rep α0} {r1 : Rep α1} {pre : α0 → α1 → Prop} {rc : Rep γ} {f : α0 → α1 → List γ} {a0 : α0} {a1 : α1} {t0 t1 : TE} {σ : L2.St} {w : Wd} {K : PySem.W.Frag} {E : XK} (h0 : EvD K t0 σ w r0 a0) (h1 : EvD K t1 σ w r1 a1) (hp : pre a0 a1) : EvN K (tCall (spN2 K r0 r1 pre rc f) [] E (tCons t0 (tCons t1 tNil))) σ w rc (f a0 a1) := fun w1 g Q q =>
  h0 w1 (g) _ fun v0 u0 k0 z0 => h1 u0 (g.trans k0) _ fun v1 u1 k1 z1 => ⟨u1, _, _, _, _, rfl, rfl, r0.m (k1.s) z0, z1, hp, fun p w' g' n x => q p w' (((k0).trans k1).trans g') (fr_back ((k0).trans k1) n) x⟩
theorem okN2 {α0 α1 γ : Type} {r0 : Rep α0} {r1 : Rep α1} {pre : α0 → α1 → Prop} {rc : Rep γ} {f : α0 → α1 → List γ} {P : Program} {w : World} {K : PySem.W.Frag} {mg : Str → Option Value} {base : Heap} {x qual : Str} {params : Arguments} {body : List Stmt} {scope : Scope} {dvs : List V} {kws : List (Str × V)} {fa : Addr} {fd : FuncData} {CX : CXT} {N ps : List Str} {k : Nat}
    (F : FunD K x qual params body scope dvs kws fa fd) (S : FnScope N ps scope) (hl : ps.length = 2)
    (hb : ∀ (cdv : Value) (A : Around) (outer : List Env) (s : Shared) (H : Hp) (E : XK), Room k (A.deeper (envOfC qual scope s.heap.objs.size fa cdv)) → ∃ t, PSs (cxOf CX P w K mg base N qual scope fa cdv A outer s H E).nox body t ∧
      ∀ (wd : Wd) (x0 : V) (x1 : V) (a0 : α0) (a1 : α1) (Q : VK), r0.r K wd.S x0 a0 → r1.r K wd.S x1 a1 → pre a0 a1 → (∀ p w', Gr wd w' → wd.H p = none → OwnL K w' p rc (f a0 a1) → Q (.ref p) w'.H) → t { nx := fun _ H' => Q .non H', rt := Q } (start N [x0, x1]) wd.H) : FnOk P w K mg base CX (k + 1) fa fd ps (spN2 K r0 r1 pre rc f) :=
  FunD.ok F S (fun vs H Q E h => by obtain ⟨wd, x0, x1, a0, a1, hw, hv, _⟩ := h; rw [hl, hv] <;> rfl) fun cdv A outer s H vs Q E hr h => by
    obtain ⟨t, ht, hq⟩ := hb cdv A outer s H E hr
    obtain ⟨wd, x0, x1, a0, a1, hw, hv, q0, q1, hp, q⟩ := h
    subst hv; subst hw
    exact ⟨t, PSs.nox ht, hq wd x0 x1 a0 a1 Q q0 q1 hp q⟩
def spD3 {α0 α1 α2 γ : Type} (K : PySem.W.Frag) (r0 : Rep α0) (r1 : Rep α1) (r2 : Rep α2) (pre : α0 → α1 → α2 → Prop) (rc : Rep γ) (f : α0 → α1 → α2 → γ) : Sp := fun vs H Q _ => ∃ (wd : Wd) (x0 x1 x2 : V) (a0 : α0) (a1 : α1) (a2 : α2), wd.H = H ∧ vs = [x0, x1, x2] ∧ r0.r K wd.S x0 a0 ∧ r1.r K wd.S x1 a1 ∧ r2.r K wd.S x2 a2 ∧ pre a0 a1 a2 ∧ (∀ v w', Gr wd w' → rc.r K w'.S v (f a0 a1 a2) → Q v w'.H)
theorem ev_call3 {α0 α1 α2 γ : Type} {r0 : Rep α0} {r1 : Rep α1} {r2 : Rep α2} {pre : α0 → α1 → α2 → Prop} {rc : Rep γ} {f : α0 → α1 → α2 → γ} {a0 : α0} {a1 : α1} {a2 : α2} {t0 t1 t2 : TE} {σ : L2.St} {w : Wd} {K : PySem.W.Frag} {E : XK} (h0 : EvD K t0 σ w r0 a0) (h1 : EvD K t1 σ w r1 a1) (h2 : EvD K t2 σ w r2 a2) (hp : pre a0 a1 a2) : EvD K (tCall (spD3 K r0 r1 r2 pre rc f) [] E (tCons t0 (tCons t1 (tCons t2 tNil)))) σ w rc (f a0 a1 a2) := fun w1 g Q q =>
  h0 w1 (g) _ fun v0 u0 k0 z0 => h1 u0 (g.trans k0) _ fun v1 u1 k1 z1 => h2 u1 ((g.trans k0).trans k1) _ fun v2 u2 k2 z2 => ⟨u2, _, _, _, _, _, _, rfl, rfl, r0.m ((k1.s).trans k2.s) z0, r1.m (k2.s) z1, z2, hp, fun v w' g' x => q v w' ((((k0).trans k1).trans k2).trans g') x⟩
theorem okD3 {α0 α1 α2 γ : Type} {r0 : Rep α0} {r1 : Rep α1} {r2 : Rep α2} {pre : α0 → α1 → α2 → Prop} {rc : Rep γ} {f : α0 → α1 → α2 → γ} {P : Program} {w : World} {K : PySem.W.Frag} {mg : Str → Option Value} {base : Heap} {x qual : Str} {params : Arguments} {body : List Stmt} {scope : Scope} {dvs : List V} {kws : List (Str × V)} {fa : Addr} {fd : FuncData} {CX : CXT} {N ps : List Str} {k : Nat}
    (F : FunD K x qual params body scope dvs kws fa fd) (S : FnScope N ps scope) (hl : ps.length = 3)
    (hb : ∀ (cdv : Value) (A : Around) (outer : List Env) (s : Shared) (H : Hp) (E : XK), Room k (A.deeper (envOfC qual scope s.heap.objs.size fa cdv)) → ∃ t, PSs (cxOf CX P w K mg base N qual scope fa cdv A outer s H E).nox body t ∧
      ∀ (wd : Wd) (x0 : V) (x1 : V) (x2 : V) (a0 : α0) (a1 : α1) (a2 : α2) (Q : VK), r0.r K wd.S x0 a0 → r1.r K wd.S x1 a1 → r2.r K wd.S x2 a2 → pre a0 a1 a2 → (∀ v w', Gr wd w' → rc.r K w'.S v (f a0 a1 a2) → Q v w'.H) → t { nx := fun _ H' => Q .non H', rt := Q } (start N [x0, x1, x2]) wd.H) : FnOk P w K mg base CX (k + 1) fa fd ps (spD3 K r0 r1 r2 pre rc f) :=
  FunD.ok F S (fun vs H Q E h => by obtain ⟨wd, x0, x1, x2, a0, a1, a2, hw, hv, _⟩ := h; rw [hl, hv] <;> rfl) fun cdv A outer s H vs Q E hr h => by
    obtain ⟨t, ht, hq⟩ := hb cdv A outer s H E hr
    obtain ⟨wd, x0, x1, x2, a0, a1, a2, hw, hv, q0, q1, q2, hp, q⟩ := h
    subst hv; subst hw
    exact ⟨t, PSs.nox ht, hq wd x0 x1 x2 a0 a1 a2 Q q0 q1 q2 hp q⟩
def spN3 {α0 α1 α2 γ : Type} (K : PySem.W.Frag) (r0 : Rep α0) (r1 : Rep α1) (r2 : Rep α2) (pre : α0 → α1 → α2 → Prop) (rc : Rep γ) (f : α0 → α1 → α2 → List γ) : Sp := fun vs H Q _ => ∃ (wd : Wd) (x0 x1 x2 : V) (a0 : α0) (a1 : α1) (a2 : α2), wd.H = H ∧ vs = [x0, x1, x2] ∧ r0.r K wd.S x0 a0 ∧ r1.r K wd.S x1 a1 ∧ r2.r K wd.S x2 a2 ∧ pre a0 a1 a2 ∧ (∀ p w', Gr wd w' → wd.H p = none → OwnL K w' p rc (f a0 a1 a2) → Q (.ref p) w'.H)
theorem en_call3 {α0 α1 α2 γ : Type} {r0 : Rep α0} {r1 : Rep α1} {r2 : Rep α2} {pre : α0 → α1 → α2 → Prop} {rc : Rep γ} {f : α0 → α1 → α2 → List γ} {a0 : α0} {a1 : α1} {a2 : α2} {t0 t1 t2 : TE} {σ : L2.St} {w : Wd} {K : PySem.W.Frag} {E : XK} (h0 : EvD K t0 σ w r0 a0) (h1 : EvD K t1 σ w r1 a1) (h2 : EvD K t2 σ w r2 a2) (hp : pre a0 a1 a2) : EvN K (tCall (spN3 K r0 r1 r2 pre rc f) [] E (tCons t0 (tCons t1 (tCons t2 tNil)))) σ w rc (f a0 a1 a2) := fun w1 g Q q =>
  h0 w1 (g) _ fun v0 u0 k0 z0 => h1 u0 (g.trans k0) _ fun v1 u1 k1 z1 => h2 u1 ((g.trans k0).trans k1) _ fun v2 u2 k2 z2 => ⟨u2, _, _, _, _, _, _, rfl, rfl, r0.m ((k1.s).trans k2.s) z0, r1.m (k2.s) z1, z2, hp, fun p w' g' n x => q p w' ((((k0).trans k1).trans k2).trans g') (fr_back (((k0).trans k1).trans k2) n) x⟩
theorem okN3 {α0 α1 α2 γ : Type} {r0 : Rep α0} {r1 : Rep α1} {r2 : Rep α2} {pre : α0 → α1 → α2 → Prop} {rc : Rep γ} {f : α0 → α1 → α2 → List γ} {P : Program} {w : World} {K : PySem.W.Frag} {mg : Str → Option Value} {base : Heap} {x qual : Str} {params : Arguments} {body : List Stmt} {scope : Scope} {dvs : List V} {kws : List (Str × V)} {fa : Addr} {fd : FuncData} {CX : CXT} {N ps : List Str} {k : Nat}
    (F : FunD K x qual params body scope dvs kws fa fd) (S : FnScope N ps scope) (hl : ps.length = 3)
    (hb : ∀ (cdv : Value) (A : Around) (outer : List Env) (s : Shared) (H : Hp) (E : XK), Room k (A.deeper (envOfC qual scope s.heap.objs.size fa cdv)) → ∃ t, PSs (cxOf CX P w K mg base N qual scope fa cdv A outer s H E).nox body t ∧
      ∀ (wd : Wd) (x0 : V) (x1 : V) (x2 : V) (a0 : α0) (a1 : α1) (a2 : α2) (Q : VK), r0.r K wd.S x0 a0 → r1.r K wd.S x1 a1 → r2.r K wd.S x2 a2 → pre a0 a1 a2 → (∀ p w', Gr wd w' → wd.H p = none → OwnL K w' p rc (f a0 a1 a2) → Q (.ref p) w'.H) → t { nx := fun _ H' => Q .non H', rt := Q } (start N [x0, x1, x2]) wd.H) : FnOk P w K mg base CX (k + 1) fa fd ps (spN3 K r0 r1 r2 pre rc f) :=
  FunD.ok F S (fun vs H Q E h => by obtain ⟨wd, x0, x1, x2, a0, a1, a2, hw, hv, _⟩ := h; rw [hl, hv] <;> rfl) fun cdv A outer s H vs Q E hr h => by
    obtain ⟨t, ht, hq⟩ := hb cdv A outer s H E hr
    obtain ⟨wd, x0, x1, x2, a0, a1, a2, hw, hv, q0, q1, q2, hp, q⟩ := h
    subst hv; subst hw
    exact ⟨t, PSs.nox ht, hq wd x0 x1 x2 a0 a1 a2 Q q0 q1 q2 hp q⟩
def spD4 {α0 α1 α2 α3 γ : Type} (K : PySem.W.Frag) (r0 : Rep α0) (r1 : Rep α1) (r2 : Rep α2) (r3 : Rep α3) (pre : α0 → α1 → α2 → α3 → Prop) (rc : Rep γ) (f : α0 → α1 → α2 → α3 → γ) : Sp := fun vs H Q _ => ∃ (wd : Wd) (x0 x1 x2 x3 : V) (a0 : α0) (a1 : α1) (a2 : α2) (a3 : α3), wd.H = H ∧ vs = [x0, x1, x2, x3] ∧ r0.r K wd.S x0 a0 ∧ r1.r K wd.S x1 a1 ∧ r2.r K wd.S x2 a2 ∧ r3.r K wd.S x3 a3 ∧ pre a0 a1 a2 a3 ∧ (∀ v w', Gr wd w' → rc.r K w'.S v (f a0 a1 a2 a3) → Q v w'.H)
theorem ev_call4 {α0 α1 α2 α3 γ : Type} {r0 : Rep α0} {r1 : Rep α1} {r2 : Rep α2} {r3 : Rep α3} {pre : α0 → α1 → α2 → α3 → Prop} {rc : Rep γ} {f : α0 → α1 → α2 → α3 → γ} {a0 : α0} {a1 : α1} {a2 : α2} {a3 : α3} {t0 t1 t2 t3 : TE} {σ : L2.St} {w : Wd} {K : PySem.W.Frag} {E : XK} (h0 : EvD K t0 σ w r0 a0) (h1 : EvD K t1 σ w r1 a1) (h2 : EvD K t2 σ w r2 a2) (h3 : EvD K t3 σ w r3 a3) (hp : pre a0 a1 a2 a3) : EvD K (tCall (spD4 K r0 r1 r2 r3 pre rc f) [] E (tCons t0 (tCons t1 (tCons t2 (tCons t3 tNil))))) σ w rc (f a0 a1 a2 a3) := fun w1 g Q q =>
  h0 w1 (g) _ fun v0 u0 k0 z0 => h1 u0 (g.trans k0) _ fun v1 u1 k1 z1 => h2 u1 ((g.trans k0).trans k1) _ fun v2 u2 k2 z2 => h3 u2 (((g.trans k0).trans k1).trans k2) _ fun v3 u3 k3 z3 => ⟨u3, _, _, _, _, _, _, _, _, rfl, rfl, r0.m (((k1.s).trans k2.s).trans k3.s) z0, r1.m ((k2.s).trans k3.s) z1, r2.m (k3.s) z2, z3, hp, fun v w' g' x => q v w' (((((k0).trans k1).trans k2).trans k3).trans g') x⟩
theorem okD4 {α0 α1 α2 α3 γ : Type} {r0 : Rep α0} {r1 : Rep α1} {r2 : Rep α2} {r3 : Rep α3} {pre : α0 → α1 → α2 → α3 → Prop} {rc : Rep γ} {f : α0 → α1 → α2 → α3 → γ} {P : Program} {w : World} {K : PySem.W.Frag} {mg : Str → Option Value} {base : Heap} {x qual : Str} {params : Arguments} {body : List Stmt} {scope : Scope} {dvs : List V} {kws : List (Str × V)} {fa : Addr} {fd : FuncData} {CX : CXT} {N ps : List Str} {k : Nat}
    (F : FunD K x qual params body scope dvs kws fa fd) (S : FnScope N ps scope) (hl : ps.length = 4)
    (hb : ∀ (cdv : Value) (A : Around) (outer : List Env) (s : Shared) (H : Hp) (E : XK), Room k (A.deeper (envOfC qual scope s.heap.objs.size fa cdv)) → ∃ t, PSs (cxOf CX P w K mg base N qual scope fa cdv A outer s H E).nox body t ∧
      ∀ (wd : Wd) (x0 : V) (x1 : V) (x2 : V) (x3 : V) (a0 : α0) (a1 : α1) (a2 : α2) (a3 : α3) (Q : VK), r0.r K wd.S x0 a0 → r1.r K wd.S x1 a1 → r2.r K wd.S x2 a2 → r3.r K wd.S x3 a3 → pre a0 a1 a2 a3 → (∀ v w', Gr wd w' → rc.r K w'.S v (f a0 a1 a2 a3) → Q v w'.H) → t { nx := fun _ H' => Q .non H', rt := Q } (start N [x0, x1, x2, x3]) wd.H) : FnOk P w K mg base CX (k + 1) fa fd ps (spD4 K r0 r1 r2 r3 pre rc f) :=
  FunD.ok F S (fun vs H Q E h => by obtain ⟨wd, x0, x1, x2, x3, a0, a1, a2, a3, hw, hv, _⟩ := h; rw [hl, hv] <;> rfl) fun cdv A outer s H vs Q E hr h => by
    obtain ⟨t, ht, hq⟩ := hb cdv A outer s H E hr
    obtain ⟨wd, x0, x1, x2, x3, a0, a1, a2, a3, hw, hv, q0, q1, q2, q3, hp, q⟩ := h
    subst hv; subst hw
    exact ⟨t, PSs.nox ht, hq wd x0 x1 x2 x3 a0 a1 a2 a3 Q q0 q1 q2 q3 hp q⟩
def spN4 {α0 α1 α2 α3 γ : Type} (K : PySem.W.Frag) (r0 : Rep α0) (r1 : Rep α1) (r2 : Rep α2) (r3 : Rep α3) (pre : α0 → α1 → α2 → α3 → Prop) (rc : Rep γ) (f : α0 → α1 → α2 → α3 → List γ) : Sp := fun vs H Q _ => ∃ (wd : Wd) (x0 x1 x2 x3 : V) (a0 : α0) (a1 : α1) (a2 : α2) (a3 : α3), wd.H = H ∧ vs = [x0, x1, x2, x3] ∧ r0.r K wd.S x0 a0 ∧ r1.r K wd.S x1 a1 ∧ r2.r K wd.S x2 a2 ∧ r3.r K wd.S x3 a3 ∧ pre a0 a1 a2 a3 ∧ (∀ p w', Gr wd w' → wd.H p = none → OwnL K w' p rc (f a0 a1 a2 a3) → Q (.ref p) w'.H)
theorem en_call4 {α0 α1 α2 α3 γ : Type} {r0 : Rep α0} {r1 : Rep α1} {r2 : Rep α2} {r3 : Rep α3} {pre : α0 → α1 → α2 → α3 → Prop} {rc : Rep γ} {f : α0 → α1 → α2 → α3 → List γ} {a0 : α0} {a1 : α1} {a2 : α2} {a3 : α3} {t0 t1 t2 t3 : TE} {σ : L2.St} {w : Wd} {K : PySem.W.Frag} {E : XK} (h0 : EvD K t0 σ w r0 a0) (h1 : EvD K t1 σ w r1 a1) (h2 : EvD K t2 σ w r2 a2) (h3 : EvD K t3 σ w r3 a3) (hp : pre a0 a1 a2 a3) : EvN K (tCall (spN4 K r0 r1 r2 r3 pre rc f) [] E (tCons t0 (tCons t1 (tCons t2 (tCons t3 tNil))))) σ w rc (f a0 a1 a2 a3) := fun w1 g Q q =>
  h0 w1 (g) _ fun v0 u0 k0 z0 => h1 u0 (g.trans k0) _ fun v1 u1 k1 z1 => h2 u1 ((g.trans k0).trans k1) _ fun v2 u2 k2 z2 => h3 u2 (((g.trans k0).trans k1).trans k2) _ fun v3 u3 k3 z3 => ⟨u3, _, _, _, _, _, _, _, _, rfl, rfl, r0.m (((k1.s).trans k2.s).trans k3.s) z0, r1.m ((k2.s).trans k3.s) z1, r2.m (k3.s) z2, z3, hp, fun p w' g' n x => q p w' (((((k0).trans k1).trans k2).trans k3).trans g') (fr_back ((((k0).trans k1).trans k2).trans k3) n) x⟩
theorem okN4 {α0 α1 α2 α3 γ : Type} {r0 : Rep α0} {r1 : Rep α1} {r2 : Rep α2} {r3 : Rep α3} {pre : α0 → α1 → α2 → α3 → Prop} {rc : Rep γ} {f : α0 → α1 → α2 → α3 → List γ} {P : Program} {w : World} {K : PySem.W.Frag} {mg : Str → Option Value} {base : Heap} {x qual : Str} {params : Arguments} {body : List Stmt} {scope : Scope} {dvs : List V} {kws : List (Str × V)} {fa : Addr} {fd : FuncData} {CX : CXT} {N ps : List Str} {k : Nat}
    (F : FunD K x qual params body scope dvs kws fa fd) (S : FnScope N ps scope) (hl : ps.length = 4)
    (hb : ∀ (cdv : Value) (A : Around) (outer : List Env) (s : Shared) (H : Hp) (E : XK), Room k (A.deeper (envOfC qual scope s.heap.objs.size fa cdv)) → ∃ t, PSs (cxOf CX P w K mg base N qual scope fa cdv A outer s H E).nox body t ∧
      ∀ (wd : Wd) (x0 : V) (x1 : V) (x2 : V) (x3 : V) (a0 : α0) (a1 : α1) (a2 : α2) (a3 : α3) (Q : VK), r0.r K wd.S x0 a0 → r1.r K wd.S x1 a1 → r2.r K wd.S x2 a2 → r3.r K wd.S x3 a3 → pre a0 a1 a2 a3 → (∀ p w', Gr wd w' → wd.H p = none → OwnL K w' p rc (f a0 a1 a2 a3) → Q (.ref p) w'.H) → t { nx := fun _ H' => Q .non H', rt := Q } (start N [x0, x1, x2, x3]) wd.H) : FnOk P w K mg base CX (k + 1) fa fd ps (spN4 K r0 r1 r2 r3 pre rc f) :=
  FunD.ok F S (fun vs H Q E h => by obtain ⟨wd, x0, x1, x2, x3, a0, a1, a2, a3, hw, hv, _⟩ := h; rw [hl, hv] <;> rfl) fun cdv A outer s H vs Q E hr h => by
    obtain ⟨t, ht, hq⟩ := hb cdv A outer s H E hr
    obtain ⟨wd, x0, x1, x2, x3, a0, a1, a2, a3, hw, hv, q0, q1, q2, q3, hp, q⟩ := h
    subst hv; subst hw
    exact ⟨t, PSs.nox ht, hq wd x0 x1 x2 x3 a0 a1 a2 a3 Q q0 q1 q2 q3 hp q⟩
def spD5 {α0 α1 α2 α3 α4 γ : Type} (K : PySem.W.Frag) (r0 : Rep α0) (r1 : Rep α1) (r2 : Rep α2) (r3 : Rep α3) (r4 : Rep α4) (pre : α0 → α1 → α2 → α3 → α4 → Prop) (rc : Rep γ) (f : α0 → α1 → α2 → α3 → α4 → γ) : Sp := fun vs H Q _ => ∃ (wd : Wd) (x0 x1 x2 x3 x4 : V) (a0 : α0) (a1 : α1) (a2 : α2) (a3 : α3) (a4 : α4), wd.H = H ∧ vs = [x0, x1, x2, x3, x4] ∧ r0.r K wd.S x0 a0 ∧ r1.r K wd.S x1 a1 ∧ r2.r K wd.S x2 a2 ∧ r3.r K wd.S x3 a3 ∧ r4.r K wd.S x4 a4 ∧ pre a0 a1 a2 a3 a4 ∧ (∀ v w', Gr wd w' → rc.r K w'.S v (f a0 a1 a2 a3 a4) → Q v w'.H)
theorem ev_call5 {α0 α1 α2 α3 α4 γ : Type} {r0 : Rep α0} {r1 : Rep α1} {r2 : Rep α2} {r3 : Rep α3} {r4 : Rep α4} {pre : α0 → α1 → α2 → α3 → α4 → Prop} {rc : Rep γ} {f : α0 → α1 → α2 → α3 → α4 → γ} {a0 : α0} {a1 : α1} {a2 : α2} {a3 : α3} {a4 : α4} {t0 t1 t2 t3 t4 : TE} {σ : L2.St} {w : Wd} {K : PySem.W.Frag} {E : XK} (h0 : EvD K t0 σ w r0 a0) (h1 : EvD K t1 σ w r1 a1) (h2 : EvD K t2 σ w r2 a2) (h3 : EvD K t3 σ w r3 a3) (h4 : EvD K t4 σ w r4 a4) (hp : pre a0 a1 a2 a3 a4) : EvD K (tCall (spD5 K r0 r1 r2 r3 r4 pre rc f) [] E (tCons t0 (tCons t1 (tCons t2 (tCons t3 (tCons t4 tNil)))))) σ w rc (f a0 a1 a2 a3 a4) := fun w1 g Q q =>
  h0 w1 (g) _ fun v0 u0 k0 z0 => h1 u0 (g.trans k0) _ fun v1 u1 k1 z1 => h2 u1 ((g.trans k0).trans k1) _ fun v2 u2 k2 z2 => h3 u2 (((g.trans k0).trans k1).trans k2) _ fun v3 u3 k3 z3 => h4 u3 ((((g.trans k0).trans k1).trans k2).trans k3) _ fun v4 u4 k4 z4 => ⟨u4, _, _, _, _, _, _, _, _, _, _, rfl, rfl, r0.m ((((k1.s).trans k2.s).trans k3.s).trans k4.s) z0, r1.m (((k2.s).trans k3.s).trans k4.s) z1, r2.m ((k3.s).trans k4.s) z2, r3.m (k4.s) z3, z4, hp, fun v w' g' x => q v w' ((((((k0).trans k1).trans k2).trans k3).trans k4).trans g') x⟩
theorem okD5 {α0 α1 α2 α3 α4 γ : Type} {r0 : Rep α0} {r1 : Rep α1} {r2 : Rep α2} {r3 : Rep α3} {r4 : Rep α4} {pre : α0 → α1 → α2 → α3 → α4 → Prop} {rc : Rep γ} {f : α0 → α1 → α2 → α3 → α4 → γ} {P : Program} {w : World} {K : PySem.W.Frag} {mg : Str → Option Value} {base : Heap} {x qual : Str} {params : Arguments} {body : List Stmt} {scope : Scope} {dvs : List V} {kws : List (Str × V)} {fa : Addr} {fd : FuncData} {CX : CXT} {N ps : List Str} {k : Nat}
    (F : FunD K x qual params body scope dvs kws fa fd) (S : FnScope N ps scope) (hl : ps.length = 5)
    (hb : ∀ (cdv : Value) (A : Around) (outer : List Env) (s : Shared) (H : Hp) (E : XK), Room k (A.deeper (envOfC qual scope s.heap.objs.size fa cdv)) → ∃ t, PSs (cxOf CX P w K mg base N qual scope fa cdv A outer s H E).nox body t ∧
      ∀ (wd : Wd) (x0 : V) (x1 : V) (x2 : V) (x3 : V) (x4 : V) (a0 : α0) (a1 : α1) (a2 : α2) (a3 : α3) (a4 : α4) (Q : VK), r0.r K wd.S x0 a0 → r1.r K wd.S x1 a1 → r2.r K wd.S x2 a2 → r3.r K wd.S x3 a3 → r4.r K wd.S x4 a4 → pre a0 a1 a2 a3 a4 → (∀ v w', Gr wd w' → rc.r K w'.S v (f a0 a1 a2 a3 a4) → Q v w'.H) → t { nx := fun _ H' => Q .non H', rt := Q } (start N [x0, x1, x2, x3, x4]) wd.H) : FnOk P w K mg base CX (k + 1) fa fd ps (spD5 K r0 r1 r2 r3 r4 pre rc f) :=
  FunD.ok F S (fun vs H Q E h => by obtain ⟨wd, x0, x1, x2, x3, x4, a0, a1, a2, a3, a4, hw, hv, _⟩ := h; rw [hl, hv] <;> rfl) fun cdv A outer s H vs Q E hr h => by
    obtain ⟨t, ht, hq⟩ := hb cdv A outer s H E hr
    obtain ⟨wd, x0, x1, x2, x3, x4, a0, a1, a2, a3, a4, hw, hv, q0, q1, q2, q3, q4, hp, q⟩ := h
    subst hv; subst hw
    exact ⟨t, PSs.nox ht, hq wd x0 x1 x2 x3 x4 a0 a1 a2 a3 a4 Q q0 q1 q2 q3 q4 hp q⟩
def spN5 {α0 α1 α2 α3 α4 γ : Type} (K : PySem.W.Frag) (r0 : Rep α0) (r1 : Rep α1) (r2 : Rep α2) (r3 : Rep α3) (r4 : Rep α4) (pre : α0 → α1 → α2 → α3 → α4 → Prop) (rc : Rep γ) (f : α0 → α1 → α2 → α3 → α4 → List γ) : Sp := fun vs H Q _ => ∃ (wd : Wd) (x0 x1 x2 x3 x4 : V) (a0 : α0) (a1 : α1) (a2 : α2) (a3 : α3) (a4 : α4), wd.H = H ∧ vs = [x0, x1, x2, x3, x4] ∧ r0.r K wd.S x0 a0 ∧ r1.r K wd.S x1 a1 ∧ r2.r K wd.S x2 a2 ∧ r3.r K wd.S x3 a3 ∧ r4.r K wd.S x4 a4 ∧ pre a0 a1 a2 a3 a4 ∧ (∀ p w', Gr wd w' → wd.H p = none → OwnL K w' p rc (f a0 a1 a2 a3 a4) → Q (.ref p) w'.H)
theorem en_call5 {α0 α1 α2 α3 α4 γ : Type} {r0 : Rep α0} {r1 : Rep α1} {r2 : Rep α2} {r3 : Rep α3} {r4 : Rep α4} {pre : α0 → α1 → α2 → α3 → α4 → Prop} {rc : Rep γ} {f : α0 → α1 → α2 → α3 → α4 → List γ} {a0 : α0} {a1 : α1} {a2 : α2} {a3 : α3} {a4 : α4} {t0 t1 t2 t3 t4 : TE} {σ : L2.St} {w : Wd} {K : PySem.W.Frag} {E : XK} (h0 : EvD K t0 σ w r0 a0) (h1 : EvD K t1 σ w r1 a1) (h2 : EvD K t2 σ w r2 a2) (h3 : EvD K t3 σ w r3 a3) (h4 : EvD K t4 σ w r4 a4) (hp : pre a0 a1 a2 a3 a4) : EvN K (tCall (spN5 K r0 r1 r2 r3 r4 pre rc f) [] E (tCons t0 (tCons t1 (tCons t2 (tCons t3 (tCons t4 tNil)))))) σ w rc (f a0 a1 a2 a3 a4) := fun w1 g Q q =>
  h0 w1 (g) _ fun v0 u0 k0 z0 => h1 u0 (g.trans k0) _ fun v1 u1 k1 z1 => h2 u1 ((g.trans k0).trans k1) _ fun v2 u2 k2 z2 => h3 u2 (((g.trans k0).trans k1).trans k2) _ fun v3 u3 k3 z3 => h4 u3 ((((g.trans k0).trans k1).trans k2).trans k3) _ fun v4 u4 k4 z4 => ⟨u4, _, _, _, _, _, _, _, _, _, _, rfl, rfl, r0.m ((((k1.s).trans k2.s).trans k3.s).trans k4.s) z0, r1.m (((k2.s).trans k3.s).trans k4.s) z1, r2.m ((k3.s).trans k4.s) z2, r3.m (k4.s) z3, z4, hp, fun p w' g' n x => q p w' ((((((k0).trans k1).trans k2).trans k3).trans k4).trans g') (fr_back (((((k0).trans k1).trans k2).trans k3).trans k4) n) x⟩
theorem okN5 {α0 α1 α2 α3 α4 γ : Type} {r0 : Rep α0} {r1 : Rep α1} {r2 : Rep α2} {r3 : Rep α3} {r4 : Rep α4} {pre : α0 → α1 → α2 → α3 → α4 → Prop} {rc : Rep γ} {f : α0 → α1 → α2 → α3 → α4 → List γ} {P : Program} {w : World} {K : PySem.W.Frag} {mg : Str → Option Value} {base : Heap} {x qual : Str} {params : Arguments} {body : List Stmt} {scope : Scope} {dvs : List V} {kws : List (Str × V)} {fa : Addr} {fd : FuncData} {CX : CXT} {N ps : List Str} {k : Nat}
    (F : FunD K x qual params body scope dvs kws fa fd) (S : FnScope N ps scope) (hl : ps.length = 5)
    (hb : ∀ (cdv : Value) (A : Around) (outer : List Env) (s : Shared) (H : Hp) (E : XK), Room k (A.deeper (envOfC qual scope s.heap.objs.size fa cdv)) → ∃ t, PSs (cxOf CX P w K mg base N qual scope fa cdv A outer s H E).nox body t ∧
      ∀ (wd : Wd) (x0 : V) (x1 : V) (x2 : V) (x3 : V) (x4 : V) (a0 : α0) (a1 : α1) (a2 : α2) (a3 : α3) (a4 : α4) (Q : VK), r0.r K wd.S x0 a0 → r1.r K wd.S x1 a1 → r2.r K wd.S x2 a2 → r3.r K wd.S x3 a3 → r4.r K wd.S x4 a4 → pre a0 a1 a2 a3 a4 → (∀ p w', Gr wd w' → wd.H p = none → OwnL K w' p rc (f a0 a1 a2 a3 a4) → Q (.ref p) w'.H) → t { nx := fun _ H' => Q .non H', rt := Q } (start N [x0, x1, x2, x3, x4]) wd.H) : FnOk P w K mg base CX (k + 1) fa fd ps (spN5 K r0 r1 r2 r3 r4 pre rc f) :=
  FunD.ok F S (fun vs H Q E h => by obtain ⟨wd, x0, x1, x2, x3, x4, a0, a1, a2, a3, a4, hw, hv, _⟩ := h; rw [hl, hv] <;> rfl) fun cdv A outer s H vs Q E hr h => by
    obtain ⟨t, ht, hq⟩ := hb cdv A outer s H E hr
    obtain ⟨wd, x0, x1, x2, x3, x4, a0, a1, a2, a3, a4, hw, hv, q0, q1, q2, q3, q4, hp, q⟩ := h
    subst hv; subst hw
    exact ⟨t, PSs.nox ht, hq wd x0 x1 x2 x3 x4 a0 a1 a2 a3 a4 Q q0 q1 q2 q3 q4 hp q⟩
def spD6 {α0 α1 α2 α3 α4 α5 γ : Type} (K : PySem.W.Frag) (r0 : Rep α0) (r1 : Rep α1) (r2 : Rep α2) (r3 : Rep α3) (r4 : Rep α4) (r5 : Rep α5) (pre : α0 → α1 → α2 → α3 → α4 → α5 → Prop) (rc : Rep γ) (f : α0 → α1 → α2 → α3 → α4 → α5 → γ) : Sp := fun vs H Q _ => ∃ (wd : Wd) (x0 x1 x2 x3 x4 x5 : V) (a0 : α0) (a1 : α1) (a2 : α2) (a3 : α3) (a4 : α4) (a5 : α5), wd.H = H ∧ vs = [x0, x1, x2, x3, x4, x5] ∧ r0.r K wd.S x0 a0 ∧ r1.r K wd.S x1 a1 ∧ r2.r K wd.S x2 a2 ∧ r3.r K wd.S x3 a3 ∧ r4.r K wd.S x4 a4 ∧ r5.r K wd.S x5 a5 ∧ pre a0 a1 a2 a3 a4 a5 ∧ (∀ v w', Gr wd w' → rc.r K w'.S v (f a0 a1 a2 a3 a4 a5) → Q v w'.H)
theorem ev_call6 {α0 α1 α2 α3 α4 α5 γ : Type} {r0 : Rep α0} {r1 : Rep α1} {r2 : Rep α2} {r3 : Rep α3} {r4 : Rep α4} {r5 : Rep α5} {pre : α0 → α1 → α2 → α3 → α4 → α5 → Prop} {rc : Rep γ} {f : α0 → α1 → α2 → α3 → α4 → α5 → γ} {a0 : α0} {a1 : α1} {a2 : α2} {a3 : α3} {a4 : α4} {a5 : α5} {t0 t1 t2 t3 t4 t5 : TE} {σ : L2.St} {w : Wd} {K : PySem.W.Frag} {E : XK} (h0 : EvD K t0 σ w r0 a0) (h1 : EvD K t1 σ w r1 a1) (h2 : EvD K t2 σ w r2 a2) (h3 : EvD K t3 σ w r3 a3) (h4 : EvD K t4 σ w r4 a4) (h5 : EvD K t5 σ w r5 a5) (hp : pre a0 a1 a2 a3 a4 a5) : EvD K (tCall (spD6 K r0 r1 r2 r3 r4 r5 pre rc f) [] E (tCons t0 (tCons t1 (tCons t2 (tCons t3 (tCons t4 (tCons t5 tNil))))))) σ w rc (f a0 a1 a2 a3 a4 a5) := fun w1 g Q q =>
  h0 w1 (g) _ fun v0 u0 k0 z0 => h1 u0 (g.trans k0) _ fun v1 u1 k1 z1 => h2 u1 ((g.trans k0).trans k1) _ fun v2 u2 k2 z2 => h3 u2 (((g.trans k0).trans k1).trans k2) _ fun v3 u3 k3 z3 => h4 u3 ((((g.trans k0).trans k1).trans k2).trans k3) _ fun v4 u4 k4 z4 => h5 u4 (((((g.trans k0).trans k1).trans k2).trans k3).trans k4) _ fun v5 u5 k5 z5 => ⟨u5, _, _, _, _, _, _, _, _, _, _, _, _, rfl, rfl, r0.m (((((k1.s).trans k2.s).trans k3.s).trans k4.s).trans k5.s) z0, r1.m ((((k2.s).trans k3.s).trans k4.s).trans k5.s) z1, r2.m (((k3.s).trans k4.s).trans k5.s) z2, r3.m ((k4.s).trans k5.s) z3, r4.m (k5.s) z4, z5, hp, fun v w' g' x => q v w' (((((((k0).trans k1).trans k2).trans k3).trans k4).trans k5).trans g') x⟩
theorem okD6 {α0 α1 α2 α3 α4 α5 γ : Type} {r0 : Rep α0} {r1 : Rep α1} {r2 : Rep α2} {r3 : Rep α3} {r4 : Rep α4} {r5 : Rep α5} {pre : α0 → α1 → α2 → α3 → α4 → α5 → Prop} {rc : Rep γ} {f : α0 → α1 → α2 → α3 → α4 → α5 → γ} {P : Program} {w : World} {K : PySem.W.Frag} {mg : Str → Option Value} {base : Heap} {x qual : Str} {params : Arguments} {body : List Stmt} {scope : Scope} {dvs : List V} {kws : List (Str × V)} {fa : Addr} {fd : FuncData} {CX : CXT} {N ps : List Str} {k : Nat}
    (F : FunD K x qual params body scope dvs kws fa fd) (S : FnScope N ps scope) (hl : ps.length = 6)
    (hb : ∀ (cdv : Value) (A : Around) (outer : List Env) (s : Shared) (H : Hp) (E : XK), Room k (A.deeper (envOfC qual scope s.heap.objs.size fa cdv)) → ∃ t, PSs (cxOf CX P w K mg base N qual scope fa cdv A outer s H E).nox body t ∧
      ∀ (wd : Wd) (x0 : V) (x1 : V) (x2 : V) (x3 : V) (x4 : V) (x5 : V) (a0 : α0) (a1 : α1) (a2 : α2) (a3 : α3) (a4 : α4) (a5 : α5) (Q : VK), r0.r K wd.S x0 a0 → r1.r K wd.S x1 a1 → r2.r K wd.S x2 a2 → r3.r K wd.S x3 a3 → r4.r K wd.S x4 a4 → r5.r K wd.S x5 a5 → pre a0 a1 a2 a3 a4 a5 → (∀ v w', Gr wd w' → rc.r K w'.S v (f a0 a1 a2 a3 a4 a5) → Q v w'.H) → t { nx := fun _ H' => Q .non H', rt := Q } (start N [x0, x1, x2, x3, x4, x5]) wd.H) : FnOk P w K mg base CX (k + 1) fa fd ps (spD6 K r0 r1 r2 r3 r4 r5 pre rc f) :=
  FunD.ok F S (fun vs H Q E h => by obtain ⟨wd, x0, x1, x2, x3, x4, x5, a0, a1, a2, a3, a4, a5, hw, hv, _⟩ := h; rw [hl, hv] <;> rfl) fun cdv A outer s H vs Q E hr h => by
    obtain ⟨t, ht, hq⟩ := hb cdv A outer s H E hr
    obtain ⟨wd, x0, x1, x2, x3, x4, x5, a0, a1, a2, a3, a4, a5, hw, hv, q0, q1, q2, q3, q4, q5, hp, q⟩ := h
    subst hv; subst hw
    exact ⟨t, PSs.nox ht, hq wd x0 x1 x2 x3 x4 x5 a0 a1 a2 a3 a4 a5 Q q0 q1 q2 q3 q4 q5 hp q⟩
def spN6 {α0 α1 α2 α3 α4 α5 γ : Type} (K : PySem.W.Frag) (r0 : Rep α0) (r1 : Rep α1) (r2 : Rep α2) (r3 : Rep α3) (r4 : Rep α4) (r5 : Rep α5) (pre : α0 → α1 → α2 → α3 → α4 → α5 → Prop) (rc : Rep γ) (f : α0 → α1 → α2 → α3 → α4 → α5 → List γ) : Sp := fun vs H Q _ => ∃ (wd : Wd) (x0 x1 x2 x3 x4 x5 : V) (a0 : α0) (a1 : α1) (a2 : α2) (a3 : α3) (a4 : α4) (a5 : α5), wd.H = H ∧ vs = [x0, x1, x2, x3, x4, x5] ∧ r0.r K wd.S x0 a0 ∧ r1.r K wd.S x1 a1 ∧ r2.r K wd.S x2 a2 ∧ r3.r K wd.S x3 a3 ∧ r4.r K wd.S x4 a4 ∧ r5.r K wd.S x5 a5 ∧ pre a0 a1 a2 a3 a4 a5 ∧ (∀ p w', Gr wd w' → wd.H p = none → OwnL K w' p rc (f a0 a1 a2 a3 a4 a5) → Q (.ref p) w'.H)
theorem en_call6 {α0 α1 α2 α3 α4 α5 γ : Type} {r0 : Rep α0} {r1 : Rep α1} {r2 : Rep α2} {r3 : Rep α3} {r4 : Rep α4} {r5 : Rep α5} {pre : α0 → α1 → α2 → α3 → α4 → α5 → Prop} {rc : Rep γ} {f : α0 → α1 → α2 → α3 → α4 → α5 → List γ} {a0 : α0} {a1 : α1} {a2 : α2} {a3 : α3} {a4 : α4} {a5 : α5} {t0 t1 t2 t3 t4 t5 : TE} {σ : L2.St} {w : Wd} {K : PySem.W.Frag} {E : XK} (h0 : EvD K t0 σ w r0 a0) (h1 : EvD K t1 σ w r1 a1) (h2 : EvD K t2 σ w r2 a2) (h3 : EvD K t3 σ w r3 a3) (h4 : EvD K t4 σ w r4 a4) (h5 : EvD K t5 σ w r5 a5) (hp : pre a0 a1 a2 a3 a4 a5) : EvN K (tCall (spN6 K r0 r1 r2 r3 r4 r5 pre rc f) [] E (tCons t0 (tCons t1 (tCons t2 (tCons t3 (tCons t4 (tCons t5 tNil))))))) σ w rc (f a0 a1 a2 a3 a4 a5) := fun w1 g Q q =>
  h0 w1 (g) _ fun v0 u0 k0 z0 => h1 u0 (g.trans k0) _ fun v1 u1 k1 z1 => h2 u1 ((g.trans k0).trans k1) _ fun v2 u2 k2 z2 => h3 u2 (((g.trans k0).trans k1).trans k2) _ fun v3 u3 k3 z3 => h4 u3 ((((g.trans k0).trans k1).trans k2).trans k3) _ fun v4 u4 k4 z4 => h5 u4 (((((g.trans k0).trans k1).trans k2).trans k3).trans k4) _ fun v5 u5 k5 z5 => ⟨u5, _, _, _, _, _, _, _, _, _, _, _, _, rfl, rfl, r0.m (((((k1.s).trans k2.s).trans k3.s).trans k4.s).trans k5.s) z0, r1.m ((((k2.s).trans k3.s).trans k4.s).trans k5.s) z1, r2.m (((k3.s).trans k4.s).trans k5.s) z2, r3.m ((k4.s).trans k5.s) z3, r4.m (k5.s) z4, z5, hp, fun p w' g' n x => q p w' (((((((k0).trans k1).trans k2).trans k3).trans k4).trans k5).trans g') (fr_back ((((((k0).trans k1).trans k2).trans k3).trans k4).trans k5) n) x⟩
theorem okN6 {α0 α1 α2 α3 α4 α5 γ : Type} {r0 : Rep α0} {r1 : Rep α1} {r2 : Rep α2} {r3 : Rep α3} {r4 : Rep α4} {r5 : Rep α5} {pre : α0 → α1 → α2 → α3 → α4 → α5 → Prop} {rc : Rep γ} {f : α0 → α1 → α2 → α3 → α4 → α5 → List γ} {P : Program} {w : World} {K : PySem.W.Frag} {mg : Str → Option Value} {base : Heap} {x qual : Str} {params : Arguments} {body : List Stmt} {scope : Scope} {dvs : List V} {kws : List (Str × V)} {fa : Addr} {fd : FuncData} {CX : CXT} {N ps : List Str} {k : Nat}
    (F : FunD K x qual params body scope dvs kws fa fd) (S : FnScope N ps scope) (hl : ps.length = 6)
    (hb : ∀ (cdv : Value) (A : Around) (outer : List Env) (s : Shared) (H : Hp) (E : XK), Room k (A.deeper (envOfC qual scope s.heap.objs.size fa cdv)) → ∃ t, PSs (cxOf CX P w K mg base N qual scope fa cdv A outer s H E).nox body t ∧
      ∀ (wd : Wd) (x0 : V) (x1 : V) (x2 : V) (x3 : V) (x4 : V) (x5 : V) (a0 : α0) (a1 : α1) (a2 : α2) (a3 : α3) (a4 : α4) (a5 : α5) (Q : VK), r0.r K wd.S x0 a0 → r1.r K wd.S x1 a1 → r2.r K wd.S x2 a2 → r3.r K wd.S x3 a3 → r4.r K wd.S x4 a4 → r5.r K wd.S x5 a5 → pre a0 a1 a2 a3 a4 a5 → (∀ p w', Gr wd w' → wd.H p = none → OwnL K w' p rc (f a0 a1 a2 a3 a4 a5) → Q (.ref p) w'.H) → t { nx := fun _ H' => Q .non H', rt := Q } (start N [x0, x1, x2, x3, x4, x5]) wd.H) : FnOk P w K mg base CX (k + 1) fa fd ps (spN6 K r0 r1 r2 r3 r4 r5 pre rc f) :=
  FunD.ok F S (fun vs H Q E h => by obtain ⟨wd, x0, x1, x2, x3, x4, x5, a0, a1, a2, a3, a4, a5, hw, hv, _⟩ := h; rw [hl, hv] <;> rfl) fun cdv A outer s H vs Q E hr h => by
    obtain ⟨t, ht, hq⟩ := hb cdv A outer s H E hr
    obtain ⟨wd, x0, x1, x2, x3, x4, x5, a0, a1, a2, a3, a4, a5, hw, hv, q0, q1, q2, q3, q4, q5, hp, q⟩ := h
    subst hv; subst hw
    exact ⟨t, PSs.nox ht, hq wd x0 x1 x2 x3 x4 x5 a0 a1 a2 a3 a4 a5 Q q0 q1 q2 q3 q4 q5 hp q⟩
section
variable {K : PySem.W.Frag} {σ : L2.St} {w w' : Wd} {ta tb tc te tl : TE} {t u : TT} {α β γ δ : Type} {r : Rep α} {rb : Rep β} {rc : Rep γ} {a : α} {e : Rep α} {l : List α} {D : Ends} {tu tw tz tb : TS} {g : TG}
/-! loops whose target is a name, is a pair of names -/
theorem s_for {wi : TI} {j : Nat} (h : EvI K wi σ w e l) (I : Nat → L2.St → Wd → Prop) (h0 : ∀ w1, Gr w w1 → I 0 σ w1)
    (hs : ∀ i a v σ' w' w2, l[i]? = some a → Ex w.S w'.S → I i σ' w' → Gr w' w2 → e.r K w2.S v a → tb { D with nx := Nxt (I (i + 1)) w', ct := Nxt (I (i + 1)) w', bk := D.nx } (σ'.set j (some v)) w2.H)
    (hd : ∀ σ' w', Ex w.S w'.S → I l.length σ' w' → D.nx σ' w'.H) : tFor wi (gName j) tb D σ w.H := for_core h I h0 hs hd
theorem q_for {wi : TI} {j : Nat} (h : EvI K wi σ w e l) (I : Nat → L2.St → Wd → Prop) (h0 : ∀ w1, Gr w w1 → I 0 σ w1)
    (hs : ∀ i a v σ' w' w2, l[i]? = some a → Ex w.S w'.S → I i σ' w' → Gr w' w2 → e.r K w2.S v a → tb { D with nx := Nxt (I (i + 1)) w', ct := Nxt (I (i + 1)) w', bk := tz D } (σ'.set j (some v)) w2.H)
    (hd : ∀ σ' w', Ex w.S w'.S → I l.length σ' w' → tz D σ' w'.H) : tSeq (tFor wi (gName j) tb) tz D σ w.H := for_core (D := { D with nx := tz D }) h I h0 hs hd
theorem s_for2 {wi : TI} {i j n : Nat} {l : List (α × β)} (h : EvI K wi σ w (Rep.pair e rb) l) (hn : n = 2) (I : Nat → L2.St → Wd → Prop) (h0 : ∀ w1, Gr w w1 → I 0 σ w1)
    (hs : ∀ m a v v' σ' w' w2, l[m]? = some a → Ex w.S w'.S → I m σ' w' → Gr w' w2 → e.r K w2.S v a.1 → rb.r K w2.S v' a.2 → tb { D with nx := Nxt (I (m + 1)) w', ct := Nxt (I (m + 1)) w', bk := D.nx } ((σ'.set i (some v)).set j (some v')) w2.H)
    (hd : ∀ σ' w', Ex w.S w'.S → I l.length σ' w' → D.nx σ' w'.H) : tFor wi (gTup K n (gCons (gName i) (gCons (gName j) gNil))) tb D σ w.H :=
  for_core h I h0 (fun m a v σ' w' w2 x1 x2 x3 x4 x5 => g_pair x5 hn fun v1 v2 y1 y2 => hs m a v1 v2 σ' w' w2 x1 x2 x3 x4 y1 y2) hd
theorem q_for2 {wi : TI} {i j n : Nat} {l : List (α × β)} (h : EvI K wi σ w (Rep.pair e rb) l) (hn : n = 2) (I : Nat → L2.St → Wd → Prop) (h0 : ∀ w1, Gr w w1 → I 0 σ w1)
    (hs : ∀ m a v v' σ' w' w2, l[m]? = some a → Ex w.S w'.S → I m σ' w' → Gr w' w2 → e.r K w2.S v a.1 → rb.r K w2.S v' a.2 → tb { D with nx := Nxt (I (m + 1)) w', ct := Nxt (I (m + 1)) w', bk := tz D } ((σ'.set i (some v)).set j (some v')) w2.H)
    (hd : ∀ σ' w', Ex w.S w'.S → I l.length σ' w' → tz D σ' w'.H) : tSeq (tFor wi (gTup K n (gCons (gName i) (gCons (gName j) gNil))) tb) tz D σ w.H :=
  s_for2 (D := { D with nx := tz D }) h hn I h0 hs hd
/-- while, by a word and a number that falls -/
def Wht (I : Nat → L2.St → Wd → Prop) (m : Nat) : L2.St → Hp → Prop := fun σ H => ∃ w' : Wd, w'.H = H ∧ ∃ m', m' < m ∧ I m' σ w'
theorem s_while (I : Nat → L2.St → Wd → Prop) (m0 : Nat) (h0 : I m0 σ w)
    (hs : ∀ m σ' w', I m σ' w' → ∃ b, EvT K t σ' w' b ∧ (b = true → ∀ w1, Gr w' w1 → tb { D with nx := Wht I m, ct := Wht I m, bk := D.nx } σ' w1.H) ∧ (b = false → ∀ w1, Gr w' w1 → D.nx σ' w1.H)) : tWhile t tb D σ w.H :=
  ⟨fun m σ H => ∃ w' : Wd, w'.H = H ∧ I m σ w', ⟨m0, w, rfl, h0⟩, fun m σ' H hw => by
    obtain ⟨w', rfl, hI⟩ := hw
    obtain ⟨b, hb, h1, h2⟩ := hs m σ' w' hI
    refine hb.run fun w1 g1 => ?_
    cases b with
    | true => exact ⟨Wht I m, fun σ2 H2 hN => by obtain ⟨w2, e2, m', lt, i2⟩ := hN; exact ⟨m', lt, w2, e2, i2⟩, h1 rfl w1 g1⟩
    | false => exact h2 rfl w1 g1⟩
theorem q_while (I : Nat → L2.St → Wd → Prop) (m0 : Nat) (h0 : I m0 σ w)
    (hs : ∀ m σ' w', I m σ' w' → ∃ b, EvT K t σ' w' b ∧ (b = true → ∀ w1, Gr w' w1 → tb { D with nx := Wht I m, ct := Wht I m, bk := tz D } σ' w1.H) ∧ (b = false → ∀ w1, Gr w' w1 → tz D σ' w1.H)) : tSeq (tWhile t tb) tz D σ w.H :=
  s_while (D := { D with nx := tz D }) I m0 h0 hs
theorem nxt {I : L2.St → Wd → Prop} {w w' : Wd} {σ : L2.St} (e : Ex w.S w'.S) (h : I σ w') : Nxt I w σ w'.H := ⟨w', rfl, e, h⟩
theorem wht {I : Nat → L2.St → Wd → Prop} {m m' : Nat} {w' : Wd} {σ : L2.St} (e : m' < m) (h : I m' σ w') : Wht I m σ w'.H := ⟨w', rfl, m', e, h⟩
end
end WK

/-! WK, part 4: rules that the layer lacks: powers of great ints, slices by a step, xs[i] op= e, keywords alone, repr, isinstance of plain values; equality of data. -/
namespace WK
open PySem PySem.Spec PyProof.Rows L2
section
variable {X : Cx}
/-- a power of a great int -/
def CPowW (i j : Int) : Prop := 0 ≤ j ∧ ((Builtin.Int.intBits i : Nat) : Int) * j ≤ 134217728
theorem op_powW : OpR X (binaryOp .Pow) (rI CPowW fun i j => .int (i ^ j.toNat)) :=
  opI fun i j t u s Q E hc q => pow_int hc.1 (Int.le_trans hc.2 (by decide)) q
theorem pow_ok {i j : Int} {n : Nat} (h0 : 0 ≤ j) (hb : i.natAbs < 2 ^ n) (hn : 0 < n) (hj : ((n : Nat) : Int) * j ≤ 134217728) : CPowW i j := by
  refine ⟨h0, Int.le_trans ?_ hj⟩
  refine Int.mul_le_mul_of_nonneg_right ?_ h0
  have h1 := PySem.Flt.log2_lt_of hn hb
  unfold Builtin.Int.intBits
  split <;> omega
/-- a[i], by values -/
theorem get_list : PGet X (rIxL X.K) := by
  intro pins s σ H o i ov iv Q I ro ri h
  obtain ⟨p, xs, k, v, rfl, rfl, hs, hv, q⟩ := h
  cases ro
  obtain ⟨t, rfl⟩ := ri
  obtain ⟨its, rr, pl, hz⟩ := I.list hs
  obtain ⟨j, j1, j2, j3, j4, j5⟩ := atI_get hv
  obtain ⟨u, hu, ru⟩ := rr.get j2
  have hl := rr.length
  have hn := line63
  have fin : EP X pins σ Q u s := ⟨v, H, I, ru, q⟩
  by_cases h0 : 0 ≤ k
  · have hj : k.toNat = j := by
      rw [seqIndex_of h0 j5] at j1
      exact Option.some.inj j1
    exact wpAny_getItem_list pl.isList h0 (by omega) (by rw [hj]; simpa using hu) fin
  · have hj : (k + (its.toArray.size : Int)).toNat = j := by
      rw [seqIndex_neg (by omega) j4] at j1
      rw [List.size_toArray, ← hl]
      exact Option.some.inj j1
    exact wpAny_getItem_list_neg pl.isList (by omega) (by rw [List.size_toArray] <;> omega) (by omega) (by rw [hj]; simpa using hu) fin
/-- what of a list stands at lo, lo + c, .. -/
def stepV {α : Type} (l : List α) (lo c : Nat) : List α := ((List.range l.length).map fun k => lo + c * k).filterMap (l[·]?)
theorem filterMap_cut {α : Type} (l : List α) (lo c : Nat) (hc : 0 < c) : ∀ n, (l.length + c - 1 - lo) / c ≤ n → ((List.range n).map fun k => lo + c * k).filterMap (l[·]?) = ((List.range ((l.length + c - 1 - lo) / c)).map fun k => lo + c * k).filterMap (l[·]?) := by
  intro n hn
  induction n with
  | zero => rw [Nat.le_zero.mp hn]
  | succ n ih =>
    by_cases h : (l.length + c - 1 - lo) / c ≤ n
    · rw [List.range_succ, List.map_append, List.filterMap_append, ih h]
      have : l.length ≤ lo + c * n := by
        have h1 : l.length + c - 1 - lo < c * (n + 1) := by
          have := Nat.lt_mul_div_succ (l.length + c - 1 - lo) hc
          exact Nat.lt_of_lt_of_le this (Nat.mul_le_mul_left _ (by omega))
        rw [Nat.mul_add] at h1
        omega
      simp [List.getElem?_eq_none this]
    · have : (l.length + c - 1 - lo) / c = n + 1 := by omega
      rw [this]
theorem paired_filterMap {α : Type} {F : V → α → Prop} {xs : List V} {l : List α} (h : Paired F xs l) : ∀ ns : List Nat, Paired F (ns.filterMap (xs[·]?)) (ns.filterMap (l[·]?))
  | [] => .nil
  | n :: ns => by
    have ih := paired_filterMap h ns
    cases q : l[n]? with
    | none =>
      have q2 : xs[n]? = none := List.getElem?_eq_none (by rw [paired_len h]; exact List.getElem?_eq_none_iff.mp q)
      rw [List.filterMap_cons, List.filterMap_cons, q, q2]; exact ih
    | some a =>
      obtain ⟨v, q2, r⟩ := paired_get h q
      rw [List.filterMap_cons, List.filterMap_cons, q, q2]; exact .cons r ih
theorem vals_filterMap {xs : List V} {us : List Value} (h : Vals xs us) : ∀ ns : List Nat, Vals (ns.filterMap (xs[·]?)) (ns.filterMap (us[·]?))
  | [] => .nil
  | n :: ns => by
    have ih := vals_filterMap h ns
    cases q : xs[n]? with
    | none => rw [List.filterMap_cons, List.filterMap_cons, q, h.none_of q]; exact ih
    | some a =>
      obtain ⟨v, q2, r⟩ := h.get q
      rw [List.filterMap_cons, List.filterMap_cons, q, q2]; exact .cons r ih
theorem stepV_len {α : Type} (l : List α) (lo c : Nat) : (stepV l lo c).length ≤ l.length := by
  unfold stepV
  refine Nat.le_trans (List.length_filterMap_le _ _) ?_
  simp
def tStep (K : PySem.W.Frag) (te : TE) (tl ts : TO) : TE := fun σ H Q => te σ H fun x H1 => tl σ H1 fun l H2 => ts σ H2 fun o H3 =>
  ∃ a xs, ∃ lo c : Nat, x = .ref a ∧ l = some (lo : Int) ∧ o = some (c : Int) ∧ 0 < c ∧ c < 1000000 ∧ lo ≤ xs.length ∧ SqL K H3 a xs ∧ ∀ p, H3 p = none → Q (.ref p) (upd H3 p (.lst (stepV xs lo c)))
theorem pick_step {us : List Value} {lo c : Nat} (hc : 0 < c) (hlo : lo ≤ us.length) : (slicePick us.toArray (some (lo : Int)) none (some (c : Int))) = (stepV us lo c).toArray := by
  unfold slicePick
  congr 1
  have e1 : (sliceBounds (some (lo : Int)) none (some (c : Int)) us.toArray.size) = ((lo : Int), (us.length : Int), (c : Int)) := by
    unfold sliceBounds
    simp only [Option.getD_some, List.size_toArray]
    rw [if_pos (show (c : Int) > 0 by omega), if_pos (show (c : Int) > 0 by omega)]
    have : ¬ ((lo : Int) < 0) := by omega
    simp only [this, if_false]
    congr 1
    omega
  rw [e1]
  have e2 : sliceRange (lo : Int) (us.length : Int) (c : Int) = (List.range ((us.length + c - 1 - lo) / c)).map fun k => lo + c * k := by
    unfold sliceRange
    simp only []
    rw [if_pos (show (c : Int) > 0 by omega)]
    have e3 : (if (lo : Int) < (us.length : Int) then ((us.length : Int) - (lo : Int) + (c : Int) - 1) / (c : Int) else 0).toNat = (us.length + c - 1 - lo) / c := by
      by_cases h : (lo : Int) < (us.length : Int)
      · rw [if_pos h]
        have : ((us.length : Int) - (lo : Int) + (c : Int) - 1) = ((us.length + c - 1 - lo : Nat) : Int) := by omega
        rw [this, ← Int.natCast_ediv, Int.toNat_natCast]
      · rw [if_neg h]
        have : us.length + c - 1 - lo = c - 1 := by omega
        rw [this, Nat.div_eq_of_lt (by omega)]; rfl
    rw [e3]
    refine List.map_congr_left fun k _ => ?_
    have : (lo : Int) + (c : Int) * (k : Int) = ((lo + c * k : Nat) : Int) := by simp
    rw [this, Int.toNat_natCast]
  rw [e2]
  unfold stepV
  rw [filterMap_cut us lo c hc us.length (by
    rcases Nat.eq_zero_or_pos us.length with h | h
    · rw [h, Nat.div_eq_of_lt (by omega)]; exact Nat.zero_le _
    · refine Nat.div_le_of_le_mul ?_
      have h2 : (c - 1) * (us.length - 1) + us.length + c - 1 = c * us.length := by
        obtain ⟨c', rfl⟩ : ∃ c', c = c' + 1 := ⟨c - 1, by omega⟩
        obtain ⟨n', hn'⟩ : ∃ n', us.length = n' + 1 := ⟨us.length - 1, by omega⟩
        rw [hn']
        simp only [Nat.add_sub_cancel, Nat.add_mul, Nat.mul_add, Nat.one_mul, Nat.mul_one]
        omega
      omega)]
  refine congrArg (fun f => List.filterMap f _) (funext fun i => ?_)
  simp
/-- xs[lo::c] -/
theorem pe_step {e a b : Expr} {te : TE} {tl ts : TO} {p2 pos : Pos} (he : PE X e te) (ha : PO X (some a) tl) (hb : PO X (some b) ts)
    (hsub : ∀ (x y : Value), subscripted (.Slice (some a) none (some b) p2) false x y = operate [x, y] (getItem x y) := by intros; rfl) : PE X (.Subscript e (.Slice (some a) none (some b) p2) pos) (tStep X.K te tl ts) := by
  refine ⟨fun pins s σ H Q I h => ?_⟩
  refine Subscript_ (thn (he.run pins s σ H _ I h) fun v s1 ⟨x, H1, I1, r1, q1⟩ => ?_)
  refine wpAny_Slice (thn (ha.run pins s1 σ H1 _ I1 q1) fun vl s2 ⟨l, H2, I2, pl, q2⟩ => ?_)
  refine thn (po_none.run pins s2 σ H2 (fun o H3 => o = none ∧ H3 = H2) I2 ⟨rfl, rfl⟩) fun vu s3 ⟨u, H3, I3, pu, eu, e3⟩ => ?_
  subst eu; subst e3
  refine thn (hb.run pins s3 σ H3 _ I3 q2) fun vs s4 ⟨o, H4, I4, ps, q4⟩ => ?_
  obtain ⟨p, xs, lo, c, ex, el, eo, hc, hc2, hlo, hx, q⟩ := q4
  subst ex; subst el; subst eo
  cases r1
  have I5 : Inv X pins σ H4 { s4 with heap := s4.heap.push { cls := .type "slice", data := .fields #[vl, vu, vs] } } := I4.kept (t' := s4.toks) fun b ob q => Heap.get?_push_of_some _ q
  obtain ⟨its, r, ht, hz⟩ := I5.list hx
  have hlen := r.length
  refine tail_any (ops := [.ref p, .ref s4.heap.objs.size]) ht.isList.typeIs (PySem.slot_list_getitem.lookup) ?_ (hsub _ _)
  refine wpAny_getItem_list_slice ht.isList (Heap.IsSliceOf.new _ vl vu vs) pl pu ps (by intro z; have := Option.some.inj z; omega) ?_ (by rw [List.size_toArray]; omega)
  rw [pick_step hc (by omega)]
  refine ⟨.ref _, _, I5.laid (t' := s4.toks) (o := .lst (stepV xs lo c)) (fun b ob q => Heap.get?_push_of_some _ q) (Nat.le_refl _) ?_, rfl, q _ (I5.hok.fresh (Nat.le_refl _))⟩
  refine ⟨Nat.le_trans (stepV_len xs lo c) hz, stepV its lo c, 0, ?_, Heap.get?_push_size _ rfl⟩
  unfold stepV
  rw [hlen]
  exact vals_filterMap r _
end
end WK

/-! WK, part 5: defs that lean on what runs around them (repr asks whether it runs within itself): their promise, their call, the law's own call; keywords alone; repr; isinstance. -/
namespace WK
open PySem PySem.Spec PyProof.Rows L2

/-- a def's promise where no repr runs around -/
structure FnG (P : Program) (w : World) (K : PySem.W.Frag) (mg : Str → Option Value) (base : Heap) (CX : CXT) (k : Nat) (f : Addr) (fd : FuncData) (ps : List Str) (sp : Sp) : Prop where
  len : ∀ vs H Q E, sp vs H Q E → vs.length = ps.length
  go : ∀ (A : Around) (out : List Env) (s : Shared) (H : Hp) (args : Args) (us : List Value) (vs : List V) (Q : VK) (E : XK), Room k A → A.guards = some [] →
    Env0 P w K mg base A out s H → BindsTo s fd args (ps.zip us) → Vals vs us → sp vs H Q E → codeAny (model P w) A (.call (.ref f) args) (CR CX out P w H s Q E) s
theorem FnG.of {P : Program} {w : World} {K : PySem.W.Frag} {mg : Str → Option Value} {base : Heap} {CX : CXT} {k : Nat} {f : Addr} {fd : FuncData} {ps : List Str} {sp : Sp}
    (F : FnOk P w K mg base CX k f fd ps sp) : FnG P w K mg base CX k f fd ps sp := ⟨F.len, fun A out s H args us vs Q E hr _ => F.run A out s H args us vs Q E hr⟩
section
variable {P : Program} {w : World} {K : PySem.W.Frag} {mg : Str → Option Value} {base : Heap} {x qual : Str} {params : Arguments} {body : List Stmt} {scope : Scope} {dvs : List V} {kws : List (Str × V)} {f : Addr} {fd : FuncData}
theorem okG {CX : CXT} {N ps : List Str} {k : Nat} {sp : Sp} (F : FunD K x qual params body scope dvs kws f fd) (S : FnScope N ps scope) (len : ∀ vs H Q E, sp vs H Q E → vs.length = ps.length)
    (hb : ∀ (cdv : Value) (A : Around) (out : List Env) (s : Shared) (H : Hp) (vs : List V) (Q : VK) (E : XK), Room k (A.deeper (envOfC qual scope s.heap.objs.size f cdv)) → A.guards = some [] → sp vs H Q E →
      ∃ t, PSs (cxOf CX P w K mg base N qual scope f cdv A out s H E) body t ∧ t { nx := fun _ H' => Q .non H', rt := Q } (start N vs) H) : FnG P w K mg base CX (k + 1) f fd ps sp := by
  obtain ⟨oc, od, dV, kV, doc, pm, an, cdv, ct, osl, rfl, lk, hcd, _, _⟩ := F.ex
  refine ⟨len, fun A out s H args us vs Q E hr hg e0 hbd r hsp => ?_⟩
  have kept : ∀ b o, base.get? b = some o → s.heap.get? b = some o := fun b o e => (e0.bs b o e).1
  have KX := e0.mod.kin.keeps kept
  have how : ∀ y ∈ ps.zip us, scope.names.lookup y.1 = some .local ∨ (scope.names.lookup y.1 = some .cell ∧ ((cellsFrom (s.heap.objs.size + 1) scope.names []).lookup y.1).isSome = true) := by
    intro y hy
    cases S.par y.1 (List.of_mem_zip (a := y.1) (b := y.2) hy).1 with
    | inl q => exact Or.inl q
    | inr q => exact Or.inr ⟨q, PySem.W.cellsFrom_some _ _ _ (Or.inl q)⟩
  refine codeAny_call_function hr.depth (KX _ _ lk) rfl S.co S.gen rfl (PySem.W.codeRec_of KX hcd) (hbd _ _ _ _ (wpAny_newFunctionEnv_cells S.kind how fun env he s1 y => ?_))
  subst he
  refine ⟨(e0.mod.nolimit.keeps kept).keeps y.toInCall.keep, codeAny_func ?_⟩
  obtain ⟨t, ht, hq⟩ := hb cdv A out s H vs Q E (hr.deeper _) hg hsp
  have I := inv_start (CX := CX) (E := E) (N := N) S hr.hd e0 (len _ _ _ _ hsp) r y
  refine wpAny_mono (ht.run [] s1 (start N vs) H _ I hq) (fun fl s' hs => ?_) fun _ _ hs => hs
  cases fl with
  | ret u =>
    obtain ⟨v, _, H', J, rv, q⟩ := hs
    exact ⟨v, H', J.os, J.bare, J.base, J.hok, rv, q⟩
  | next =>
    obtain ⟨_, H', J, q⟩ := hs
    exact ⟨V.non, H', J.os, J.bare, J.base, J.hok, rfl, q⟩
  | brk => obtain ⟨_, _, _, q⟩ := hs; exact q.elim
  | cont => obtain ⟨_, _, _, q⟩ := hs; exact q.elim
end
section
variable {X : Cx} {CX : CXT} {k : Nat} {f : Addr} {fd : FuncData} {ps : List Str} {sp : Sp} {dvs : List V} {ds : List Value} {E : XK} {x : Str} {p pos : Pos} {e : Expr} {es : List Expr} {t : TA}
theorem pe_callG (F : FnG X.prog X.w X.K X.mg X.base CX k f fd ps sp) (hgd : X.A.guards = some []) (hr : Room k X.A) (hg : Gl X x) (hm : X.mg x = some (.ref f)) (hk : PySem.W.keepIn X.K (.ref f) = true) (hb : Binds X.K fd ps ds) (hd : Vals dvs ds) (hx : Passes CX X E)
    (ha : PA X (e :: es) t) (hdb : (x == ("__debug__" : Str)) = false := by decide) (he : starEach (e :: es) X.env = (false, eval e X.env) :: starEach es X.env := by rfl)
    (hpl : (backTo pos (starEach es X.env)).any (·.1) = false := by rfl) : PE X (.Call (.Name x p) (e :: es) [] pos) (tCall sp dvs E t) := by
  refine ⟨fun pins s σ H Q I h => wpAny_Call_Name_kw (ld_glob I hg hm ?_ hdb)⟩
  refine PySem.W.callWith_K (h₀ := X.base) I.ok.mod.kin hk (thn (ha.run pos pins s σ H _ I h) fun us s1 ⟨vs, H1, I1, r, q⟩ => ⟨I1.kIn, ?_⟩) he hpl
  have r2 : Vals (vs ++ dvs) (us ++ ds) := r.append hd
  have hl : (us ++ ds).length = ps.length := r2.length.symm.trans (F.len _ _ _ _ q)
  refine wpAny_call (codeAny_mono (F.go X.A X.stack s1 H1 ⟨us, []⟩ (us ++ ds) (vs ++ dvs) Q E hr hgd I1.env0 (hb s1 us I1.kIn hl) r2 q) fun rr s' hq => ?_)
  cases rr with
  | error e => exact hx pins σ H1 s1 e s' I1 hq
  | ok fl => cases fl with
    | ret u => exact I1.after hq
    | _ => exact hq.elim
end
/-- the law's own call, where the promise leans on what runs around -/
theorem law_callG {P : Program} {w : World} {K : PySem.W.Frag} {mg mb : Str → Option Value} {CX : CXT} {k : Nat} {fa a : Addr} {fd : FuncData} {x : Str} {sp : Sp} {s : Shared} {vs : List Value} {ns : List Int}
    (KX : K.In s.heap) (hns : s.heap.Ns mainGlobals mg) (hb : s.heap.Ns builtinsNs mb) (hbb : ∀ x : Str, x ≠ "__name__" → mb x = bootBuiltins x) (hlim : s.heap.NoLimit) (hg : s.gens = #[])
    (ha : s.heap.get? a = some { cls := .type "list", data := .seq vs.toArray }) (hi : IntsAre vs ns) (hl : ns.length ≤ sizeLine) (hr : Room k callerA)
    (F : ∀ base : Heap, K.In base → base.Ns mainGlobals mg → FnG P w K mg base CX k fa fd [x] sp) (hbind : ∀ (s : Shared) (u : Value), BindsTo s fd ⟨[u], []⟩ [(x, u)])
    (hsp : ∀ H : Hp, Only H → SqL K H a (ns.map V.int) → sp [.ref a] H (fun v _ => v = .bl true) fun _ _ _ => False)
    (hCX : ∀ H e s', CX [] H s (fun _ _ _ => False) e s' → False) :
    codeAny (model P w) callerA (.call (.ref fa) ⟨[.ref a], []⟩) (fun r s' => r = .ok (.ret (.bool true)) ∧ OldK s.heap s'.heap ∧ s'.os = s.os ∧ AllBare s'.gens) s := by
  have rv := vals_ints hi
  have hlen := hi.length
  -- H tracks nothing, or the script alone
  have main : ∀ H : Hp, Only H → SqL K H a (ns.map V.int) → HOk P w H s.heap → (∀ b o, s.heap.get? b = some o → (∃ es ep, o.data = .dict es ep) → H b = none) → (∀ b o, K.lookup b = some o → H b = none) →
      codeAny (model P w) callerA (.call (.ref fa) ⟨[.ref a], []⟩) (fun r s' => r = .ok (.ret (.bool true)) ∧ OldK s.heap s'.heap ∧ s'.os = s.os ∧ AllBare s'.gens) s := by
    intro H hO hS hok hD hK
    have ns_of : ∀ {b : Addr} {m : Str → Option Value}, s.heap.Ns b m → (hidT s.heap H).Ns b m := by
      intro b m h
      obtain ⟨o, es, ep, e, d, r⟩ := h
      exact ⟨o, es, ep, hidT_get e (hD b o e ⟨es, ep, d⟩), d, r⟩
    have hKb : K.In (hidT s.heap H) := fun b o e => hidT_get (KX b o e) (hK b o e)
    obtain ⟨mc, l1, l2⟩ := hlim
    have hM : Mod K mg (hidT s.heap H) := { kin := hKb, glob := ns_of hns, blt := ⟨mb, ns_of hb, hbb⟩, nolimit := ⟨mc, ns_of l1, l2⟩ }
    have e0 : Env0 P w K mg (hidT s.heap H) callerA [] s H :=
      { frames := rfl, mod := hM, bs := fun b o e => of_hidT e, bsz := Nat.le_of_eq (hidT_size _ _), funs := trivial, frf := fun b hb => absurd hb (List.not_mem_nil), hok := hok, bare := .of_eq hg }
    refine codeAny_mono ((F _ hKb (ns_of hns)).go callerA [] s H ⟨[.ref a], []⟩ [.ref a] [.ref a] _ _ hr rfl e0 (hbind s (.ref a)) (.cons rfl .nil) (hsp H hO hS)) fun r s' h => ?_
    cases r with
    | error e => exact (hCX H e s' h).elim
    | ok fl => cases fl with
      | ret u =>
        obtain ⟨v, H', os, bare, un, hok', r', q⟩ := h
        cases (show v = .bl true from q)
        cases (show u = Value.bool true from r')
        refine ⟨rfl, OldK.of_keep fun b o e => ?_, os, bare⟩
        rcases hO b with z | ⟨ob, xs, z⟩
        · exact un.keep b o e z List.not_mem_nil List.not_mem_nil
        · have q1 := (hok b _ z).1
          have q2 := (hok' b _ (un.frzs b ob _ z)).1
          rw [e] at q1
          cases q1
          exact q2
      | _ => exact h.elim
  cases hk : K.lookup a with
  | some o =>
    have e := KX a o hk
    rw [ha] at e
    cases e
    exact main (fun _ => none) (fun _ => Or.inl rfl) (Or.inr ⟨_, vs.toArray, _, hk, rfl, rfl, rfl, by rw [List.size_toArray, hlen]; exact hl, by simpa using rv⟩) (fun b u z => nomatch (show (none : Option HO) = some u from z)) (fun _ _ _ _ => rfl) fun _ _ _ => rfl
  | none =>
    have hin : ∀ b, b ≠ a → (if b = a then some (HO.frz { cls := .type "list", data := .seq vs.toArray } (.lst (ns.map V.int))) else none) = none := fun b hb => if_neg hb
    refine main (fun b => if b = a then some (.frz { cls := .type "list", data := .seq vs.toArray } (.lst (ns.map V.int))) else none) (fun b => ?_) (Or.inl (Or.inr ⟨_, if_pos rfl⟩)) (fun b u z => ?_) (fun b o e hd => ?_) fun b o e => ?_
    · by_cases q : b = a
      · exact Or.inr ⟨_, _, if_pos q⟩
      · exact Or.inl (hin b q)
    · by_cases q : b = a
      · have z2 := (if_pos q).symm.trans z
        cases z2
        subst q
        exact ⟨ha, by rw [List.length_map]; exact hl, vs, _, rv, ha⟩
      · have z2 := (hin b q).symm.trans z
        cases z2
    · refine hin b fun q => ?_
      subst q
      obtain ⟨es, ep, d⟩ := hd
      rw [ha] at e
      cases e
      cases d
    · refine hin b fun q => ?_
      subst q
      rw [hk] at e
      cases e
/-- a law over a head by facts, the script's bits told -/
theorem walk_G {l : PySem.W.OpenLaw} {n k : Nat} {q : Program} {loose : List Str} {XP : (Str → Option Value) → Heap → Prop} {YP : World → Heap → Prop} {d : DefRec} {CX : CXT} {x : Str}
    (hn : l.most = some n) (hn2 : n ≤ sizeLine) (hdf : d.params.defaults = []) (hr : Room k callerA)
    (F : ∀ (w : World) (mg : Str → Option Value) (fa : Addr) (h : Heap), YP w h → h.Ns mainGlobals mg → mg d.name = some (.ref fa) →
      ∃ (K : PySem.W.Frag) (fd : FuncData) (sp : Sp), K.In h ∧ (∀ (s : Shared) (u : Value), BindsTo s fd ⟨[u], []⟩ [(x, u)]) ∧
        (∀ (H : Hp) (a : Addr) (ns : List Int), ns.length ≤ n → (∀ z ∈ ns, Builtin.Int.intBits z ≤ 1048576) → Only H → SqL K H a (ns.map V.int) → sp [.ref a] H (fun v _ => v = .bl true) fun _ _ _ => False) ∧
        ∀ base : Heap, K.In base → base.Ns mainGlobals mg → FnG l.prog w K mg base CX k fa fd [x] sp)
    (hCX : ∀ (H : Hp) (s : Shared) (e : Value) (s' : Shared), CX [] H s (fun _ _ _ => False) e s' → False) :
    PySem.W.WalkO q loose XP YP l.row.toRowW d [] (fun f vs => PySem.call f vs) := by
  refine Att.attach_callB hn hdf fun w s₀ s₁ mg mb fa o pm cd doc a vs ns G Y ho hd hcd hmg hobj hints hlen hbits hg => ?_
  obtain ⟨K, fd, sp, KX, hb, hsp, hF⟩ := F w mg fa _ Y G.T.g hmg
  exact law_callG KX G.T.g G.T.b G.T.builtins G.T.nolimit hg hobj hints (Nat.le_trans hlen hn2) hr hF hb (fun H hO hS => hsp H a ns hlen hbits hO hS) fun H e s' => hCX H s₁ e s'
/-! ### keywords alone, in the opposite sequence of the parameters -/
theorem vals_rev : ∀ {vs : List V} {us : List Value}, Vals vs us → Vals vs.reverse us.reverse
  | _, _, .nil => .nil
  | _, _, .cons r t => by rw [List.reverse_cons, List.reverse_cons]; exact (vals_rev t).append (.cons r .nil)
def KRev (fd : FuncData) (ps : List Str) : Prop := ∀ (s : Shared) (ws : List Value), ws.length = ps.length → BindsTo s fd ⟨[], ps.reverse.zip ws⟩ (ps.zip ws.reverse)
def tCallR (sp : Sp) (E : XK) (t : TA) : TE := fun σ H Q => t σ H fun zs H1 => sp zs.reverse H1 Q E
section
variable {X : Cx} {CX : CXT} {k : Nat} {f : Addr} {fd : FuncData} {ps : List Str} {sp : Sp} {E : XK} {x : Str} {p pos : Pos} {kws : List Keyword} {t : TA}
theorem pe_callR (F : FnOk X.prog X.w X.K X.mg X.base CX k f fd ps sp) (hr : Room k X.A) (hg : Gl X x) (hm : X.mg x = some (.ref f)) (hk : PySem.W.keepIn X.K (.ref f) = true) (hb : KRev fd ps) (hx : Passes CX X E)
    (hkw : PK X kws t) (hall : (backToKw pos (keywordEach kws X.env)).all (·.1.isSome) = true := by rfl) (hks : (backToKw pos (keywordEach kws X.env)).filterMap (·.1) = ps.reverse := by rfl)
    (hdb : (x == ("__debug__" : Str)) = false := by decide) (hpl : ((backTo pos (starEach [] X.env)).any (·.1) || (backToKw pos (keywordEach kws X.env)).any (·.1.isNone)) = false := by rfl) :
    PE X (.Call (.Name x p) [] kws pos) (tCallR sp E t) := by
  refine ⟨fun pins s σ H Q I h => wpAny_Call_Name_kw (ld_glob I hg hm ?_ hdb)⟩
  refine PySem.W.callWith_KW0 (h₀ := X.base) I.ok.mod.kin hk hall (thn (hkw.run pos pins s σ H _ I h) fun ws s1 ⟨zs, H1, I1, rz, q⟩ => ⟨I1.kIn, ?_⟩) hpl
  rw [hks]
  have r2 := vals_rev rz
  have hl : ws.length = ps.length := by
    have := (F.len _ _ _ _ q)
    rw [List.length_reverse] at this
    rw [← rz.length, this]
  refine wpAny_call (codeAny_mono (F.run X.A X.stack s1 H1 ⟨[], _⟩ ws.reverse zs.reverse Q E hr I1.env0 (hb s1 ws hl) r2 q) fun rr s' hq => ?_)
  cases rr with
  | error e => exact hx pins σ H1 s1 e s' I1 hq
  | ok fl => cases fl with
    | ret u => exact I1.after hq
    | _ => exact hq.elim
end
theorem callR_eq {sp : Sp} {E : XK} {t0 t1 t2 : TE} {σ : L2.St} {H : Hp} {Q : VK} : tCallR sp E (tCons t0 (tCons t1 (tCons t2 tNil))) σ H Q = (t0 σ H fun a H1 => t1 σ H1 fun b H2 => t2 σ H2 fun c H3 => sp [c, b, a] H3 Q E) := rfl
/-! ### data -/
/-- a kind of value as plain data: what it is, its depth; equal data are equal values -/
structure RD {α : Type} (e : Rep α) (f : α → PyData) (n : Nat) : Prop where
  dp : ∀ K H v a, e.r K H v a → Dp K H v (f a)
  can : ∀ a, (f a).canLay0 = true
  dep : ∀ a, (f a).depth ≤ n
  eq : ∀ a b, PyData.eqv (f a) (f b) = true → a = b
  re : ∀ a, PyData.eqv (f a) (f a) = true
  nd : ∀ a, (f a).hasDict = false
theorem rd_int : RD Rep.int PyData.int 0 := ⟨fun K H v a h => by cases h; exact .int a, fun _ => rfl, fun _ => Nat.le_refl _, fun a b h => by simpa [PyData.eqv] using h, fun a => by simp [PyData.eqv], fun _ => rfl⟩
theorem rd_bl : RD Rep.bl PyData.bool 0 := ⟨fun K H v a h => by cases h; exact .bl a, fun _ => rfl, fun _ => Nat.le_refl _, fun a b h => by simpa [PyData.eqv] using h, fun a => by simp [PyData.eqv], fun _ => rfl⟩
theorem rd_non : RD Rep.non (fun _ => PyData.none) 0 := ⟨fun K H v a h => by cases h; exact .non, fun _ => rfl, fun _ => Nat.le_refl _, fun a b h => rfl, fun a => by simp [PyData.eqv], fun _ => rfl⟩
theorem dpAll_of {α : Type} {e : Rep α} {f : α → PyData} {n : Nat} (h : RD e f n) {K : PySem.W.Frag} {H : Hp} : ∀ {xs : List V} {l : List α}, Paired (e.r K H) xs l → DpAll K H xs (l.map f)
  | _, _, .nil => .nil
  | _, _, .cons r t => .cons (h.dp _ _ _ _ r) (dpAll_of h t)
theorem rd_list {α : Type} {e : Rep α} {f : α → PyData} {n : Nat} (h : RD e f n) : RD (Rep.list e) (fun l => PyData.list (l.map f)) (n + 1) where
  dp := fun K H v l q => by obtain ⟨a, xs, rfl, hs, hp⟩ := q; exact .lst hs (dpAll_of h hp)
  can := fun l => by
    show PyData.canLayAll0 (l.map f) = true
    induction l with
    | nil => rfl
    | cons a r ih => show (PyData.canLay0 (f a) && _) = true; rw [h.can a, ih]; rfl
  dep := fun l => by
    show PyData.depthAll (l.map f) + 1 ≤ n + 1
    refine Nat.succ_le_succ ?_
    induction l with
    | nil => exact Nat.zero_le _
    | cons a r ih => exact Nat.max_le.mpr ⟨h.dep a, ih⟩
  eq := fun l m q => by
    have q' : PyData.eqvAll (l.map f) (m.map f) = true := by simpa only [PyData.eqv] using q
    clear q
    induction l generalizing m with
    | nil => cases m with
      | nil => rfl
      | cons b s => simp [PyData.eqvAll] at q'
    | cons a r ih => cases m with
      | nil => simp [PyData.eqvAll] at q'
      | cons b s =>
        simp only [List.map_cons, PyData.eqvAll, Bool.and_eq_true] at q'
        rw [h.eq a b q'.1, ih s q'.2]
  re := fun l => by
    have : PyData.eqvAll (l.map f) (l.map f) = true := by
      induction l with
      | nil => simp [PyData.eqvAll]
      | cons a r ih => simp only [List.map_cons, PyData.eqvAll, h.re a, ih, Bool.and_self]
    simpa only [PyData.eqv] using this
  nd := fun l => by
    show PyData.hasDictAll (l.map f) = false
    induction l with
    | nil => rfl
    | cons a r ih => show (PyData.hasDict (f a) || _) = false; rw [h.nd a, ih]; rfl
theorem rd_pair {α β : Type} {e : Rep α} {e2 : Rep β} {f : α → PyData} {g : β → PyData} {n m : Nat} (h : RD e f n) (h2 : RD e2 g m) : RD (Rep.pair e e2) (fun x => PyData.tuple [f x.1, g x.2]) (max n m + 1) where
  dp := fun K H v l q => by obtain ⟨a, x, y, rfl, hs, h3, h4⟩ := q; exact .tup hs (.cons (h.dp _ _ _ _ h3) (.cons (h2.dp _ _ _ _ h4) .nil))
  can := fun x => by show (PyData.canLay0 (f x.1) && (PyData.canLay0 (g x.2) && true)) = true; rw [h.can, h2.can]; rfl
  dep := fun x => by
    show max (f x.1).depth (max (g x.2).depth 0) + 1 ≤ _
    have := h.dep x.1
    have := h2.dep x.2
    omega
  eq := fun x y q => by
    simp only [PyData.eqv, PyData.eqvAll, Bool.and_true, Bool.and_eq_true] at q
    exact Prod.ext (h.eq _ _ q.1) (h2.eq _ _ q.2)
  re := fun x => by simp only [PyData.eqv, PyData.eqvAll, h.re, h2.re, Bool.and_self]
  nd := fun x => by show (PyData.hasDict (f x.1) || (PyData.hasDict (g x.2) || false)) = false; rw [h.nd, h2.nd]; rfl
theorem RD.eqv {α : Type} [DecidableEq α] {e : Rep α} {f : α → PyData} {n : Nat} (h : RD e f n) (a b : α) : PyData.eqv (f a) (f b) = decide (a = b) := by
  by_cases q : a = b
  · subst q; rw [h.re]; simp
  · rw [decide_eq_false q]
    cases z : PyData.eqv (f a) (f b) with
    | false => rfl
    | true => exact absurd (h.eq a b z) q
theorem RD.shaped {α : Type} {e : Rep α} {f : α → PyData} {n : Nat} (h : RD e f n) (hn : n ≤ 64) (a : α) : SeqAt.shaped (f a) = true := by
  unfold SeqAt.shaped
  rw [h.can a, decide_eq_true (Nat.le_trans (h.dep a) hn)]; rfl
section
variable {K : PySem.W.Frag} {σ : L2.St} {w : Wd} {ta tb : TE} {α : Type} [DecidableEq α] {e : Rep α} {a b : α} {f : α → PyData} {n : Nat}
theorem ev_eqD (h : RD e f n) (ha : EvD K ta σ w e a) (hb : EvD K tb σ w e b) (hn : n ≤ 64 := by decide) : EvD K (tOp (rEqD K) ta tb) σ w Rep.bl (decide (a = b)) := fun w1 g Q q =>
  ha w1 g _ fun v w2 g2 x => hb w2 (g.trans g2) _ fun v' w3 g3 y => ⟨f a, f b, (h.dp _ _ _ _ (e.m (g3.s.trans w3.ex) x)), h.dp _ _ _ _ (e.m w3.ex y), h.shaped hn _, h.shaped hn _, q _ w3 (g2.trans g3) (by rw [h.eqv]; rfl)⟩
theorem ev_neD (h : RD e f n) (ha : EvD K ta σ w e a) (hb : EvD K tb σ w e b) (hn : n ≤ 64 := by decide) : EvD K (tOp (rNeD K) ta tb) σ w Rep.bl (!decide (a = b)) := fun w1 g Q q =>
  ha w1 g _ fun v w2 g2 x => hb w2 (g.trans g2) _ fun v' w3 g3 y => ⟨f a, f b, (h.dp _ _ _ _ (e.m (g3.s.trans w3.ex) x)), h.dp _ _ _ _ (e.m w3.ex y), h.shaped hn _, h.shaped hn _, q _ w3 (g2.trans g3) (by rw [h.eqv]; rfl)⟩
end
/-! ### repr of lists, tuples -/
def rRepr (K : PySem.W.Frag) : List V → Hp → VK → Prop := fun xs H Q => ∃ (p : Addr) (d : PyData), xs = [.ref p] ∧ Dp K H (.ref p) d ∧ d.hasDict = false ∧ d.showable = true ∧ d.depth ≤ 64 ∧ d.shown.length ≤ sizeLine ∧ Q (.str d.shown) H
theorem call_repr {X : Cx} {k : Nat} (hg : X.A.guards = some []) (hr : Room k X.A) : CallR X (.builtin "repr") (rRepr X.K) := by
  intro pins s σ H xs us Q I r h
  obtain ⟨p, d, rfl, hd, hnd, hs, hdep, hsz, q⟩ := h
  obtain ⟨u, rfl, rx⟩ := vals1 r
  obtain ⟨as, rr⟩ := Dp.reads I d _ u hd rx
  cases (show u = Value.ref p from rx)
  have hu := hr.un
  exact repr_of_reads' rr hs (fun z => by rw [hnd] at z; cases z) hg (by omega) (fun _ _ z => z) (fun h' t tk hk => ⟨.str d.shown, H, I.kept hk, ⟨t, rfl⟩, q⟩) hsz
theorem ev_repr {K : PySem.W.Frag} {σ : L2.St} {w : Wd} {ta : TE} {α : Type} {e : Rep α} {a : α} {f : α → PyData} {n : Nat} (h : RD e f n) (ha : EvD K ta σ w e a) (hv : ∀ K H v a, e.r K H v a → ∃ p, v = .ref p) (hs : (f a).showable = true) (hz : (f a).shown.length ≤ sizeLine) (hn : n ≤ 64 := by decide) :
    EvD K (tCB (rRepr K) (tCons ta tNil)) σ w Rep.str (f a).shown := fun w1 g Q q => ha w1 g _ fun v w2 g2 x => by
  obtain ⟨p, rfl⟩ := hv _ _ _ _ x
  exact ⟨p, f a, rfl, h.dp _ _ _ _ (e.m w2.ex x), h.nd a, hs, Nat.le_trans (h.dep a) hn, hz, q _ w2 g2 rfl⟩
theorem ref_list {α : Type} {e : Rep α} : ∀ K H v (a : List α), (Rep.list e).r K H v a → ∃ p, v = .ref p := fun _ _ _ _ h => by obtain ⟨p, _, rfl, _⟩ := h; exact ⟨p, rfl⟩
theorem ref_pair {α β : Type} {e : Rep α} {e2 : Rep β} : ∀ K H v (a : α × β), (Rep.pair e e2).r K H v a → ∃ p, v = .ref p := fun _ _ _ _ h => by obtain ⟨p, _, _, rfl, _⟩ := h; exact ⟨p, rfl⟩
end WK
namespace WK
open PySem PySem.Spec PyProof.Rows L2
theorem FunD.revN {K : PySem.W.Frag} {x qual : Str} {params : Arguments} {body : List Stmt} {scope : Scope} {kws : List (Str × V)} {f : Addr} {fd : FuncData} {ps : List Str} (F : FunD K x qual params body scope [] kws f fd)
    (h : ∀ (kV doc pm : Value) (an : Option Addr) (cdv ct : Value) (us : List Value), us.length = ps.length → bindArgs (PySem.W.fnOf x qual params body scope .none kV doc pm an cdv ct) ⟨[], ps.reverse.zip us⟩ = pure (ps.zip us.reverse)) : KRev fd ps := by
  obtain ⟨oc, od, dV, kV, doc, pm, an, cdv, ct, osl, rfl, lk, hcd, hD, hK⟩ := F.ex
  rcases hD with ⟨_, rfl⟩ | ⟨e, _⟩
  · exact fun s us hl => .of_eq (h kV doc pm an cdv ct us hl)
  · exact absurd rfl e
end WK

/-! WK, part 6: short words for the walks; growth from a def's entry. -/
namespace WK
open PySem PySem.Spec PyProof.Rows L2
section
variable {K : PySem.W.Frag} {σ : L2.St} {w w' w0 : Wd} {ta tb tc te tl : TE} {t u : TT} {α β γ δ : Type} {r : Rep α} {rb : Rep β} {rc : Rep γ} {a : α} {e : Rep α} {l : List α} {v : V} {p : Addr}
theorem rp_gr (g : Gr w w') (h : r.r K w.S v a) : r.r K w'.S v a := r.m g.s h
theorem rp_mt (g : Mt p w w') (h : r.r K w.S v a) : r.r K w'.S v a := r.m g.s h
theorem rp_ex (g : Ex w.S w'.S) (h : r.r K w.S v a) : r.r K w'.S v a := r.m g h
/-- growth from the entry -/
structure GrC (w0 w : Wd) : Prop where
  g : Gr w0 w
theorem gc_refl : GrC w0 w0 := ⟨Gr.refl _⟩
theorem gc_gr (c : GrC w0 w) (g : Gr w w') : GrC w0 w' := ⟨c.g.trans g⟩
theorem gc_mt (c : GrC w0 w) (m : Mt p w w') (h : w0.H p = none) : GrC w0 w' := ⟨m.gr w0 c.g h⟩
theorem gc_new (c : GrC w0 w) (h : w.H p = none) : w0.H p = none := fr_back c.g h
theorem ev_varI {i : Nat} {x : Int} (h : σ[i]? = some (some (.int x))) : EvD K (tVar i) σ w Rep.int x := ev_var h rfl
theorem ev_varB {i : Nat} {x : Bool} (h : σ[i]? = some (some (.bl x))) : EvD K (tVar i) σ w Rep.bl x := ev_var h rfl
theorem ev_varS {i : Nat} {x : Str} (h : σ[i]? = some (some (.str x))) : EvD K (tVar i) σ w Rep.str x := ev_var h rfl
theorem ev_gt {x y : Int} (ha : EvD K ta σ w Rep.int x) (hb : EvD K tb σ w Rep.int y) : EvD K (tOp (rI0 fun i j => .bl (decide (j < i))) ta tb) σ w Rep.bl (decide (y < x)) := ev_I0 ha hb fun _ => rfl
theorem ev_ge {x y : Int} (ha : EvD K ta σ w Rep.int x) (hb : EvD K tb σ w Rep.int y) : EvD K (tOp (rI0 fun i j => .bl (decide (j ≤ i))) ta tb) σ w Rep.bl (decide (y ≤ x)) := ev_I0 ha hb fun _ => rfl
theorem ev_mod {x y : Int} (ha : EvD K ta σ w Rep.int x) (hb : EvD K tb σ w Rep.int y) (h : 0 < y) : EvD K (tOp (rI (fun _ j => 0 < j) fun i j => .int (i % j)) ta tb) σ w Rep.int (x % y) := ev_I ha hb h fun _ => rfl
theorem ev_div {x y : Int} (ha : EvD K ta σ w Rep.int x) (hb : EvD K tb σ w Rep.int y) (h : CDivW x y) : EvD K (tOp (rI CDivW fun i j => .int (i / j)) ta tb) σ w Rep.int (x / y) := ev_I ha hb h fun _ => rfl
theorem ev_mul {x y : Int} (ha : EvD K ta σ w Rep.int x) (hb : EvD K tb σ w Rep.int y) (h : CMulW x y) : EvD K (tOp (rI CMulW fun i j => .int (i * j)) ta tb) σ w Rep.int (x * y) := ev_I ha hb h fun _ => rfl
theorem ev_pow {x y : Int} (ha : EvD K ta σ w Rep.int x) (hb : EvD K tb σ w Rep.int y) (h : CPowW x y) : EvD K (tOp (rI CPowW fun i j => .int (i ^ j.toNat)) ta tb) σ w Rep.int (x ^ y.toNat) := ev_I ha hb h fun _ => rfl
theorem ev_leLe {x y z : Int} (ha : EvD K ta σ w Rep.int x) (hb : EvD K tb σ w Rep.int y) (hc : EvD K tc σ w Rep.int z) : EvD K (tChain (rI0 fun i j => .bl (decide (i ≤ j))) (rI0 fun i j => .bl (decide (i ≤ j))) ta tb tc) σ w Rep.bl (decide (x ≤ y) && decide (y ≤ z)) :=
  ev_chain ha hb hc (fun _ _ q => ⟨_, _, rfl, rfl, q⟩) fun _ _ q => ⟨_, _, rfl, rfl, q⟩
theorem ev_leLt {x y z : Int} (ha : EvD K ta σ w Rep.int x) (hb : EvD K tb σ w Rep.int y) (hc : EvD K tc σ w Rep.int z) : EvD K (tChain (rI0 fun i j => .bl (decide (i ≤ j))) (rI0 fun i j => .bl (decide (i < j))) ta tb tc) σ w Rep.bl (decide (x ≤ y) && decide (y < z)) :=
  ev_chain ha hb hc (fun _ _ q => ⟨_, _, rfl, rfl, q⟩) fun _ _ q => ⟨_, _, rfl, rfl, q⟩
/-- what is read of an own list of which the place is known -/
theorem ev_lenO {i : Nat} {p : Addr} (o : OwnL K w p e l) (hi : σ[i]? = some (some (.ref p))) : EvD K (tCB (Evl.rLenS K) (tCons (tVar i) tNil)) σ w Rep.int (l.length : Int) := fun w1 g Q q => by
  obtain ⟨xs, ow, hp⟩ := o.gr g
  exact ⟨_, hi, p, xs, rfl, .inl (SqL.of ow.h), q _ w1 (Gr.refl _) (by rw [paired_len hp]; rfl)⟩
/-- isinstance of plain values -/
def V.tyn : V → Option String
  | .non => some "NoneType" | .bl _ => some "bool" | .int _ => some "int" | .str _ => some "str" | _ => none
theorem rel_ty (n : String) : RelV (.ty n) (.type n) := rfl
theorem isi_run {x : V} {t : Value} {n : String} {b : Bool} {H : Hp} {Q : VK} (hx : TyX K H x t) (hk : PySem.W.kitOne K t (.type n) = some b) (q : Q (.bl b) H) : rIsi K [x, .ty n] H Q := ⟨x, .ty n, t, .type n, b, rfl, .ty n, hx, hk, q⟩
theorem list_ty {S : Hp} {H : Hp} (x : Ex S H) {v : V} {l : List α} (h : (Rep.list e).r K S v l) : TyX K H v (.type "list") := by
  obtain ⟨a, xs, rfl, hs, _⟩ := h
  rcases hs with (h | ⟨o, h⟩) | ⟨o, its, n, h, hc, _⟩
  · exact .base (.lst (x _ _ h))
  · exact .base (.frz (x _ _ h))
  · exact .kList h hc
theorem ev_isi {n : String} {te : TE} {b : Bool} (h : ∀ w1, Gr w w1 → ∀ Q : VK, (∀ v w2, Gr w1 w2 → (∃ t, TyX K w2.H v t ∧ PySem.W.kitOne K t (.type n) = some b) → Q v w2.H) → te σ w1.H Q) : EvD K (tCB (rIsi K) (tCons te (tCons (tC (.ty n)) tNil))) σ w Rep.bl b := fun w1 g Q q =>
  h w1 g _ fun v w2 g2 ⟨t, h1, h2⟩ => isi_run h1 h2 (q _ w2 g2 rfl)
theorem ev_isiL {te : TE} (h : EvD K te σ w (Rep.list e) l) {n : String} {b : Bool} (hk : kitB "list" n = some b) : EvD K (tCB (rIsi K) (tCons te (tCons (tC (.ty n)) tNil))) σ w Rep.bl b :=
  ev_isi fun w1 g Q q => h w1 g Q fun v w2 g2 x => q v w2 g2 ⟨_, list_ty w2.ex x, kit_ty hk⟩
theorem ev_isiI {te : TE} {x : Int} (h : EvD K te σ w Rep.int x) {n : String} {b : Bool} (hk : kitB "int" n = some b) : EvD K (tCB (rIsi K) (tCons te (tCons (tC (.ty n)) tNil))) σ w Rep.bl b :=
  ev_isi fun w1 g Q q => h w1 g Q fun v w2 g2 x => q v w2 g2 ⟨_, by cases x; exact .base (.int _), kit_ty hk⟩
theorem ev_isiB {te : TE} {x : Bool} (h : EvD K te σ w Rep.bl x) {n : String} {b : Bool} (hk : kitB "bool" n = some b) : EvD K (tCB (rIsi K) (tCons te (tCons (tC (.ty n)) tNil))) σ w Rep.bl b :=
  ev_isi fun w1 g Q q => h w1 g Q fun v w2 g2 x => q v w2 g2 ⟨_, by cases x; exact .base (.bl _), kit_ty hk⟩
/-- list(range(..)) -/
theorem en_rg1 {n : Int} (h : EvD K te σ w Rep.int n) (hn : 0 ≤ n ∧ n ≤ 100000) : EvN K (tLstRg (tRg1 te)) σ w Rep.int (irange 0 n) := fun w1 g Q q =>
  h w1 g _ fun v w2 g2 x => ⟨n, x, ⟨by omega, by omega, by omega, by omega, by omega⟩, fun p np => q p (w2.new p _ np) (g2.trans (gr_new np)) (fr_back g2 np) ⟨_, own_new np, by
    have : rgV 0 n = (irange 0 n).map V.int := by unfold rgV irange; rw [List.map_map]; rfl
    rw [this]; exact ints_paired _⟩⟩
theorem en_rg2 {lo n : Int} (h : EvD K ta σ w Rep.int lo) (h2 : EvD K tb σ w Rep.int n) (hn : 0 ≤ lo ∧ lo ≤ 100000 ∧ 0 ≤ n ∧ n ≤ 100000) : EvN K (tLstRg (tRg2 ta tb)) σ w Rep.int (irange lo n) := fun w1 g Q q =>
  h w1 g _ fun v w2 g2 x => h2 w2 (g.trans g2) _ fun v' w3 g3 x' => ⟨lo, n, x, x', ⟨by omega, by omega, by omega, by omega, by omega⟩, fun p np => q p (w3.new p _ np) ((g2.trans g3).trans (gr_new np)) (fr_back (g2.trans g3) np) ⟨_, own_new np, by
    have : rgV lo n = (irange lo n).map V.int := by unfold rgV irange; rw [List.map_map]; rfl
    rw [this]; exact ints_paired _⟩⟩
/-- sorted of ints -/
theorem perm_sorted_uniq {l m : List Int} (h : l.Perm m) (h1 : l.Pairwise (· ≤ ·)) (h2 : m.Pairwise (· ≤ ·)) : l = m := by
  refine List.Perm.eq_of_pairwise (le := (· ≤ ·)) ?_ h1 h2 h
  intro a b _ _ h1 h2
  exact Int.le_antisymm h1 h2
end
end WK

/-! WK, part 7: own dicts with ints as keys, tuples walked, raw items. -/
namespace WK
open PySem PySem.Spec PyProof.Rows L2
/-! ### tables -/
section
variable {β : Type}
def getI (m : List (Int × β)) (n : Int) : Option β := (m.find? fun p => decide (p.1 = n)).map (·.2)
def putI (m : List (Int × β)) (n : Int) (b : β) : List (Int × β) :=
  if (m.any fun p => decide (p.1 = n)) = true then m.map (fun p => if p.1 = n then (p.1, b) else p) else m ++ [(n, b)]
theorem getI_nil {n : Int} : getI ([] : List (Int × β)) n = none := rfl
theorem getI_cons {p : Int × β} {r : List (Int × β)} {n : Int} : getI (p :: r) n = if p.1 = n then some p.2 else getI r n := by
  unfold getI
  rw [List.find?_cons]
  by_cases e : p.1 = n
  · simp [e]
  · simp [e]
theorem getI_any {n : Int} : ∀ m : List (Int × β), (m.any fun p => decide (p.1 = n)) = (getI m n).isSome
  | [] => rfl
  | p :: r => by
    rw [List.any_cons, getI_cons, getI_any r]
    by_cases e : p.1 = n
    · simp [e]
    · simp [e]
theorem getI_app {n : Int} (m k : List (Int × β)) : getI (m ++ k) n = (getI m n).or (getI k n) := by
  induction m with
  | nil => simp [getI_nil]
  | cons p r ih =>
    rw [List.cons_append, getI_cons, getI_cons, ih]
    split <;> simp
theorem getI_map {n j : Int} {b : β} : ∀ m : List (Int × β), getI (m.map fun p => if p.1 = n then (p.1, b) else p) j = (getI m j).map fun x => if j = n then b else x
  | [] => rfl
  | p :: r => by
    rw [List.map_cons, getI_cons, getI_cons, getI_map r]
    by_cases e : p.1 = n
    · simp only [e, if_true]
      by_cases e2 : n = j
      · subst e2; simp
      · have : ¬ j = n := fun z => e2 z.symm
        simp [e2, this]
    · simp only [e, if_false]
      by_cases e2 : p.1 = j
      · subst e2; simp [e]
      · simp [e2]
theorem getI_put {m : List (Int × β)} {n j : Int} {b : β} : getI (putI m n b) j = if j = n then some b else getI m j := by
  unfold putI
  by_cases h : (m.any fun p => decide (p.1 = n)) = true
  · rw [if_pos h, getI_map]
    rw [getI_any] at h
    by_cases e : j = n
    · subst e
      obtain ⟨x, hx⟩ := Option.isSome_iff_exists.mp h
      rw [hx]; simp
    · simp [e]
  · rw [if_neg h, getI_app]
    rw [getI_any] at h
    by_cases e : j = n
    · subst e
      have : getI m j = none := by cases q : getI m j with
        | none => rfl
        | some x => rw [q] at h; exact absurd rfl h
      rw [this, getI_cons]; simp
    · rw [getI_cons, getI_nil, if_neg (fun z => e z.symm), if_neg e]; simp
theorem putI_len {m : List (Int × β)} {n : Int} {b : β} : (putI m n b).length ≤ m.length + 1 := by
  unfold putI; split <;> simp
end
/-! ### an own dict -/
def PD {β : Type} (K : PySem.W.Frag) (S : Hp) (rv : Rep β) : (Key × V) → (Int × β) → Prop := fun kv p => kv.1 = Sum.inl p.1 ∧ rv.r K S kv.2 p.2
def OwnD {β : Type} (K : PySem.W.Frag) (w : Wd) (d : Addr) (rv : Rep β) (m : List (Int × β)) : Prop := ∃ kvs, Own w d (.dK kvs) ∧ Paired (PD K w.S rv) kvs m
section
variable {K : PySem.W.Frag} {σ : L2.St} {w w' : Wd} {ta tb tc te : TE} {α β : Type} {rv : Rep β} {m : List (Int × β)} {d : Addr} {D : Ends} {tz : TS}
theorem pd_len {S : Hp} {kvs : List (Key × V)} (h : Paired (PD K S rv) kvs m) : kvs.length = m.length := Paired.length h
theorem OwnD.gr (h : OwnD K w d rv m) (g : Gr w w') : OwnD K w' d rv m := by obtain ⟨kvs, a, b⟩ := h; exact ⟨kvs, a.gr g, Paired.mapP b fun _ _ q => ⟨q.1, rv.m g.s q.2⟩⟩
theorem OwnD.mt {p : Addr} (h : OwnD K w d rv m) (g : Mt p w w') (ne : d ≠ p) : OwnD K w' d rv m := by obtain ⟨kvs, a, b⟩ := h; exact ⟨kvs, g.own _ _ ne a, Paired.mapP b fun _ _ q => ⟨q.1, rv.m g.s q.2⟩⟩
theorem OwnD.ne (h : OwnD K w d rv m) : w.H d ≠ none := by obtain ⟨kvs, a, b⟩ := h; exact a.ne
theorem OwnD.apart {p : Addr} (h : OwnD K w d rv m) (z : w.H p = none) : p ≠ d := fun x => h.ne (x ▸ z)
theorem pd_get {S : Hp} {n : Int} : ∀ {kvs : List (Key × V)} {m : List (Int × β)}, Paired (PD K S rv) kvs m → (getI m n = none ∧ valV kvs (Sum.inl n) = none) ∨ ∃ b v, getI m n = some b ∧ valV kvs (Sum.inl n) = some v ∧ rv.r K S v b
  | _, _, .nil => .inl ⟨rfl, rfl⟩
  | kv :: kvs, p :: r, .cons h t => by
    by_cases e : p.1 = n
    · refine .inr ⟨p.2, kv.2, by rw [getI_cons, if_pos e], valV_pos (by rw [h.1, e]), h.2⟩
    · have ne : ¬ kv.1 = Sum.inl n := by rw [h.1]; exact fun z => e (Sum.inl.inj z)
      rw [getI_cons, if_neg e, valV_neg ne]
      exact pd_get t
theorem pd_any {S : Hp} {n : Int} {kvs : List (Key × V)} {m : List (Int × β)} (h : Paired (PD K S rv) kvs m) : (kvs.any fun kv => decide (kv.1 = (Sum.inl n : Key))) = (m.any fun p => decide (p.1 = n)) := by
  rw [valV_any, getI_any]
  rcases pd_get (n := n) h with ⟨a, b⟩ | ⟨b, v, a, c, _⟩
  · rw [a, b]; rfl
  · rw [a, c]; rfl
theorem pd_put {S : Hp} {n : Int} {v : V} {b : β} (hr : rv.r K S v b) {kvs : List (Key × V)} {m : List (Int × β)} (h : Paired (PD K S rv) kvs m) : Paired (PD K S rv) (putK kvs (Sum.inl n) v) (putI m n b) := by
  unfold putK putI
  rw [pd_any h]
  split
  · induction h with
    | nil => exact .nil
    | @cons kv p kvs r h1 t ih =>
      rw [List.map_cons, List.map_cons]
      refine .cons ?_ (by
        rename_i hx
        have : ∀ (kvs : List (Key × V)) (m : List (Int × β)), Paired (PD K S rv) kvs m → Paired (PD K S rv) (kvs.map fun kv => if kv.1 = Sum.inl n then (kv.1, v) else kv) (m.map fun p => if p.1 = n then (p.1, b) else p) := by
          intro kvs m h
          induction h with
          | nil => exact .nil
          | @cons kv p kvs r h1 t ih =>
            rw [List.map_cons, List.map_cons]
            refine .cons ?_ ih
            by_cases e : p.1 = n
            · rw [if_pos e, if_pos (by rw [h1.1, e])]; exact ⟨h1.1, hr⟩
            · rw [if_neg e, if_neg (by rw [h1.1]; exact fun z => e (Sum.inl.inj z))]; exact h1
        exact this _ _ t)
      by_cases e : p.1 = n
      · rw [if_pos e, if_pos (by rw [h1.1, e])]; exact ⟨h1.1, hr⟩
      · rw [if_neg e, if_neg (by rw [h1.1]; exact fun z => e (Sum.inl.inj z))]; exact h1
  · have : ∀ (kvs : List (Key × V)) (m : List (Int × β)), Paired (PD K S rv) kvs m → Paired (PD K S rv) (kvs ++ [(Sum.inl n, v)]) (m ++ [(n, b)]) := by
      intro kvs m h
      induction h with
      | nil => exact .cons ⟨rfl, hr⟩ .nil
      | cons h1 t ih => exact .cons h1 ih
    exact this _ _ h
theorem ev_dnotin {i : Nat} {n : Int} (o : OwnD K w d rv m) (hi : σ[i]? = some (some (.ref d))) (h : EvD K te σ w Rep.int n) : EvD K (tDNotIn te (tVar i)) σ w Rep.bl (!(getI m n).isSome) := fun w1 g Q q =>
  h w1 g _ fun v w2 g2 x => ⟨_, hi, by
    cases x
    obtain ⟨kvs, ow, hp⟩ := (o.gr g).gr g2
    refine ⟨d, valV kvs (Sum.inl n), rfl, DGet.k (k := Sum.inl n) ow.h, q _ w2 g2 ?_⟩
    rcases pd_get (n := n) hp with ⟨a, b⟩ | ⟨b, v, a, c, _⟩
    · rw [a, b]; rfl
    · rw [a, c]; rfl⟩
theorem ev_din {i : Nat} {n : Int} (o : OwnD K w d rv m) (hi : σ[i]? = some (some (.ref d))) (h : EvD K te σ w Rep.int n) : EvD K (tDIn te (tVar i)) σ w Rep.bl (getI m n).isSome := fun w1 g Q q =>
  h w1 g _ fun v w2 g2 x => ⟨_, hi, by
    cases x
    obtain ⟨kvs, ow, hp⟩ := (o.gr g).gr g2
    refine ⟨d, valV kvs (Sum.inl n), rfl, DGet.k (k := Sum.inl n) ow.h, q _ w2 g2 ?_⟩
    rcases pd_get (n := n) hp with ⟨a, b⟩ | ⟨b, v, a, c, _⟩
    · rw [a, b]; rfl
    · rw [a, c]; rfl⟩
theorem ev_dget {i : Nat} {n : Int} {b : β} (o : OwnD K w d rv m) (hi : σ[i]? = some (some (.ref d))) (h : EvD K te σ w Rep.int n) (hb : getI m n = some b) : EvD K (tDGet (tVar i) te) σ w rv b := fun w1 g Q q => ⟨_, hi,
  h w1 g _ fun v w2 g2 x => by
    cases x
    obtain ⟨kvs, ow, hp⟩ := (o.gr g).gr g2
    rcases pd_get (n := n) hp with ⟨a, _⟩ | ⟨b', v, a, c, hr⟩
    · rw [a] at hb; cases hb
    · rw [a] at hb; cases hb
      exact ⟨d, v, rfl, by have := DGet.k (k := Sum.inl n) ow.h; rw [c] at this; exact this, q v w2 g2 hr⟩⟩
theorem dput_run {i : Nat} {n : Int} {b : β} {Q : L2.St → Hp → Prop} (o : OwnD K w d rv m) (hi : σ[i]? = some (some (.ref d))) (hv : EvD K te σ w rv b) (h : EvD K tb σ w Rep.int n) (hz : m.length < 100000)
    (k : ∀ w', Mt d w w' → OwnD K w' d rv (putI m n b) → Q σ w'.H) : te σ w.H fun v H1 => tVar i σ H1 fun x H2 => tb σ H2 fun y H3 => ∃ a H4, x = .ref a ∧ DPut H3 a y v H4 ∧ Q σ H4 :=
  hv.run fun v w2 g2 r2 => ⟨_, hi, (h.gr g2).run fun y w3 g3 r3 => by
    cases r3
    obtain ⟨kvs, ow, hp⟩ := (o.gr g2).gr g3
    exact ⟨d, _, rfl, DPut.k (k := Sum.inl n) ow.h (by rw [pd_len hp]; exact sz5' hz), k (w3.set d _ ow.s) (((g2.trans g3).mt o.ne).trans (mt_set ow.s)) ⟨_, own_set ow.s, pd_put (rv.m g3.s r2) hp⟩⟩⟩
theorem q_dput {i : Nat} {n : Int} {b : β} (o : OwnD K w d rv m) (hi : σ[i]? = some (some (.ref d))) (hv : EvD K te σ w rv b) (h : EvD K tb σ w Rep.int n) (hz : m.length < 100000)
    (k : ∀ w', Mt d w w' → OwnD K w' d rv (putI m n b) → tz D σ w'.H) : tSeq (sDPut (tVar i) tb te) tz D σ w.H := dput_run (Q := tz D) o hi hv h hz k
theorem s_dput {i : Nat} {n : Int} {b : β} (o : OwnD K w d rv m) (hi : σ[i]? = some (some (.ref d))) (hv : EvD K te σ w rv b) (h : EvD K tb σ w Rep.int n) (hz : m.length < 100000)
    (k : ∀ w', Mt d w w' → OwnD K w' d rv (putI m n b) → D.nx σ w'.H) : sDPut (tVar i) tb te D σ w.H := dput_run (Q := D.nx) o hi hv h hz k
/-- {} -/
theorem dnew_run {Q : VK} (rv : Rep β) (k : ∀ p w', Gr w w' → w.H p = none → OwnD K w' p rv [] → Q (.ref p) w'.H) : tDNewK σ w.H Q := fun p hp => k p (w.new p _ hp) (gr_new hp) hp ⟨[], own_new hp, .nil⟩
/-! ### tuples walked -/
theorem ei_tup {r : Rep α} {l : List α} {tr : TA} (h : EvL K tr σ w r l) (hz : l.length ≤ 100000 := by first | decide | simp) : EvI K (iTup K (tTup tr)) σ w r l := fun w1 g R q =>
  h w1 g _ fun vs w2 g2 x => ⟨by rw [paired_len x]; exact sz5 hz, fun p hp => by
    have hs : ∀ w' : Wd, Ex (w2.put p (.tup vs)).S w'.S → SqT K w'.H p vs := fun w' e => Evl.ex_t w'.ex (SqT.of (e _ _ put_s))
    refine ⟨p, rfl, ⟨vs, SqT.of upd_same⟩, q (Itt K p) (w2.put p _) (g2.trans (gr_put hp)) fun w3 x3 i => ⟨fun b hb => ?_, fun hi => ⟨vs, hs w3 x3, by rw [paired_len x]; exact hi⟩⟩⟩
    obtain ⟨v, hv, hr⟩ := paired_get x hb
    refine ⟨⟨vs, v, hs w3 x3, hv⟩, fun y H' hy => ?_⟩
    obtain ⟨rfl, f⟩ := hy
    have := f vs (hs w3 x3)
    rw [hv] at this
    cases this
    exact ⟨w3, rfl, Gr.refl _, r.m ((gr_put hp).s.trans x3) hr⟩⟩
/-- values as they are -/
def Rep.raw : Rep V := ⟨fun _ _ v a => v = a, fun _ h => h⟩
theorem raw_paired {S : Hp} {xs l : List V} (h : Paired (Rep.raw.r K S) xs l) : xs = l := by
  induction h with
  | nil => rfl
  | cons r _ ih => rw [show _ = _ from r, ih]
theorem paired_raw {S : Hp} (l : List V) : Paired (Rep.raw.r K S) l l := by
  induction l with
  | nil => exact .nil
  | cons a r ih => exact .cons rfl ih
end
end WK
namespace WK
open PySem PySem.Spec PyProof.Rows L2
section
variable {K : PySem.W.Frag} {σ : L2.St} {w w' : Wd} {ta tb tc te : TE} {α β : Type} {e r : Rep α} {rb : Rep β} {l : List α} {D : Ends} {tz : TS} {a : α} {b : β}
/-- a, b = e, e' where the tuple is made and taken apart -/
theorem tup_run {i j n : Nat} {x y : V} {Q : L2.St → Hp → Prop} (hn : n = 2) (k : ∀ w', Gr w w' → Q ((σ.set i (some x)).set j (some y)) w'.H) :
    [x, y].length ≤ sizeLine ∧ ∀ p, w.H p = none → gTup K n (gCons (gName i) (gCons (gName j) gNil)) (.ref p) σ (upd w.H p (.tup [x, y])) Q :=
  ⟨by show 2 ≤ sizeLine; decide, fun p hp => ⟨p, [x, y], rfl, SqT.of upd_same, hn.symm, x, [y], rfl, y, [], rfl, rfl, k (w.put p _) (gr_put hp)⟩⟩
theorem q_tupVV {i j n : Nat} (h : EvD K ta σ w r a) (h2 : EvD K tb σ w rb b) (hn : n = 2) (k : ∀ v v' w', Gr w w' → r.r K w'.S v a → rb.r K w'.S v' b → tz D ((σ.set i (some v)).set j (some v')) w'.H) :
    tSeq (tAsg (tTup (tCons ta (tCons tb tNil))) (gTup K n (gCons (gName i) (gCons (gName j) gNil)))) tz D σ w.H :=
  h w (Gr.refl _) _ fun v w2 g2 x => h2 w2 g2 _ fun v' w3 g3 y => tup_run (Q := tz D) hn fun w4 g4 => k v v' w4 ((g2.trans g3).trans g4) (r.m (g3.trans g4).s x) (rb.m g4.s y)
theorem q_tupNV {i j n : Nat} (h : EvN K ta σ w e l) (h2 : EvD K tb σ w rb b) (hn : n = 2) (k : ∀ p v' w', Gr w w' → w.H p = none → OwnL K w' p e l → rb.r K w'.S v' b → tz D ((σ.set i (some (.ref p))).set j (some v')) w'.H) :
    tSeq (tAsg (tTup (tCons ta (tCons tb tNil))) (gTup K n (gCons (gName i) (gCons (gName j) gNil)))) tz D σ w.H :=
  h w (Gr.refl _) _ fun p w2 g2 n2 o2 => h2 w2 g2 _ fun v' w3 g3 y => tup_run (Q := tz D) hn fun w4 g4 => k p v' w4 ((g2.trans g3).trans g4) n2 (o2.gr (g3.trans g4)) (rb.m g4.s y)
theorem q_tupVN {i j n : Nat} (h : EvD K ta σ w rb b) (h2 : EvN K tb σ w e l) (hn : n = 2) (k : ∀ v p w', Gr w w' → rb.r K w'.S v b → w.H p = none → OwnL K w' p e l → tz D ((σ.set i (some v)).set j (some (.ref p))) w'.H) :
    tSeq (tAsg (tTup (tCons ta (tCons tb tNil))) (gTup K n (gCons (gName i) (gCons (gName j) gNil)))) tz D σ w.H :=
  h w (Gr.refl _) _ fun v w2 g2 x => h2 w2 g2 _ fun p w3 g3 n3 o3 => tup_run (Q := tz D) hn fun w4 g4 => k v p w4 ((g2.trans g3).trans g4) (rb.m (g3.trans g4).s x) (fr_back g2 n3) (o3.gr g4)
/-- what is opened: two values side by side, an operator, a call of two built-in arguments -/
theorem par2x {i j : Nat} {t1 t2 : TE} {H : Hp} (h : t1 σ H fun x H1 => t2 σ H1 fun y H2 => ∃ u v, [x, y] = [u, v] ∧ tz D ((σ.set i (some u)).set j (some v)) H2) : tSeq (tPar i j (tCons t1 (tCons t2 tNil))) tz D σ H := h
theorem add_run {t1 t2 : TE} {H : Hp} {Q : VK} (h : t1 σ H fun x H1 => t2 σ H1 fun y H2 => ∃ i j, x = .int i ∧ y = .int j ∧ Q (.int (i + j)) H2) : tOp (rI0 fun i j => .int (i + j)) t1 t2 σ H Q := h
end
end WK
namespace WK
open PySem PySem.Spec PyProof.Rows L2
section
variable {K : PySem.W.Frag} {σ : L2.St} {w w' : Wd} {ta tb tc te : TE} {α β : Type} {e r : Rep α} {rb : Rep β} {l : List α} {D : Ends} {tz : TS} {a : α} {b : β}
theorem s_par {i j : Nat} (h : EvD K ta σ w r a) (h2 : EvD K tb σ w rb b) (k : ∀ v v' w', Gr w w' → r.r K w'.S v a → rb.r K w'.S v' b → D.nx ((σ.set i (some v)).set j (some v')) w'.H) : tPar i j (tCons ta (tCons tb tNil)) D σ w.H :=
  h w (Gr.refl _) _ fun v w2 g2 x => h2 w2 g2 _ fun v' w3 g3 y => ⟨v, v', rfl, k v v' w3 (g2.trans g3) (r.m g3.s x) y⟩
end
end WK

/-! WK, part 8: several own objects read as if they were settled; loops over own lists. -/
namespace WK
open PySem PySem.Spec PyProof.Rows L2
/-- the objects at X settled -/
def Wd.fixs (w : Wd) (X : List Addr) : Wd := ⟨fun a => if a ∈ X then w.H a else w.S a, w.H, fun a u e => by
  have e : (if a ∈ X then w.H a else w.S a) = some u := e
  by_cases h : a ∈ X
  · rw [if_pos h] at e; exact e
  · rw [if_neg h] at e; exact w.ex a u e⟩
def Wd.offs (w : Wd) (X : List Addr) : Wd := ⟨fun a => if a ∈ X then none else w.S a, w.H, fun a u e => by
  have e : (if a ∈ X then none else w.S a) = some u := e
  by_cases h : a ∈ X
  · rw [if_pos h] at e; cases e
  · rw [if_neg h] at e; exact w.ex a u e⟩
theorem fixs_ex {w : Wd} {X : List Addr} : Ex w.S (w.fixs X).S := fun a u e => by
  show (if a ∈ X then w.H a else w.S a) = some u
  by_cases h : a ∈ X
  · rw [if_pos h]; exact w.ex a u e
  · rw [if_neg h]; exact e
theorem fixs_at {w : Wd} {X : List Addr} {a : Addr} (h : a ∈ X) : (w.fixs X).S a = w.H a := if_pos h
theorem fixs_gr {w w1 : Wd} {X : List Addr} (hX : ∀ a ∈ X, w.H a ≠ none) (g : Gr w w1) : Gr (w.fixs X) (w1.fixs X) :=
  ⟨fun a u e => by
    have e : (if a ∈ X then w.H a else w.S a) = some u := e
    show (if a ∈ X then w1.H a else w1.S a) = some u
    by_cases h : a ∈ X
    · rw [if_pos h] at e ⊢; exact g.h a u e
    · rw [if_neg h] at e ⊢; exact g.s a u e, g.h, fun p hp hn => by
    have hn : (if p ∈ X then w.H p else w.S p) = none := hn
    show (if p ∈ X then w1.H p else w1.S p) = none
    by_cases h : p ∈ X
    · rw [if_pos h] at hn; exact absurd hn hp
    · rw [if_neg h] at hn ⊢; exact g.n p hp hn⟩
theorem offs_gr {w1 w2 : Wd} {X : List Addr} (hX : ∀ a ∈ X, w1.S a = none) (g : Gr (w1.fixs X) w2) : Gr w1 (w2.offs X) :=
  ⟨fun a u e => by
    show (if a ∈ X then none else w2.S a) = some u
    have h : a ∉ X := fun z => by rw [hX a z] at e; cases e
    rw [if_neg h]
    refine g.s a u ?_
    show (if a ∈ X then w1.H a else w1.S a) = some u
    rw [if_neg h]; exact e, g.h, fun p hp hn => by
    show (if p ∈ X then none else w2.S p) = none
    by_cases h : p ∈ X
    · rw [if_pos h]
    · rw [if_neg h]
      refine g.n p hp ?_
      show (if p ∈ X then w1.H p else w1.S p) = none
      rw [if_neg h]; exact hn⟩
/-- settled for good, from where they were not yet -/
theorem fixs_from {w0 w : Wd} {X : List Addr} (g : Gr w0 w) (h : ∀ a ∈ X, w0.H a = none) : Gr w0 (w.fixs X) :=
  ⟨g.s.trans fixs_ex, g.h, fun p hp hn => by
    show (if p ∈ X then w.H p else w.S p) = none
    rw [if_neg fun z => hp (h p z)]
    exact g.n p hp hn⟩
def Owns (w : Wd) (X : List Addr) : Prop := ∀ a ∈ X, w.S a = none ∧ w.H a ≠ none
theorem Owns.gr {w w' : Wd} {X : List Addr} (h : Owns w X) (g : Gr w w') : Owns w' X := fun a ha => ⟨g.n a (h a ha).2 (h a ha).1, ex_ne g.h (h a ha).2⟩
section
variable {K : PySem.W.Frag} {σ : L2.St} {w w' : Wd} {te tl : TE} {t : TT} {α β : Type} {e : Rep α} {r : Rep β} {l : List α} {b : β} {X : List Addr}
theorem ev_peeks (hX : Owns w X) (hf : r.Flat) (h : EvD K te σ (w.fixs X) r b) : EvD K te σ w r b := fun w1 g Q q =>
  h (w1.fixs X) (fixs_gr (fun a ha => (hX a ha).2) g) Q fun v w2 g2 x => q v (w2.offs X) (offs_gr (fun a ha => ((hX.gr g) a ha).1) g2) (hf _ _ _ _ _ x)
theorem et_peeks {c : Bool} (hX : Owns w X) (h : EvT K t σ (w.fixs X) c) : EvT K t σ w c := fun w1 g Q q =>
  h (w1.fixs X) (fixs_gr (fun a ha => (hX a ha).2) g) Q fun w2 g2 => q (w2.offs X) (offs_gr (fun a ha => ((hX.gr g) a ha).1) g2)
theorem OwnL.owns {p : Addr} (h : OwnL K w p e l) : w.S p = none ∧ w.H p ≠ none := by obtain ⟨xs, o, _⟩ := h; exact ⟨o.s, o.ne⟩
theorem OwnL.in_fixs {p : Addr} (h : OwnL K w p e l) (hp : p ∈ X) : (Rep.list e).r K (w.fixs X).S (.ref p) l := by
  obtain ⟨xs, o, hx⟩ := h
  exact ⟨p, xs, rfl, SqL.of (by rw [fixs_at hp]; exact o.h), paired_mono hx fun _ _ q => e.m fixs_ex q⟩
/-! loops over an own list that stands still -/
def WalksP (K : PySem.W.Frag) (J : It) (G : Wd → Prop) (e : Rep α) (l : List α) : Prop := ∀ w', G w' → ∀ i,
  (∀ a, l[i]? = some a → J.go i w'.H ∧ ∀ x H', J.yld i w'.H x H' → ∃ w2 : Wd, w2.H = H' ∧ Gr w' w2 ∧ e.r K w2.S x a) ∧ (l.length ≤ i → J.stop i w'.H)
def EvIP (K : PySem.W.Frag) (wi : TI) (σ : L2.St) (w : Wd) (G : Wd → Prop) (e : Rep α) (l : List α) : Prop := ∀ w1, Gr w w1 → ∀ R : It → Hp → Prop, (∀ J w2, Gr w1 w2 → WalksP K J G e l → R J w2.H) → wi σ w1.H R
theorem own_walk {p : Addr} : WalksP K (Itl K p) (fun w' => OwnL K w' p e l) e l := fun w3 o i => by
  obtain ⟨xs, ow, hp⟩ := o
  refine ⟨fun b hb => ?_, fun hi => ⟨xs, SqL.of ow.h, by rw [paired_len hp]; exact hi⟩⟩
  obtain ⟨v, hv, hr⟩ := paired_get hp hb
  refine ⟨⟨xs, v, SqL.of ow.h, hv⟩, fun x H' hy => ?_⟩
  obtain ⟨rfl, f⟩ := hy
  have := f xs (SqL.of ow.h)
  rw [hv] at this
  cases this
  exact ⟨w3, rfl, Gr.refl _, hr⟩
theorem ei_listO {p : Addr} {i : Nat} (o : OwnL K w p e l) (hi : σ[i]? = some (some (.ref p))) : EvIP K (iList K (tVar i)) σ w (fun w' => OwnL K w' p e l) e l := fun w1 g R q => by
  obtain ⟨xs, ow, hp⟩ := o.gr g
  exact ⟨_, hi, p, rfl, ⟨xs, SqL.of ow.h⟩, q _ w1 (Gr.refl _) own_walk⟩
theorem ei_enumO {p : Addr} {i : Nat} (o : OwnL K w p e l) (hi : σ[i]? = some (some (.ref p))) : EvIP K (iEnum K (tCons (tVar i) tNil)) σ w (fun w' => OwnL K w' p e l) (Rep.pair Rep.int e) (enumI l) := fun w1 g R q => by
  obtain ⟨xs, ow, hp⟩ := o.gr g
  refine ⟨_, hi, p, xs, rfl, SqL.of ow.h, q _ w1 (Gr.refl _) fun w3 o3 i => ?_⟩
  obtain ⟨ys, oy, hy⟩ := o3
  refine ⟨fun b hb => ?_, fun hi => ⟨ys, SqL.of oy.h, by rw [paired_len hy]; rw [enumI_len] at hi; exact hi⟩⟩
  rw [enumI_get] at hb
  cases hl : l[i]? with
  | none => rw [hl] at hb; cases hb
  | some c =>
    rw [hl] at hb
    cases hb
    obtain ⟨v, hv, hr⟩ := paired_get hy hl
    refine ⟨⟨ys, v, SqL.of oy.h, hv⟩, fun x H' hx => ?_⟩
    obtain ⟨T, y, rfl, nT, rfl, f⟩ := hx
    have := f ys (SqL.of oy.h)
    rw [hv] at this
    cases this
    exact ⟨w3.put T _, rfl, gr_put nT, T, _, _, rfl, SqT.of put_s, rfl, e.m (gr_put nT).s hr⟩
variable {D : Ends} {tb tz : TS} {g : TG}
theorem for_coreP {wi : TI} {G : Wd → Prop} (h : EvIP K wi σ w G e l) (I : Nat → L2.St → Wd → Prop) (h0 : ∀ w1, Gr w w1 → I 0 σ w1) (hG : ∀ i σ' w', I i σ' w' → G w')
    (hs : ∀ i a v σ' w' w2, l[i]? = some a → I i σ' w' → Gr w' w2 → e.r K w2.S v a → g v σ' w2.H fun σ2 H2 => tb { D with nx := Nxt (I (i + 1)) w', ct := Nxt (I (i + 1)) w', bk := D.nx } σ2 H2)
    (hd : ∀ σ' w', I l.length σ' w' → D.nx σ' w'.H) : tFor wi g tb D σ w.H := h w (Gr.refl _) _ fun J w1 g1 hJ => by
  refine ⟨fun i m σ H => m = l.length - i ∧ i ≤ l.length ∧ ∃ w' : Wd, w'.H = H ∧ I i σ w', ⟨l.length, by simp, Nat.zero_le _, w1, rfl, h0 w1 g1⟩, ?_⟩
  rintro i m σ' H ⟨rfl, hi, w', rfl, hI⟩
  obtain ⟨j1, j2⟩ := hJ w' (hG _ _ _ hI) i
  by_cases hlt : i < l.length
  · have hget : l[i]? = some l[i] := by simp [hlt]
    obtain ⟨hgo, hy⟩ := j1 _ hget
    refine .inr ⟨hgo, Nxt (I (i + 1)) w', fun σ2 H2 hN => ?_, fun x H' hx => ?_⟩
    · obtain ⟨w3, e3, x3, i3⟩ := hN
      exact ⟨l.length - (i + 1), by omega, rfl, hlt, w3, e3, i3⟩
    · obtain ⟨w4, rfl, g4, hr⟩ := hy x H' hx
      exact hs i _ x σ' w' w4 hget hI g4 hr
  · have e0 : i = l.length := by omega
    subst e0
    exact .inl ⟨j2 (Nat.le_refl _), hd σ' w' hI⟩
theorem q_for2P {wi : TI} {G : Wd → Prop} {i j n : Nat} {l : List (α × β)} (h : EvIP K wi σ w G (Rep.pair e r) l) (hn : n = 2) (I : Nat → L2.St → Wd → Prop) (h0 : ∀ w1, Gr w w1 → I 0 σ w1) (hG : ∀ i σ' w', I i σ' w' → G w')
    (hs : ∀ m a v v' σ' w' w2, l[m]? = some a → I m σ' w' → Gr w' w2 → e.r K w2.S v a.1 → r.r K w2.S v' a.2 → tb { D with nx := Nxt (I (m + 1)) w', ct := Nxt (I (m + 1)) w', bk := tz D } ((σ'.set i (some v)).set j (some v')) w2.H)
    (hd : ∀ σ' w', I l.length σ' w' → tz D σ' w'.H) : tSeq (tFor wi (gTup K n (gCons (gName i) (gCons (gName j) gNil))) tb) tz D σ w.H :=
  for_coreP (D := { D with nx := tz D }) h I h0 hG (fun m a v σ' w' w2 x1 x2 x3 x4 => g_pair x4 hn fun v1 v2 y1 y2 => hs m a v1 v2 σ' w' w2 x1 x2 x3 y1 y2) hd
theorem cut_init {l : List α} : cut l none (some (-1)) = l.dropLast := by
  unfold cut
  rw [HT.sIx_none]
  have : HT.sIx l.length l.length (some (-1)) = l.length - 1 := by
    unfold HT.sIx
    simp only []
    split <;> omega
  rw [this, List.dropLast_eq_take]; simp
end
end WK
namespace WK
open PySem PySem.Spec PyProof.Rows L2
theorem asgX {te : TE} {i : Nat} {tz : TS} {D : Ends} {σ : L2.St} {H : Hp} (h : te σ H fun x H1 => tz D (σ.set i (some x)) H1) : tSeq (tAsg te (gName i)) tz D σ H := h
end WK

/-! WK, part 9: how long the texts of lists are. -/
namespace WK
open PySem PySem.Spec PyProof.Rows L2
theorem int_show {i : Int} {k : Nat} (hk : 0 < k) (h : i.natAbs < 10 ^ k) : (PyData.int i).shown.length ≤ k + 1 := by
  show (Str.ofString (toString i)).length ≤ k + 1
  have := int_text_length_le10 hk h
  rw [PySem.ofString_length]
  exact this
theorem text_len : ∀ ts : List Str, (listText ts).length ≤ piled ts + 2
  | [] => by decide
  | t :: r => by
    show (textFrom 0 "[" (t :: r) ++ ("]" : Str)).length ≤ _
    have e : textFrom 0 "[" (t :: r) = textFrom 1 (("[" : Str) ++ ("" : String) ++ t) r := rfl
    rw [e]
    have h1 := textFrom_length_pos r 1 (("[" : Str) ++ ("" : String) ++ t) (by decide)
    have h2 : ((("[" : Str) ++ ("" : String) ++ t) : Str).length = 1 + t.length := by
      show (("[" : Str) ++ (Str.ofString "") ++ t).length = 1 + t.length
      simp [Str.length_append]
      rfl
    rw [piled_cons]
    have h3 : ∀ a b : Str, (a ++ b).length = a.length + b.length := fun a b => by simp [Str.length_append]
    rw [h3, h1, h2]
    show 1 + t.length + piled r + 1 ≤ _
    omega
theorem tup_len (ts : List Str) : (tupleText ts).length ≤ piled ts + 4 := by
  have h3 : ∀ a b : Str, (a ++ b).length = a.length + b.length := fun a b => by simp [Str.length_append]
  unfold tupleText
  rw [h3, h3]
  have h4 : (Str.join ", " ts).length ≤ piled ts := by
    by_cases e : ts = []
    · subst e; decide
    · have := join_length_add ts e; omega
  have h5 : ((if (ts.length == 1) = true then ",)" else ")" : String) : Str).length ≤ 2 := by split <;> decide
  have h6 : ("(" : Str).length = 1 := rfl
  omega
theorem piled_le {ts : List Str} {k : Nat} (h : ∀ t ∈ ts, t.length ≤ k) : piled ts ≤ ts.length * (k + 2) := by
  induction ts with
  | nil => simp [piled]
  | cons t r ih =>
    rw [piled_cons, List.length_cons, Nat.add_mul]
    have := ih fun x hx => h x (List.mem_cons_of_mem _ hx)
    have := h t List.mem_cons_self
    omega
theorem shownAll_map (ds : List PyData) : PyData.shownAll ds = ds.map PyData.shown := by
  induction ds with
  | nil => rfl
  | cons d r ih => show d.shown :: _ = _; rw [ih]; rfl
theorem list_show {ds : List PyData} {k : Nat} (h : ∀ d ∈ ds, d.shown.length ≤ k) : (PyData.list ds).shown.length ≤ ds.length * (k + 2) + 2 := by
  show (listText (PyData.shownAll ds)).length ≤ _
  rw [shownAll_map]
  have h1 := text_len (ds.map PyData.shown)
  have h2 := piled_le (ts := ds.map PyData.shown) (k := k) fun t ht => by
    obtain ⟨d, hd, rfl⟩ := List.mem_map.mp ht
    exact h d hd
  rw [List.length_map] at h2
  omega
theorem tup_show {ds : List PyData} {k : Nat} (h : ∀ d ∈ ds, d.shown.length ≤ k) : (PyData.tuple ds).shown.length ≤ ds.length * (k + 2) + 4 := by
  show (tupleText (PyData.shownAll ds)).length ≤ _
  rw [shownAll_map]
  have h1 := tup_len (ds.map PyData.shown)
  have h2 := piled_le (ts := ds.map PyData.shown) (k := k) fun t ht => by
    obtain ⟨d, hd, rfl⟩ := List.mem_map.mp ht
    exact h d hd
  rw [List.length_map] at h2
  omega
theorem showableAll_of {ds : List PyData} (h : ∀ d ∈ ds, d.showable = true) : PyData.showableAll ds = true := by
  induction ds with
  | nil => rfl
  | cons d r ih => show (d.showable && _) = true; rw [h d List.mem_cons_self, ih fun x hx => h x (List.mem_cons_of_mem _ hx)]; rfl
theorem int_able {i : Int} {k : Nat} (hk : 0 < k) (h : i.natAbs < 2 ^ k) (hk2 : k ≤ 1920) : (PyData.int i).showable = true := by
  show decide (i.natAbs.log2 < 1920) = true
  rw [decide_eq_true_eq]
  exact Nat.lt_of_lt_of_le (PySem.Flt.log2_lt_of hk h) hk2
/-- a list of ints of at most k digits -/
theorem ints_show {l : List Int} {k : Nat} (hk : 0 < k) (h : ∀ i ∈ l, i.natAbs < 10 ^ k) : (PyData.list (l.map PyData.int)).shown.length ≤ l.length * (k + 3) + 2 := by
  have := list_show (ds := l.map PyData.int) (k := k + 1) fun d hd => by
    obtain ⟨i, hi, rfl⟩ := List.mem_map.mp hd
    exact int_show hk (h i hi)
  rwa [List.length_map] at this
theorem lists_show {ls : List (List Int)} {k n : Nat} (hk : 0 < k) (h : ∀ l ∈ ls, l.length ≤ n ∧ ∀ i ∈ l, i.natAbs < 10 ^ k) : (PyData.list (ls.map fun l => PyData.list (l.map PyData.int))).shown.length ≤ ls.length * (n * (k + 3) + 4) + 2 := by
  have := list_show (ds := ls.map fun l => PyData.list (l.map PyData.int)) (k := n * (k + 3) + 2) fun d hd => by
    obtain ⟨l, hl, rfl⟩ := List.mem_map.mp hd
    have := ints_show hk (h l hl).2
    have := Nat.mul_le_mul_right (k + 3) (h l hl).1
    omega
  rwa [List.length_map] at this
theorem ints_able {l : List Int} (h : ∀ i ∈ l, i.natAbs < 2 ^ 1900) : (PyData.list (l.map PyData.int)).showable = true :=
  showableAll_of fun d hd => by obtain ⟨i, hi, rfl⟩ := List.mem_map.mp hd; exact int_able (by decide) (h i hi) (by decide)
theorem lists_able {ls : List (List Int)} (h : ∀ l ∈ ls, ∀ i ∈ l, i.natAbs < 2 ^ 1900) : (PyData.list (ls.map fun l => PyData.list (l.map PyData.int))).showable = true :=
  showableAll_of fun d hd => by obtain ⟨l, hl, rfl⟩ := List.mem_map.mp hd; exact ints_able (h l hl)
theorem size_le {n : Nat} (h : n ≤ 16777216) : n ≤ sizeLine := by rw [sizeLine_eq]; exact h
end WK

namespace WK
open PySem PySem.Spec PyProof.Rows L2
def topS (i : Nat) : Stmt := PySem.Challenge.pw_weeksums_k21_days_joined_by_two_lengths.main.body.getD i (.Pass ⟨0, 0, 0, 0⟩)
abbrev s_need_length : Stmt := topS 7
abbrev s_need_number : Stmt := topS 8
abbrev s_steps_of : Stmt := topS 10
abbrev s_joined_days : Stmt := topS 11
abbrev s__law_jar : Stmt := topS 13
abbrev s__law_dip : Stmt := topS 14
abbrev s__law_divisor : Stmt := topS 15
abbrev s__law_sets : Stmt := topS 16
abbrev s__law_right : Stmt := topS 17
abbrev s_law : Stmt := topS 18
abbrev FnP (K : PySem.W.Frag) (x qual : Str) (st : Stmt) (f : Addr) (fd : FuncData) : Prop := FunD K x qual (defArgs st) (defBody st) (defScope st) [] [] f fd
theorem sc_need_length : FnScope ["length"] ["length"] (defScope s_need_length) := ⟨rfl, rfl, rfl, by decide +kernel, rfl, by decide +kernel, by decide +kernel⟩
theorem sc_need_number : FnScope ["number", "least", "most"] ["number", "least", "most"] (defScope s_need_number) := ⟨rfl, rfl, rfl, by decide +kernel, rfl, by decide +kernel, by decide +kernel⟩
theorem sc_steps_of : FnScope ["count", "length", "other_length", "found", "day", "near", "other"] ["count", "length", "other_length"] (defScope s_steps_of) := ⟨rfl, rfl, rfl, by decide +kernel, rfl, by decide +kernel, by decide +kernel⟩
theorem sc_joined_days : FnScope ["count", "length", "other_length", "steps", "seen", "found", "day", "reached", "here", "other"] ["count", "length", "other_length"] (defScope s_joined_days) := ⟨rfl, rfl, rfl, by decide +kernel, rfl, by decide +kernel, by decide +kernel⟩
theorem sc__law_jar : FnScope ["script", "k", "cell_here"] ["script", "k"] (defScope s__law_jar) := ⟨rfl, rfl, rfl, by decide +kernel, rfl, by decide +kernel, by decide +kernel⟩
theorem sc__law_dip : FnScope ["jar", "many", "digit", "mixed"] ["jar", "many"] (defScope s__law_dip) := ⟨rfl, rfl, rfl, by decide +kernel, rfl, by decide +kernel, by decide +kernel⟩
theorem sc__law_divisor : FnScope ["one", "two"] ["one", "two"] (defScope s__law_divisor) := ⟨rfl, rfl, rfl, by decide +kernel, rfl, by decide +kernel, by decide +kernel⟩
theorem sc__law_sets : FnScope ["many", "one", "two", "names_here", "is_changed", "day_here", "step", "least", "found", "name_here", "some"] ["many", "one", "two"] (defScope s__law_sets) := ⟨rfl, rfl, rfl, by decide +kernel, rfl, by decide +kernel, by decide +kernel⟩
theorem sc__law_right : FnScope ["many", "one", "two", "due", "told", "common", "spot", "some"] ["many", "one", "two"] (defScope s__law_right) := ⟨rfl, rfl, rfl, by decide +kernel, rfl, by decide +kernel, by decide +kernel⟩
theorem sc_law : FnScope ["script", "k", "jar", "turn", "one", "two", "enough", "many"] ["script"] (defScope s_law) := ⟨rfl, rfl, rfl, by decide +kernel, rfl, by decide +kernel, by decide +kernel⟩
structure Tx (K : PySem.W.Frag) (mg : Str → Option Value) where
  n_range : mg "range" = none
  n_enumerate : mg "enumerate" = none
  n_max : mg "max" = none
  n_abs : mg "abs" = none
  n_int : mg "int" = none
  n_list : mg "list" = none
  n_repr : mg "repr" = none
  n_len : mg "len" = none
  n_min : mg "min" = none
  n_sorted : mg "sorted" = none
  c_MOST_DAYS : ∃ t, mg "MOST_DAYS" = some (.int 67 t)
  c_MOST_LENGTH : ∃ t, mg "MOST_LENGTH" = some (.int 8 t)
  d_need_length : FuncData
  F_need_length : FnP K "need_length" "need_length" s_need_length (He.ga K "need_length") d_need_length
  g_need_length : mg "need_length" = some (.ref (He.ga K "need_length"))
  d_need_number : FuncData
  F_need_number : FnP K "need_number" "need_number" s_need_number (He.ga K "need_number") d_need_number
  g_need_number : mg "need_number" = some (.ref (He.ga K "need_number"))
  d_steps_of : FuncData
  F_steps_of : FnP K "steps_of" "steps_of" s_steps_of (He.ga K "steps_of") d_steps_of
  g_steps_of : mg "steps_of" = some (.ref (He.ga K "steps_of"))
  d_joined_days : FuncData
  F_joined_days : FnP K "joined_days" "joined_days" s_joined_days (He.ga K "joined_days") d_joined_days
  g_joined_days : mg "joined_days" = some (.ref (He.ga K "joined_days"))
  d__law_jar : FuncData
  F__law_jar : FnP K "_law_jar" "_law_jar" s__law_jar (He.ga K "_law_jar") d__law_jar
  g__law_jar : mg "_law_jar" = some (.ref (He.ga K "_law_jar"))
  d__law_dip : FuncData
  F__law_dip : FnP K "_law_dip" "_law_dip" s__law_dip (He.ga K "_law_dip") d__law_dip
  g__law_dip : mg "_law_dip" = some (.ref (He.ga K "_law_dip"))
  d__law_divisor : FuncData
  F__law_divisor : FnP K "_law_divisor" "_law_divisor" s__law_divisor (He.ga K "_law_divisor") d__law_divisor
  g__law_divisor : mg "_law_divisor" = some (.ref (He.ga K "_law_divisor"))
  d__law_sets : FuncData
  F__law_sets : FnP K "_law_sets" "_law_sets" s__law_sets (He.ga K "_law_sets") d__law_sets
  g__law_sets : mg "_law_sets" = some (.ref (He.ga K "_law_sets"))
  d__law_right : FuncData
  F__law_right : FnP K "_law_right" "_law_right" s__law_right (He.ga K "_law_right") d__law_right
  g__law_right : mg "_law_right" = some (.ref (He.ga K "_law_right"))
  d_law : FuncData
  F_law : FnP K "law" "law" s_law (He.ga K "law") d_law
  g_law : mg "law" = some (.ref (He.ga K "law"))
theorem b_need_length {K : PySem.W.Frag} {mg : Str → Option Value} (T : Tx K mg) : Binds K T.d_need_length ["length"] [] := FunD.bindsN T.F_need_length fun _ _ _ _ _ _ us hl => match us, hl with | [_], _ => rfl
theorem b_need_number {K : PySem.W.Frag} {mg : Str → Option Value} (T : Tx K mg) : Binds K T.d_need_number ["number", "least", "most"] [] := FunD.bindsN T.F_need_number fun _ _ _ _ _ _ us hl => match us, hl with | [_, _, _], _ => rfl
theorem b_steps_of {K : PySem.W.Frag} {mg : Str → Option Value} (T : Tx K mg) : Binds K T.d_steps_of ["count", "length", "other_length"] [] := FunD.bindsN T.F_steps_of fun _ _ _ _ _ _ us hl => match us, hl with | [_, _, _], _ => rfl
theorem kr_joined_days {K : PySem.W.Frag} {mg : Str → Option Value} (T : Tx K mg) : KRev T.d_joined_days ["count", "length", "other_length"] := FunD.revN T.F_joined_days fun _ _ _ _ _ _ us hl => match us, hl with | [_, _, _], _ => rfl
theorem b_joined_days {K : PySem.W.Frag} {mg : Str → Option Value} (T : Tx K mg) : Binds K T.d_joined_days ["count", "length", "other_length"] [] := FunD.bindsN T.F_joined_days fun _ _ _ _ _ _ us hl => match us, hl with | [_, _, _], _ => rfl
theorem b__law_jar {K : PySem.W.Frag} {mg : Str → Option Value} (T : Tx K mg) : Binds K T.d__law_jar ["script", "k"] [] := FunD.bindsN T.F__law_jar fun _ _ _ _ _ _ us hl => match us, hl with | [_, _], _ => rfl
theorem b__law_dip {K : PySem.W.Frag} {mg : Str → Option Value} (T : Tx K mg) : Binds K T.d__law_dip ["jar", "many"] [] := FunD.bindsN T.F__law_dip fun _ _ _ _ _ _ us hl => match us, hl with | [_, _], _ => rfl
theorem b__law_divisor {K : PySem.W.Frag} {mg : Str → Option Value} (T : Tx K mg) : Binds K T.d__law_divisor ["one", "two"] [] := FunD.bindsN T.F__law_divisor fun _ _ _ _ _ _ us hl => match us, hl with | [_, _], _ => rfl
theorem b__law_sets {K : PySem.W.Frag} {mg : Str → Option Value} (T : Tx K mg) : Binds K T.d__law_sets ["many", "one", "two"] [] := FunD.bindsN T.F__law_sets fun _ _ _ _ _ _ us hl => match us, hl with | [_, _, _], _ => rfl
theorem b__law_right {K : PySem.W.Frag} {mg : Str → Option Value} (T : Tx K mg) : Binds K T.d__law_right ["many", "one", "two"] [] := FunD.bindsN T.F__law_right fun _ _ _ _ _ _ us hl => match us, hl with | [_, _, _], _ => rfl
theorem b_law {K : PySem.W.Frag} {mg : Str → Option Value} (T : Tx K mg) : Binds K T.d_law ["script"] [] := FunD.bindsN T.F_law fun _ _ _ _ _ _ us hl => match us, hl with | [_], _ => rfl
end WK

namespace WK
open PySem PySem.Spec PyProof.Rows L2
local macro_rules | `(tactic| walk_at "rp") => `(tactic| first
  | assumption
  | (refine rp_gr (by assumption) ?_; walk_at "rp")
  | (refine rp_mt (by assumption) ?_; walk_at "rp")
  | (refine rp_ex (by assumption) ?_; walk_at "rp"))
local macro_rules | `(tactic| walk_at "ow") => `(tactic| first
  | assumption
  | (refine OwnL.gr ?_ (by assumption); walk_at "ow")
  | (refine OwnL.mt ?_ (by assumption) (by first | assumption | exact Ne.symm (by assumption)); walk_at "ow"))
local macro_rules | `(tactic| walk_at "gc") => `(tactic| first
  | assumption
  | exact gc_refl
  | (refine gc_gr ?_ (by assumption); walk_at "gc")
  | (refine gc_mt ?_ (by assumption) (by assumption); walk_at "gc"))
local macro_rules | `(tactic| walk_at "ev") => `(tactic| first
  | exact ev_int
  | exact ev_varI rfl
  | exact ev_varB rfl
  | exact ev_varS rfl
  | exact ev_bl
  | exact ev_str
  | (refine ev_var rfl ?_; walk_at "rp")
  | (refine ev_add ?_ ?_ <;> walk_at "ev")
  | (refine ev_sub ?_ ?_ <;> walk_at "ev")
  | (refine ev_lt ?_ ?_ <;> walk_at "ev")
  | (refine ev_le ?_ ?_ <;> walk_at "ev")
  | (refine ev_gt ?_ ?_ <;> walk_at "ev")
  | (refine ev_ge ?_ ?_ <;> walk_at "ev")
  | (refine ev_eqI ?_ ?_ <;> walk_at "ev")
  | (refine ev_neI ?_ ?_ <;> walk_at "ev")
  | (refine ev_neg ?_; walk_at "ev")
  | (refine ev_max2 ?_ ?_ <;> walk_at "ev")
  | (refine ev_min2 ?_ ?_ <;> walk_at "ev")
  | (refine ev_abs ?_; walk_at "ev")
  | (refine ev_intI ?_; walk_at "ev")
  | (refine ev_intB ?_; walk_at "ev")
  | (refine ev_len ?_; walk_at "ev")
  | (refine ev_sum ?_; walk_at "ev")
  | (refine ev_mod ?_ ?_ (by omega) <;> walk_at "ev")
  | (refine ev_leLe ?_ ?_ ?_ <;> walk_at "ev")
  | (refine ev_leLt ?_ ?_ ?_ <;> walk_at "ev"))
local macro_rules | `(tactic| walk_at "et") => `(tactic| first
  | (refine et_not ?_; walk_at "et")
  | (refine et_test ?_; walk_at "ev")
  | (refine et_B ?_; walk_at "ev"))
end WK

namespace WK
open PySem PySem.Spec PyProof.Rows L2
/-! ### the law's draws -/
/-- a jar: f draws are left to be sure of -/
def Jar (K : PySem.W.Frag) (w : Wd) (p : Addr) (f : Nat) : Prop := ∃ a b c : Int, OwnL K w p Rep.int [a, b, c] ∧ 0 ≤ a ∧ 0 ≤ b ∧ b < 2 ^ 200 ∧ 0 ≤ c ∧ c + f ≤ 2 ^ 60
section
variable {K : PySem.W.Frag} {w w' w0 : Wd} {p q : Addr} {f f' : Nat}
theorem Jar.gr (h : Jar K w p f) (g : Gr w w') : Jar K w' p f := by obtain ⟨a, b, c, o, r⟩ := h; exact ⟨a, b, c, o.gr g, r⟩
theorem Jar.mt (h : Jar K w p f) (m : Mt q w w') (ne : p ≠ q) : Jar K w' p f := by obtain ⟨a, b, c, o, r⟩ := h; exact ⟨a, b, c, o.mt m ne, r⟩
theorem Jar.ne (h : Jar K w p f) : w.H p ≠ none := by obtain ⟨a, b, c, o, r⟩ := h; exact o.ne
theorem Jar.apart (h : Jar K w p f) (z : w.H q = none) : q ≠ p := fun x => h.ne (x ▸ z)
theorem Jar.le (h : Jar K w p f) (l : f' ≤ f) : Jar K w p f' := by obtain ⟨a, b, c, o, h1, h2, h3, h4, h5⟩ := h; exact ⟨a, b, c, o, h1, h2, h3, h4, by omega⟩
end
def spDip (K : PySem.W.Frag) : Sp := fun vs H Q _ => ∃ (wd : Wd) (p : Addr) (m : Int) (f : Nat), wd.H = H ∧ vs = [.ref p, .int m] ∧ Jar K wd p (f + 1) ∧ 0 < m ∧ m.natAbs < 2 ^ 9000 ∧ ∀ r w', Mt p wd w' → Jar K w' p f → 0 ≤ r → r < m → Q (.int r) w'.H
section
variable {P : Program} {w : World} {K : PySem.W.Frag} {mg : Str → Option Value} {base : Heap}
theorem pos_47 : (0 : Int) < 10 ^ (47 : Int).toNat + 91 := by decide +kernel
theorem pos_46 : (0 : Int) < 10 ^ (46 : Int).toNat + 79 := by decide +kernel
theorem lt_47 : (10 : Int) ^ (47 : Int).toNat + 91 < 2 ^ 200 := by decide +kernel
theorem ok__law_dip (T : Tx K mg) : FnOk P w K mg base CX0 1 (He.ga K "_law_dip") T.d__law_dip ["jar", "many"] (spDip K) := by
  have nd := sc__law_dip.nd
  refine FunD.ok T.F__law_dip sc__law_dip (fun vs H Q E h => by obtain ⟨wd, p, m, f, _, rfl, _⟩ := h; rfl) fun cdv A outer s H vs Q E hr h => ⟨_, PSs.nox (pss_cons (ps_if (pt_cmpR op_gt (pe_ix (show IxR _ (rIxL K) from ix_list) (pv 0) pe_int (fun _ _ => rfl)) pe_int (nomark _)) (pss_cons (ps_set (i := 2) nd rfl (Or.inl rfl) (pe_op op_mod (pe_callTy call_int1 (by rfl) T.n_int (by decide +kernel) (pa_cons (pe_ix (show IxR _ (rIxL K) from ix_list) (pv 0) pe_int (fun _ _ => rfl)) pa_nil)) (pv 1)))
      (pss_cons (ps_asg (pe_op op_fdivW (pe_ix (show IxR _ (rIxL K) from ix_list) (pv 0) pe_int (fun _ _ => rfl)) (pv 1)) (pg_sub (pv 0) pe_int set_list))
      (pss_one (ps_ret (pv 2))))) pss_nil)
      (pss_cons (ps_asg (pe_op op_add (pe_ix (show IxR _ (rIxL K) from ix_list) (pv 0) pe_int (fun _ _ => rfl)) pe_int) (pg_sub (pv 0) pe_int set_list))
      (pss_cons (ps_set (i := 3) nd rfl (Or.inl rfl) (pe_op op_mod (pe_callTy call_int1 (by rfl) T.n_int (by decide +kernel) (pa_cons (pe_op op_powW (pe_op op_add (pe_ix (show IxR _ (rIxL K) from ix_list) (pv 0) pe_int (fun _ _ => rfl)) (pe_op op_mulW pe_int (pe_ix (show IxR _ (rIxL K) from ix_list) (pv 0) pe_int (fun _ _ => rfl)))) pe_int) pa_nil)) (pe_op op_add (pe_op op_powW pe_int pe_int) pe_int)))
      (pss_cons (ps_set (i := 3) nd rfl (Or.inl rfl) (pe_op op_mod (pe_callTy call_int1 (by rfl) T.n_int (by decide +kernel) (pa_cons (pe_op op_powW (pe_op op_add (pv 3) (pe_op op_mulW pe_int (pe_ix (show IxR _ (rIxL K) from ix_list) (pv 0) pe_int (fun _ _ => rfl)))) pe_int) pa_nil)) (pe_op op_add (pe_op op_powW pe_int pe_int) pe_int)))
      (pss_one (ps_ret (pe_op op_mod (pe_callTy call_int1 (by rfl) T.n_int (by decide +kernel) (pa_cons (pe_op op_fdivW (pv 3) pe_int) pa_nil)) (pv 1)))))))), ?_⟩
  obtain ⟨wd, p, m, f, rfl, rfl, hj, hm, hm2, q⟩ := h
  obtain ⟨a, b, c, o, ha, hb, hb2, hc, hf⟩ := hj
  refine q_when (K := K) (b := decide (0 < a)) (et_test (ev_gt (ev_ixO o rfl ev_int rfl) ev_int)) (fun h1 w1 g1 => ?_) (fun h1 w1 g1 => ?_)
  · have o1 := o.gr g1
    refine q_asg (K := K) (ev_mod (ev_intI (ev_ixO o1 rfl ev_int rfl)) (ev_varI rfl) hm) fun v w2 g2 r2 => ?_
    cases r2
    have o2 := o1.gr g2
    refine q_set (K := K) (x := 0) o2 rfl (ev_div (ev_ixO o2 rfl ev_int rfl) (ev_varI rfl) ⟨hm, PySem.Flt.log2_lt_of (by decide) hm2⟩) ev_int ⟨by decide, by simp⟩ fun w3 m3 o3 => ?_
    refine s_ret (K := K) (ev_varI rfl) fun v w4 g4 r4 => ?_
    cases r4
    refine q (a % m) w4 (((g1.trans g2).mt o.ne).trans (m3.trans (g4.mt o3.ne))) ⟨a / m, b, c, o3.gr g4, Int.ediv_nonneg ha (by omega), hb, hb2, hc, by omega⟩ (Int.emod_nonneg _ (by omega)) (Int.emod_lt_of_pos _ hm)
  · have o1 := o.gr g1
    refine q_set (K := K) (x := 2) o1 rfl (ev_add (ev_ixO o1 rfl ev_int rfl) ev_int) ev_int ⟨by decide, by simp⟩ fun w2 m2 o2 => ?_
    have o2 : OwnL K w2 p Rep.int [a, b, c + 1] := o2
    have hc1 : (c + 1).natAbs < 2 ^ 61 := by omega
    refine q_asg (K := K) (ev_mod (ev_intI (ev_pow (ev_add (ev_ixO o2 rfl ev_int rfl) (ev_mul ev_int (ev_ixO o2 rfl ev_int rfl) (wide_mul (a := 26) (b := 61) (by decide) hc1 (by decide) (by decide) (by decide)))) ev_int (pow_ok (n := 201) (by decide) (by omega) (by decide) (by decide)))) (ev_add (ev_pow ev_int ev_int (pow_ok (n := 4) (by decide) (by decide) (by decide) (by decide))) ev_int) pos_47) fun v w3 g3 r3 => ?_
    cases r3
    have o3 := o2.gr g3
    have l1 := Int.emod_lt_of_pos ((b + 60000049 * (c + 1)) ^ (3 : Int).toNat) pos_47
    have l2 := Int.emod_nonneg ((b + 60000049 * (c + 1)) ^ (3 : Int).toNat) (Int.ne_of_gt pos_47)
    have l3 := lt_47
    generalize (b + 60000049 * (c + 1)) ^ (3 : Int).toNat % (10 ^ (47 : Int).toNat + 91) = y at l1 l2 ⊢
    refine q_asg (K := K) (ev_mod (ev_intI (ev_pow (ev_add (ev_varI rfl) (ev_mul ev_int (ev_ixO o3 rfl ev_int rfl) (wide_mul (a := 26) (b := 61) (by decide) hc1 (by decide) (by decide) (by decide)))) ev_int (pow_ok (n := 201) (by decide) (by omega) (by decide) (by decide)))) (ev_add (ev_pow ev_int ev_int (pow_ok (n := 4) (by decide) (by decide) (by decide) (by decide))) ev_int) pos_46) fun v w4 g4 r4 => ?_
    cases r4
    have o4 := o3.gr g4
    refine s_ret (K := K) (ev_mod (ev_intI (ev_div (ev_varI rfl) ev_int (wide_div (b := 31) (by decide) (by decide) (by decide) (by decide)))) (ev_varI rfl) hm) fun v w5 g5 r5 => ?_
    cases r5
    exact q _ w5 ((g1.mt o.ne).trans (m2.trans (((g3.trans g4).trans g5).mt o2.ne))) ⟨a, b, c + 1, o4.gr g5, ha, hb, hb2, by omega, by omega⟩ (Int.emod_nonneg _ (by omega)) (Int.emod_lt_of_pos _ hm)
end
/-- a draw -/
theorem dip_run {K : PySem.W.Frag} {σ : L2.St} {w : Wd} {p : Addr} {i f : Nat} {tm : TE} {m : Int} {Q : VK} {E : XK} (hi : σ[i]? = some (some (.ref p))) (hj : Jar K w p (f + 1)) (hm : EvD K tm σ w Rep.int m) (h0 : 0 < m) (h1 : m.natAbs < 2 ^ 9000)
    (k : ∀ r w', Mt p w w' → Jar K w' p f → 0 ≤ r → r < m → Q (.int r) w'.H) : tCall (spDip K) [] E (tCons (tVar i) (tCons tm tNil)) σ w.H Q :=
  ⟨_, hi, hm.run fun v w2 g2 r2 => ⟨w2, p, m, f, rfl, by cases r2; rfl, hj.gr g2, h0, h1, fun r w' m' j' => k r w' ((g2.mt hj.ne).trans m') j'⟩⟩
end WK

namespace WK
/-! ### days joined by steps of two lengths: plain mathematics -/
/-- f names each day by a day of its set that is not behind it -/
structure Nm (n p q : Int) (f : Int → Int) : Prop where
  lo : ∀ d, 0 ≤ d → d < n → 0 ≤ f d ∧ f d ≤ d
  con : ∀ g : Int → Prop, (∀ d, 0 ≤ d → d + p < n → (g d ↔ g (d + p))) → (∀ d, 0 ≤ d → d + q < n → (g d ↔ g (d + q))) → ∀ d, 0 ≤ d → d < n → (g (f d) ↔ g d)
/-- .. and days that are joined have one name -/
structure NmF (n p q : Int) (f : Int → Int) : Prop extends Nm n p q f where
  sp : ∀ d, 0 ≤ d → d + p < n → f d = f (d + p)
  sq : ∀ d, 0 ≤ d → d + q < n → f d = f (d + q)
theorem Nm.id (n p q : Int) : Nm n p q fun d => d := ⟨fun d h _ => ⟨h, Int.le_refl _⟩, fun g _ _ d _ _ => Iff.rfl⟩
theorem Nm.swap {n p q : Int} {f : Int → Int} (h : Nm n p q f) : Nm n q p f := ⟨h.lo, fun g a b => h.con g b a⟩
theorem NmF.swap {n p q : Int} {f : Int → Int} (h : NmF n p q f) : NmF n q p f := ⟨h.toNm.swap, h.sq, h.sp⟩
theorem NmF.idem {n p q : Int} {f : Int → Int} (h : NmF n p q f) {d : Int} (h0 : 0 ≤ d) (h1 : d < n) : f (f d) = f d := by
  have := h.con (fun e => f e = f d) (fun e a b => by show f e = f d ↔ f (e + p) = f d; rw [h.sp e a b]) (fun e a b => by show f e = f d ↔ f (e + q) = f d; rw [h.sq e a b]) d h0 h1
  exact this.mpr rfl
theorem NmF.uniq {n p q : Int} {f f' : Int → Int} (h : NmF n p q f) (h' : NmF n p q f') {d : Int} (h0 : 0 ≤ d) (h1 : d < n) : f d = f' d := by
  have key : ∀ {f f' : Int → Int}, NmF n p q f → NmF n p q f' → f' d ≤ f d := fun {f f'} h h' => by
    have := h.con (fun e => f' e = f' d) (fun e a b => by show f' e = f' d ↔ f' (e + p) = f' d; rw [h'.sp e a b]) (fun e a b => by show f' e = f' d ↔ f' (e + q) = f' d; rw [h'.sq e a b]) d h0 h1
    have e : f' (f d) = f' d := this.mpr rfl
    have b := h.lo d h0 h1
    have := (h'.lo (f d) b.1 (by omega)).2
    omega
  exact Int.le_antisymm (key h' h) (key h h')
/-- one name goes over -/
def ups (f : Int → Int) (d m : Int) : Int → Int := fun e => if e = d then m else f e
theorem Nm.spread {n p q : Int} {f : Int → Int} (h : Nm n p q f) {s d : Int} (hs : s = p ∨ s = q) (h0 : 0 ≤ d) (h1 : d + s < n) (hs0 : 0 < s) : Nm n p q (ups (ups f d (min (f d) (f (d + s)))) (d + s) (min (f d) (f (d + s)))) := by
  have l1 := h.lo d h0 (by omega)
  have l2 := h.lo (d + s) (by omega) h1
  refine ⟨fun e e0 e1 => ?_, fun g gp gq e e0 e1 => ?_⟩
  · have l3 := h.lo e e0 e1
    unfold ups
    split
    · rename_i z; subst z; omega
    · split
      · rename_i z; subst z; omega
      · exact l3
  · have a1 := h.con g gp gq d h0 (by omega)
    have a2 := h.con g gp gq (d + s) (by omega) h1
    have a3 := h.con g gp gq e e0 e1
    have a4 : g d ↔ g (d + s) := by
      rcases hs with rfl | rfl
      · exact gp d h0 h1
      · exact gq d h0 h1
    have a5 : g (min (f d) (f (d + s))) ↔ g d := by
      rcases Int.le_total (f d) (f (d + s)) with z | z
      · rw [Int.min_eq_left z]; exact a1
      · rw [Int.min_eq_right z]; exact a2.trans a4.symm
    unfold ups
    split
    · rename_i z; subst z; exact a5.trans a4
    · split
      · rename_i z; subst z; exact a5
      · exact a3
theorem Nm.congr {n p q : Int} {f f' : Int → Int} (h : Nm n p q f) (e : ∀ d, 0 ≤ d → d < n → f' d = f d) : Nm n p q f' :=
  ⟨fun d h0 h1 => by rw [e d h0 h1]; exact h.lo d h0 h1, fun g gp gq d h0 h1 => by rw [e d h0 h1]; exact h.con g gp gq d h0 h1⟩
/-! the names of few days, reckoned -/
def spr (l : List Nat) (d s : Nat) : List Nat :=
  let m := Nat.min (l.getD d 0) (l.getD (d + s) 0)
  (l.set d m).set (d + s) m
def rnd (n p q : Nat) (l : List Nat) : List Nat := (List.range n).foldl (fun l d => let l := bif Nat.blt (d + p) n then spr l d p else l; bif Nat.blt (d + q) n then spr l d q else l) l
def rnds (n p q : Nat) : Nat → List Nat → List Nat
  | 0, l => l
  | k + 1, l => rnds n p q k (rnd n p q l)
def nmc (n p q : Nat) : List Nat := rnds n p q 6 (List.range n)
def stable (n p q : Nat) (l : List Nat) : Bool := (List.range n).all fun d => (Nat.ble n (d + p) || Nat.beq (l.getD d 0) (l.getD (d + p) 0)) && (Nat.ble n (d + q) || Nat.beq (l.getD d 0) (l.getD (d + q) 0))
def lf (l : List Nat) : Int → Int := fun d => ((l.getD d.toNat 0 : Nat) : Int)
def NmL (n p q : Nat) (l : List Nat) : Prop := l.length = n ∧ Nm n p q (lf l)
theorem getD_set {l : List Nat} {i j m : Nat} (h : i < l.length) : (l.set i m).getD j 0 = if j = i then m else l.getD j 0 := by
  rw [List.getD_eq_getElem?_getD, List.getD_eq_getElem?_getD]
  by_cases e : j = i
  · subst e; rw [List.getElem?_set_self h, if_pos rfl]; rfl
  · rw [List.getElem?_set_ne (Ne.symm e), if_neg e]
theorem spr_ok {n p q : Nat} {l : List Nat} (h : NmL n p q l) {d s : Nat} (hs : s = p ∨ s = q) (hs0 : 0 < s) (hd : d + s < n) : NmL n p q (spr l d s) := by
  obtain ⟨hl, hn⟩ := h
  refine ⟨by unfold spr; simp [hl], ?_⟩
  have := hn.spread (s := (s : Int)) (d := (d : Int)) (by rcases hs with rfl | rfl <;> simp) (by omega) (by omega) (by omega)
  refine this.congr fun e e0 e1 => ?_
  unfold lf spr ups
  simp only []
  rw [getD_set (by simp [hl]; omega), getD_set (by omega)]
  have e4 : ((d : Int) + (s : Int)).toNat = d + s := by omega
  have e5 : ((d : Int)).toNat = d := by omega
  by_cases z : e = (d : Int) + (s : Int)
  · subst z
    rw [if_pos rfl, e4, if_pos rfl, e5]
    show ((min _ _ : Nat) : Int) = _
    omega
  · rw [if_neg z, if_neg (show e.toNat ≠ d + s by omega)]
    by_cases z2 : e = (d : Int)
    · subst z2
      rw [if_pos rfl, e5, if_pos rfl, e4]
      show ((min _ _ : Nat) : Int) = _
      omega
    · rw [if_neg z2, if_neg (show e.toNat ≠ d by omega)]
theorem rnd_ok {n p q : Nat} {l : List Nat} (hp : 0 < p) (hq : 0 < q) (h : NmL n p q l) : NmL n p q (rnd n p q l) := by
  unfold rnd
  generalize List.range n = ds
  induction ds generalizing l with
  | nil => exact h
  | cons d r ih =>
    rw [List.foldl_cons]
    refine ih ?_
    simp only []
    have h1 : NmL n p q (bif Nat.blt (d + p) n then spr l d p else l) := by
      cases z : Nat.blt (d + p) n with
      | true => exact spr_ok h (.inl rfl) hp (Nat.blt_eq ▸ z)
      | false => exact h
    cases z : Nat.blt (d + q) n with
    | true => exact spr_ok h1 (.inr rfl) hq (Nat.blt_eq ▸ z)
    | false => exact h1
theorem nmc_ok {n p q : Nat} (hp : 0 < p) (hq : 0 < q) : NmL n p q (nmc n p q) := by
  have : ∀ k l, NmL n p q l → NmL n p q (rnds n p q k l) := by
    intro k
    induction k with
    | zero => exact fun l h => h
    | succ k ih => exact fun l h => ih _ (rnd_ok hp hq h)
  refine this 6 _ ⟨by simp, (Nm.id n p q).congr fun d h0 h1 => ?_⟩
  unfold lf
  rw [List.getD_eq_getElem?_getD, List.getElem?_range (by omega)]
  show ((d.toNat : Nat) : Int) = d
  omega
theorem nmc_F {n p q : Nat} (hp : 0 < p) (hq : 0 < q) (h : stable n p q (nmc n p q) = true) : NmF n p q (lf (nmc n p q)) := by
  obtain ⟨hl, hn⟩ := nmc_ok (n := n) hp hq
  unfold stable at h
  rw [List.all_eq_true] at h
  refine ⟨hn, fun d h0 h1 => ?_, fun d h0 h1 => ?_⟩
  · have := h d.toNat (List.mem_range.mpr (by omega))
    simp only [Bool.and_eq_true, Bool.or_eq_true, Nat.ble_eq, Nat.beq_eq_true_eq] at this
    have z : (d + (p : Int)).toNat = d.toNat + p := by omega
    unfold lf
    rw [z]
    rcases this.1 with k | k
    · omega
    · rw [Nat.eq_of_beq_eq_true k]
  · have := h d.toNat (List.mem_range.mpr (by omega))
    simp only [Bool.and_eq_true, Bool.or_eq_true, Nat.ble_eq, Nat.beq_eq_true_eq] at this
    have z : (d + (q : Int)).toNat = d.toNat + q := by omega
    unfold lf
    rw [z]
    rcases this.2 with k | k
    · omega
    · rw [Nat.eq_of_beq_eq_true k]
/-- how many days are their own name -/
def own (l : List Nat) : Nat := ((List.range l.length).filter fun d => Nat.beq (l.getD d 0) d).length
def gcdN (p q : Nat) : Nat := Nat.gcd p q
/-- below p + q less the divisor: reckoned for all lengths; at it: names are remainders -/
def chk (p q : Nat) : Bool := (List.range 16).all fun n => Nat.blt n p || Nat.blt n q || Nat.blt (p + q - gcdN p q) n ||
  (let l := nmc n p q; stable n p q l && Nat.beq (own l) (Nat.max (gcdN p q) (p + q - n)) && (Nat.blt n (p + q - gcdN p q) || (List.range n).all fun d => Nat.beq (l.getD d 0) (d % gcdN p q)))
theorem chk_all : ((List.range 9).all fun p => (List.range 9).all fun q => Nat.beq p 0 || Nat.blt q p || chk p q) = true := by decide +kernel
theorem chk_of {p q : Nat} (hp : 0 < p) (hpq : p ≤ q) (hq : q ≤ 8) : chk p q = true := by
  have := chk_all
  rw [List.all_eq_true] at this
  have := this p (List.mem_range.mpr (by omega))
  rw [List.all_eq_true] at this
  have := this q (List.mem_range.mpr (by omega))
  simp only [Bool.or_eq_true, Nat.beq_eq_true_eq, Nat.blt_eq] at this
  rcases this with (h | h) | h
  · exact absurd (Nat.eq_of_beq_eq_true h) (by omega)
  · omega
  · exact h
/-- what is asked of names: their number, and from enough days on the remainders -/
structure NmN (n p q : Nat) (f : Int → Int) : Prop extends NmF n p q f where
  num : ((List.range n).filter fun (d : Nat) => decide (f (d : Int) = (d : Int))).length = max (Nat.gcd p q) (p + q - n)
  rem : p + q - Nat.gcd p q ≤ n → ∀ d : Nat, d < n → f (d : Int) = ((d % Nat.gcd p q : Nat) : Int)
theorem NmN.swap {n p q : Nat} {f : Int → Int} (h : NmN n p q f) : NmN n q p f :=
  ⟨h.toNmF.swap, by rw [h.num, Nat.gcd_comm, Nat.add_comm], by rw [Nat.gcd_comm, Nat.add_comm]; exact h.rem⟩
theorem count_lt (g : Nat) (h0 : 0 < g) : ∀ n, g ≤ n → ((List.range n).filter fun (d : Nat) => decide (((d % g : Nat) : Int) = (d : Int))).length = g := by
  intro n hn
  induction n with
  | zero => have : g = 0 := by omega
            subst this; rfl
  | succ n ih =>
    rw [List.range_succ, List.filter_append, List.length_append]
    by_cases h : g ≤ n
    · rw [ih h]
      have : ¬ (((n % g : Nat) : Int) = (n : Int)) := by
        have := Nat.mod_lt n h0
        omega
      rw [List.filter_cons, if_neg (by rw [decide_eq_false this]; decide)]
      rfl
    · have hg : g = n + 1 := by omega
      subst hg
      have : ∀ d ∈ List.range n, decide (((d % (n + 1) : Nat) : Int) = (d : Int)) = true := fun d hd => by
        rw [Nat.mod_eq_of_lt (by have := List.mem_range.mp hd; omega)]; simp
      rw [List.filter_eq_self.mpr this]
      simp [Nat.mod_eq_of_lt]
theorem few {n p q : Nat} (hp : 0 < p) (hpq : p ≤ q) (hq : q ≤ 8) (hn : q ≤ n) (hn2 : n ≤ p + q - Nat.gcd p q) : NmN n p q (lf (nmc n p q)) := by
  have hc := chk_of hp hpq hq
  unfold chk at hc
  rw [List.all_eq_true] at hc
  have gp : 0 < Nat.gcd p q := Nat.gcd_pos_of_pos_left _ hp
  have h := hc n (List.mem_range.mpr (by omega))
  simp only [Bool.or_eq_true, Bool.and_eq_true, Nat.beq_eq_true_eq, Nat.blt_eq, gcdN] at h
  have hl := nmc_ok (n := n) (p := p) (q := q) hp (by omega)
  rcases h with ((h | h) | h) | h
  · omega
  · omega
  · omega
  · refine ⟨nmc_F hp (by omega) h.1.1, ?_, fun hge d hd => ?_⟩
    · rw [← show own (nmc n p q) = max (Nat.gcd p q) (p + q - n) from Nat.eq_of_beq_eq_true h.1.2]
      unfold own
      rw [hl.1]
      refine congrArg List.length (List.filter_congr fun d hd => ?_)
      unfold lf
      cases z : Nat.beq ((nmc n p q).getD d 0) d with
      | true => have := Nat.eq_of_beq_eq_true z; rw [Int.toNat_natCast, this]; exact decide_eq_true rfl
      | false => have := Nat.ne_of_beq_eq_false z
                 rw [decide_eq_false]
                 simp only [Int.toNat_natCast]
                 omega
    · rcases h.2 with k | k
      · omega
      · rw [List.all_eq_true] at k
        have := Nat.eq_of_beq_eq_true (k d (List.mem_range.mpr hd))
        unfold lf
        rw [Int.toNat_natCast, this]
theorem many {n p q : Nat} (hp : 0 < p) (hpq : p ≤ q) (hq : q ≤ 8) (hn : p + q - Nat.gcd p q ≤ n) : NmN n p q (fun d => d % (Nat.gcd p q : Int)) := by
  have gp : 0 < Nat.gcd p q := Nat.gcd_pos_of_pos_left _ hp
  have d1 : (Nat.gcd p q : Int) ∣ (p : Int) := Int.natCast_dvd_natCast.mpr (Nat.gcd_dvd_left p q)
  have d2 : (Nat.gcd p q : Int) ∣ (q : Int) := Int.natCast_dvd_natCast.mpr (Nat.gcd_dvd_right p q)
  have hg1 : Nat.gcd p q ≤ p := Nat.le_of_dvd hp (Nat.gcd_dvd_left p q)
  have hf := few hp hpq hq (show q ≤ p + q - Nat.gcd p q by omega) (Nat.le_refl _)
  have hm : ∀ (a s : Int), (Nat.gcd p q : Int) ∣ s → a % (Nat.gcd p q : Int) = (a + s) % (Nat.gcd p q : Int) := fun a s h => by
    obtain ⟨c, rfl⟩ := h
    rw [Int.add_mul_emod_self_left]
  refine ⟨⟨⟨fun d h0 h1 => ⟨Int.emod_nonneg _ (by omega), ?_⟩, fun g gp' gq' d h0 h1 => ?_⟩, fun d _ _ => hm d p d1, fun d _ _ => hm d q d2⟩, ?_, fun _ d hd => by simp⟩
  · have e1 := Int.emod_add_mul_ediv d (Nat.gcd p q : Int)
    have e2 := Int.mul_nonneg (a := (Nat.gcd p q : Int)) (b := d / (Nat.gcd p q : Int)) (by omega) (Int.ediv_nonneg h0 (by omega))
    omega
  · have small : ∀ d : Nat, d < p + q - Nat.gcd p q → (g ((d % Nat.gcd p q : Nat) : Int) ↔ g (d : Int)) := fun d hd => by
      have := hf.con g (fun e a b => gp' e a (by omega)) (fun e a b => gq' e a (by omega)) (d : Int) (by omega) (by omega)
      rwa [hf.rem (Nat.le_refl _) d hd] at this
    have all : ∀ d : Nat, d < n → (g ((d % Nat.gcd p q : Nat) : Int) ↔ g (d : Int)) := by
      intro d
      induction d using Nat.strongRecOn with
      | ind d ih =>
        intro hd
        by_cases z : d < p + q - Nat.gcd p q
        · exact small d z
        · have h1 := ih (d - p) (by omega) (by omega)
          have h2 := gp' ((d - p : Nat) : Int) (by omega) (by omega)
          have e1 : ((d - p : Nat) : Int) + (p : Int) = (d : Int) := by omega
          rw [e1] at h2
          have e2 : (d - p) % Nat.gcd p q = d % Nat.gcd p q := by
            obtain ⟨c, hc⟩ := Nat.gcd_dvd_left p q
            have e3 : d = (d - p) + Nat.gcd p q * c := by rw [← hc]; omega
            conv => rhs; rw [e3, Nat.add_mul_mod_self_left]
          rw [e2] at h1
          exact h1.trans h2
    have := all d.toNat (by omega)
    have e1 : ((d.toNat : Nat) : Int) = d := by omega
    rw [e1] at this
    rw [← this]
    have e2 : d % (Nat.gcd p q : Int) = ((d.toNat % Nat.gcd p q : Nat) : Int) := by
      rw [Int.natCast_emod, e1]
    rw [e2]
  · have : max (Nat.gcd p q) (p + q - n) = Nat.gcd p q := by omega
    rw [this]
    refine Eq.trans (congrArg List.length (List.filter_congr fun d _ => ?_)) (count_lt (Nat.gcd p q) gp n (by omega))
    simp
theorem names {n p q : Nat} (hp : 0 < p) (hp8 : p ≤ 8) (hq : 0 < q) (hq8 : q ≤ 8) (h1 : p ≤ n) (h2 : q ≤ n) : ∃ f, NmN n p q f := by
  have go : ∀ {p q : Nat}, 0 < p → p ≤ q → q ≤ 8 → q ≤ n → ∃ f, NmN n p q f := fun {p q} hp hpq hq hn => by
    by_cases z : n ≤ p + q - Nat.gcd p q
    · exact ⟨_, few hp hpq hq hn z⟩
    · exact ⟨_, many hp hpq hq (by omega)⟩
  rcases Nat.le_total p q with z | z
  · exact go hp z hq8 h2
  · obtain ⟨f, hf⟩ := go hq z hp8 h1
    exact ⟨f, hf.swap⟩
end WK

namespace WK
open PySem PySem.Spec PyProof.Rows L2
section
variable {P : Program} {w : World} {K : PySem.W.Frag} {mg : Str → Option Value} {base : Heap}
theorem ok_need_length (T : Tx K mg) : FnOk P w K mg base CX0 2 (He.ga K "need_length") T.d_need_length ["length"] (spD1 K Rep.int (fun l => 1 ≤ l ∧ l ≤ 8) Rep.non (fun _ => ())) := by
  have nd := sc_need_length.nd
  refine okD1 T.F_need_length sc_need_length rfl fun cdv A outer s H E hr => ⟨_, (pss_one (ps_if (pt_not (pt_chain op_le op_le pe_int (pv 0) (pe_glob (v := .int 8) rfl (T.c_MOST_LENGTH).choose_spec ⟨_, rfl⟩))) (pss_one ps_never) pss_nil)), fun wd x l Q hx hp q => ?_⟩
  cases hx
  refine s_when (K := K) (b := false) (EvT.eq (et_not (et_test (ev_leLe ev_int (ev_varI rfl) ev_int))) (by simp [hp.1, hp.2])) (fun h => nomatch h) fun _ w' g => ?_
  exact q .non w' g rfl
end
end WK

namespace WK
open PySem PySem.Spec PyProof.Rows L2
section
variable {P : Program} {w : World} {K : PySem.W.Frag} {mg : Str → Option Value} {base : Heap}
theorem ok_need_number (T : Tx K mg) : FnOk P w K mg base CX0 2 (He.ga K "need_number") T.d_need_number ["number", "least", "most"] (spD3 K Rep.int Rep.int Rep.int (fun n l m => l ≤ n ∧ n ≤ m) Rep.non (fun _ _ _ => ())) := by
  have nd := sc_need_number.nd
  refine okD3 T.F_need_number sc_need_number rfl fun cdv A outer s H E hr => ⟨_, (pss_one (ps_if (pt_not (pt_chain op_le op_le (pv 1) (pv 0) (pv 2))) (pss_one ps_never) pss_nil)), fun wd x y z n l m Q hx hy hz hp q => ?_⟩
  cases hx; cases hy; cases hz
  refine s_when (K := K) (b := false) (EvT.eq (et_not (et_test (ev_leLe (ev_varI rfl) (ev_varI rfl) (ev_varI rfl)))) (by simp [hp.1, hp.2])) (fun h => nomatch h) fun _ w' g => ?_
  exact q .non w' g rfl
end
end WK

namespace WK
open PySem PySem.Spec PyProof.Rows L2
/-- the days one step away -/
def nearOf (n p q d : Int) : List Int := ([d - p, d + p, d - q, d + q] : List Int).filter fun o => decide (0 ≤ o) && decide (o < n)
def stepsOf (n p q : Int) : List (List Int) := (irange 0 n).map (nearOf n p q)
theorem take_succ_get {α : Type} {l : List α} {i : Nat} {a : α} (h : l[i]? = some a) : l.take (i + 1) = l.take i ++ [a] := by rw [List.take_add_one, h]; rfl
section
variable {P : Program} {w : World} {K : PySem.W.Frag} {mg : Str → Option Value} {base : Heap}
theorem ok_steps_of (T : Tx K mg) : FnOk P w K mg base CX0 1 (He.ga K "steps_of") T.d_steps_of ["count", "length", "other_length"] (spN3 K Rep.int Rep.int Rep.int (fun n _ _ => 0 ≤ n ∧ n ≤ 1000) (Rep.list Rep.int) stepsOf) := by
  have nd := sc_steps_of.nd
  refine okN3 T.F_steps_of sc_steps_of rfl fun cdv A outer s H E hr => ⟨_, (pss_cons (ps_set (i := 3) nd rfl (Or.inl rfl) (pe_lst pa_nil))
      (pss_cons (ps_for PassesOwn.never rfl (pi_range1 (by rfl) T.n_range (pa_cons (pv 0) pa_nil)) (pg_name (i := 4) nd rfl (Or.inl rfl)) (pss_cons (ps_set (i := 5) nd rfl (Or.inl rfl) (pe_lst (pa_cons (pe_op op_sub (pv 4) (pv 1)) (pa_cons (pe_op op_add (pv 4) (pv 1)) (pa_cons (pe_op op_sub (pv 4) (pv 2)) (pa_cons (pe_op op_add (pv 4) (pv 2)) pa_nil))))))
      (pss_one (ps_expr (pe_bm PySem.F.plainAttrs_list PySem.F.slot_list_append PySem.F.type_list_append mt_append (pv 3) (pa_cons (pe_lc (own := [("other", 6)]) (g := gName 6) rfl nd (pi_list (pv 5)) (blkOk_by (own := [("other", 6)]) (N := ["count", "length", "other_length", "found", "day", "near", "other"]) (sc := defScope s_steps_of) (by decide +kernel)) (fun _ _ _ _ _ => (pg_name (i := 6) nd rfl (by first | exact Or.inl rfl | exact Or.inr rfl))) (fun _ _ _ _ _ => pts_one (pt_chain op_le op_lt pe_int (pv 6) (pv 0))) (fun _ _ _ _ _ => (pv 6))) pa_nil))))))
      (pss_one (ps_ret (pv 3))))), fun wd x y z n p q Q hx hy hz hp k => ?_⟩
  try dsimp only [cxOf]
  cases hx; cases hy; cases hz
  refine q_asgN (K := K) (e := Rep.list Rep.int) (en_lst el_nil) fun a w1 g1 n1 o1 => ?_
  refine q_for (K := K) (ei_range1 (ev_varI rfl) (by omega)) (fun i σ v => ∃ y1 y2 y3, σ = [some (.int n), some (.int p), some (.int q), some (.ref a), y1, y2, y3] ∧ GrC wd v ∧ OwnL K v a (Rep.list Rep.int) (((irange 0 n).map (nearOf n p q)).take i)) (fun v g => ⟨none, none, none, rfl, ⟨g1.trans g⟩, by simpa using o1.gr g⟩) ?_ ?_
  · intro i d vd σ v v2 hd hx hI g2 hr
    obtain ⟨y1, y2, y3, rfl, c, o⟩ := hI
    cases hr
    have hm : ((irange 0 n).map (nearOf n p q))[i]? = some (nearOf n p q d) := by rw [List.getElem?_map, hd]; rfl
    refine q_asg (K := K) (EvN.d (en_lst (el_cons (ev_sub (ev_varI rfl) (ev_varI rfl)) (el_cons (ev_add (ev_varI rfl) (ev_varI rfl)) (el_cons (ev_sub (ev_varI rfl) (ev_varI rfl)) (el_cons (ev_add (ev_varI rfl) (ev_varI rfl)) el_nil)))))) fun vn v3 g3 rn => ?_
    refine s_app (K := K) ((o.gr g2).gr g3) rfl (EvN.d (en_lcIf (by simp) (fun o => decide (0 ≤ o) && decide (o < n)) (fun o => o) (ei_list (ev_var rfl rn)) (fun _ => rfl) (fun o vo v4 _ g4 ro => by cases ro; exact et_test (ev_leLt ev_int (ev_varI rfl) (ev_varI rfl))) fun o vo v4 _ _ g4 ro => by cases ro; exact ev_varI rfl)) (by rw [List.length_take, List.length_map, irange_len]; omega) fun v4 m4 o4 => ?_
    dsimp only
    refine nxt ?_ ?_
    · exact g2.s.trans (g3.s.trans m4.s)
    · refine ⟨_, _, y3, rfl, ⟨m4.gr _ ((c.g.trans g2).trans g3) n1⟩, ?_⟩
      rw [take_succ_get hm]
      simpa [nearOf] using o4
  · intro σ v hx hI
    obtain ⟨y1, y2, y3, rfl, c, o⟩ := hI
    refine s_retO rfl (k a v c.g n1 ?_)
    have : ((irange 0 n).map (nearOf n p q)).take (irange 0 n).length = stepsOf n p q := by
      rw [List.take_of_length_le (by simp)]; rfl
    rw [this] at o
    exact o
end
end WK

namespace WK
open PySem PySem.Spec PyProof.Rows L2
/-! ### joined_days -/
def compsOf (n : Int) (f : Int → Int) : List (List Int) := ((irange 0 n).filter fun d => decide (f d = d)).map fun d => (irange 0 n).filter fun e => decide (f e = d)
theorem mem_near {n p q d e : Int} : e ∈ nearOf n p q d ↔ (0 ≤ e ∧ e < n) ∧ (e = d - p ∨ e = d + p ∨ e = d - q ∨ e = d + q) := by
  unfold nearOf
  simp only [List.mem_filter, List.mem_cons, List.not_mem_nil, or_false, Bool.and_eq_true, decide_eq_true_eq]
  constructor
  · rintro ⟨a, b⟩; exact ⟨b, a⟩
  · rintro ⟨a, b⟩; exact ⟨b, a⟩
theorem NmF.near {n p q : Int} {f : Int → Int} (h : NmF n p q f) {d e : Int} (h0 : 0 ≤ d) (h1 : d < n) (he : e ∈ nearOf n p q d) : f e = f d := by
  obtain ⟨⟨a, b⟩, c⟩ := mem_near.mp he
  rcases c with c | c | c | c
  · have := h.sp e a (by omega); rw [this]; congr 1; omega
  · have := h.sp d h0 (by omega); rw [this, c]
  · have := h.sq e a (by omega); rw [this]; congr 1; omega
  · have := h.sq d h0 (by omega); rw [this, c]
theorem irange_nodup (lo hi : Int) : (irange lo hi).Nodup := by
  unfold irange
  rw [List.Nodup, List.pairwise_map]
  refine List.Pairwise.imp ?_ (List.nodup_range (n := (hi - lo).toNat))
  intro a b h z
  exact h (by omega)
theorem irange_lt (lo hi : Int) : (irange lo hi).Pairwise (· < ·) := by
  unfold irange
  rw [List.pairwise_map]
  refine List.Pairwise.imp ?_ (List.pairwise_lt_range (n := (hi - lo).toNat))
  intro a b h
  omega
theorem perm_of_mem {l m : List Int} (h1 : l.Nodup) (h2 : m.Nodup) (h : ∀ a, a ∈ l ↔ a ∈ m) : l.Perm m := by
  rw [List.perm_iff_count]
  intro a
  have c1 := List.nodup_iff_count.mp h1 a
  have c2 := List.nodup_iff_count.mp h2 a
  by_cases z : a ∈ l
  · have := List.count_pos_iff.mpr z
    have := List.count_pos_iff.mpr ((h a).mp z)
    omega
  · rw [List.count_eq_zero.mpr z, List.count_eq_zero.mpr fun k => z ((h a).mpr k)]
/-- a closed list of days of one name is all of them -/
theorem NmF.closed {n p q : Int} {f : Int → Int} (h : NmF n p q f) (hp : 0 < p) (hq : 0 < q) {day : Int} {R : List Int} (hf : f day = day) (hR : ∀ e ∈ R, (0 ≤ e ∧ e < n) ∧ f e = day) (hd : day ∈ R) (hc : ∀ d ∈ R, ∀ e ∈ nearOf n p q d, e ∈ R) (e : Int) :
    e ∈ R ↔ (0 ≤ e ∧ e < n) ∧ f e = day := by
  refine ⟨hR e, fun ⟨⟨a, b⟩, c⟩ => ?_⟩
  have := h.con (fun e => e ∈ R) (fun d x y => ⟨fun k => hc d k _ (mem_near.mpr ⟨⟨by omega, y⟩, by omega⟩), fun k => hc (d + p) k _ (mem_near.mpr ⟨⟨x, by omega⟩, by omega⟩)⟩)
    (fun d x y => ⟨fun k => hc d k _ (mem_near.mpr ⟨⟨by omega, y⟩, by omega⟩), fun k => hc (d + q) k _ (mem_near.mpr ⟨⟨x, by omega⟩, by omega⟩)⟩) e a b
  exact this.mp (by rw [c]; exact hd)
/-- an own list of own lists -/
def OwnLL (K : PySem.W.Frag) (w0 w : Wd) (p : Addr) (ls : List (List Int)) : Prop := ∃ as : List Addr, OwnL K w p Rep.raw (as.map V.ref) ∧ as.Nodup ∧ p ∉ as ∧ as.length = ls.length ∧ (∀ a ∈ as, w0.H a = none) ∧ ∀ (i : Nat) (a : Addr) (l : List Int), as[i]? = some a → ls[i]? = some l → OwnL K w a Rep.int l
section
variable {K : PySem.W.Frag} {w0 w w' : Wd} {p q : Addr} {ls : List (List Int)}
theorem OwnLL.gr (h : OwnLL K w0 w p ls) (g : Gr w w') : OwnLL K w0 w' p ls := by obtain ⟨as, a, b, c, d, e, f⟩ := h; exact ⟨as, a.gr g, b, c, d, e, fun i x l h1 h2 => (f i x l h1 h2).gr g⟩
theorem OwnLL.ne (h : OwnLL K w0 w p ls) : w.H p ≠ none := by obtain ⟨as, a, r⟩ := h; exact a.ne
theorem OwnLL.in_ne {as : List Addr} (h : as.length = ls.length) (f : ∀ (i : Nat) (a : Addr) (l : List Int), as[i]? = some a → ls[i]? = some l → OwnL K w a Rep.int l) {a : Addr} (ha : a ∈ as) : w.H a ≠ none := by
  obtain ⟨i, hi, rfl⟩ := List.getElem_of_mem ha
  exact (f i _ (ls[i]'(by omega)) (by simp [hi]) (by simp)).ne
end
def spJoined (K : PySem.W.Frag) : Sp := fun vs H Q _ => ∃ (wd : Wd) (n p q : Int) (f : Int → Int), wd.H = H ∧ vs = [.int n, .int p, .int q] ∧ (1 ≤ p ∧ p ≤ 8 ∧ 1 ≤ q ∧ q ≤ 8 ∧ p ≤ n ∧ q ≤ n ∧ n ≤ 67) ∧ NmF n p q f ∧
  ∀ a w', Gr wd w' → wd.H a = none → OwnLL K wd w' a (compsOf n f) → Q (.ref a) w'.H

theorem lll_mt {K : PySem.W.Frag} {w w' : Wd} {q : Addr} {as : List Addr} {ls : List (List Int)} (f : ∀ (i : Nat) (a : Addr) (l : List Int), as[i]? = some a → ls[i]? = some l → OwnL K w a Rep.int l) (m : Mt q w w') (h : q ∉ as) :
    ∀ (i : Nat) (a : Addr) (l : List Int), as[i]? = some a → ls[i]? = some l → OwnL K w' a Rep.int l := fun i a l h1 h2 => (f i a l h1 h2).mt m fun z => h (z ▸ List.mem_of_getElem? h1)
theorem par3x {i j l : Nat} {t1 t2 t3 : TE} {D : Ends} {tz : TS} {σ : L2.St} {H : Hp} (h : t1 σ H fun x H1 => t2 σ H1 fun y H2 => t3 σ H2 fun z H3 => ∃ u v w, [x, y, z] = [u, v, w] ∧ tz D (((σ.set i (some u)).set j (some v)).set l (some w)) H3) :
    tSeq (tPar3 i j l (tCons t1 (tCons t2 (tCons t3 tNil)))) tz D σ H := h
/-- the days reached so far from d, behind h turns -/
structure RInv (n p q : Int) (f : Int → Int) (d : Int) (b h : Nat) (R : List Int) (m : List (Int × Bool)) : Prop where
  nd : R.Nodup
  al : ∀ e ∈ R, (0 ≤ e ∧ e < n) ∧ f e = d
  hd : d ∈ R
  sn : ∀ e, (getI m e).isSome = true ↔ ((0 ≤ e ∧ e < n) ∧ f e < d) ∨ e ∈ R
  ml : m.length ≤ b + R.length
  cl : ∀ (j : Nat) (x : Int), j < h → R[j]? = some x → ∀ e ∈ nearOf n p q x, e ∈ R
theorem RInv.len {n p q : Int} {f : Int → Int} {d : Int} {b h : Nat} {R : List Int} {m : List (Int × Bool)} (r : RInv n p q f d b h R m) : R.length ≤ n.toNat := by
  have := List.Nodup.length_le_of_subset r.nd (l₂ := irange 0 n) fun e he => irange_mem.mpr ⟨(r.al e he).1.1, (r.al e he).1.2⟩
  rw [irange_len] at this
  omega
theorem RInv.add {n p q : Int} {f : Int → Int} {d e : Int} {b h : Nat} {R : List Int} {m : List (Int × Bool)} (r : RInv n p q f d b h R m) (hh : h ≤ R.length) (h0 : 0 ≤ e ∧ e < n) (h1 : f e = d) (h2 : e ∉ R) : RInv n p q f d b h (R ++ [e]) (putI m e true) where
  nd := by
    rw [List.nodup_append]
    exact ⟨r.nd, by simp, fun a ha c hc z => by simp at hc; subst hc; subst z; exact h2 ha⟩
  al := fun x hx => by
    rcases List.mem_append.mp hx with k | k
    · exact r.al x k
    · simp at k; subst k; exact ⟨h0, h1⟩
  hd := List.mem_append_left _ r.hd
  sn := fun x => by
    rw [getI_put]
    by_cases z : x = e
    · subst z; simp
    · rw [if_neg z, r.sn x]; simp [z]
  ml := by have := putI_len (m := m) (n := e) (b := true); have := r.ml; simp; omega
  cl := fun j x hj hx y hy => by
    rw [List.getElem?_append_left (by omega)] at hx
    exact List.mem_append_left _ (r.cl j x hj hx y hy)
theorem steps_at {n p q x : Int} (h0 : 0 ≤ x) (h1 : x < n) : atI (stepsOf n p q) x = some (nearOf n p q x) := by
  refine atI_int h0 ?_
  unfold stepsOf
  rw [List.getElem?_map, irange_get (lo := 0) (by omega)]
  show some _ = _
  congr 2
  omega
section
variable {K : PySem.W.Frag} {σ : L2.St} {w : Wd} {te : TE} {α : Type} {e : Rep α} {l : List V} {m : List α} {D : Ends} {tz : TS}
theorem en_sortO {p : Addr} {i : Nat} {l l' : List Int} (o : OwnL K w p Rep.int l) (hi : σ[i]? = some (some (.ref p))) (hp : l.Perm l') (hs : l'.Pairwise (· ≤ ·)) : EvN K (tCB (rSortedI K) (tCons (tVar i) tNil)) σ w Rep.int l' := fun w1 g Q q => by
  obtain ⟨xs, ow, hx⟩ := o.gr g
  rw [paired_ints hx] at ow
  refine ⟨_, hi, p, l, rfl, SqL.of ow.h, fun ns' s perm rise np => ?_⟩
  have : ns' = l' := perm_sorted_uniq (perm.trans hp) rise hs
  subst this
  exact q s (w1.new s _ np) (gr_new np) np ⟨_, own_new np, ints_paired _⟩
theorem s_appN {i : Nat} {p : Addr} (o : OwnL K w p Rep.raw l) (hi : σ[i]? = some (some (.ref p))) (he : EvN K te σ w e m) (hz : l.length < 100000)
    (k : ∀ s w', Mt p w w' → w.H s = none → s ≠ p → OwnL K w' p Rep.raw (l ++ [V.ref s]) → OwnL K w' s e m → D.nx σ w'.H) : tDrop (tBM K "list" rAppend (tVar i) (tCons te tNil)) D σ w.H := by
  obtain ⟨xs, ow, hp⟩ := id o
  refine ⟨_, hi, .inl ⟨rfl, _, SqL.of ow.h⟩, he.run fun s w2 g2 n2 o2 => ?_⟩
  have ne : s ≠ p := o.apart n2
  exact app_core (Q := fun _ H => D.nx σ H) (o.gr g2) (show V.ref s = V.ref s from rfl) hz fun w3 m3 o3 => k s w3 ((g2.mt o.ne).trans m3) n2 ne o3 (o2.mt m3 ne)
end
section
variable {P : Program} {w : World} {K : PySem.W.Frag} {mg : Str → Option Value} {base : Heap}
theorem ok_joined_days (T : Tx K mg) : FnOk P w K mg base CX0 3 (He.ga K "joined_days") T.d_joined_days ["count", "length", "other_length"] (spJoined K) := by
  have nd := sc_joined_days.nd
  refine FunD.ok T.F_joined_days sc_joined_days (fun vs H Q E h => by obtain ⟨wd, n, p, q, f, _, rfl, _⟩ := h; rfl) fun cdv A outer s H vs Q E hr h => ⟨_, PSs.nox (pss_cons (ps_expr (pe_call (ok_need_number T) (hr.mono (by decide)) (by rfl) T.g_need_number T.F_need_number.kp (b_need_number T) .nil pass0 (pa_cons (pv 0) (pa_cons pe_int (pa_cons (pe_glob (v := .int 67) rfl (T.c_MOST_DAYS).choose_spec ⟨_, rfl⟩) pa_nil)))))
      (pss_cons (ps_expr (pe_call (ok_need_length T) (hr.mono (by decide)) (by rfl) T.g_need_length T.F_need_length.kp (b_need_length T) .nil pass0 (pa_cons (pv 1) pa_nil)))
      (pss_cons (ps_expr (pe_call (ok_need_length T) (hr.mono (by decide)) (by rfl) T.g_need_length T.F_need_length.kp (b_need_length T) .nil pass0 (pa_cons (pv 2) pa_nil)))
      (pss_cons (ps_expr (pe_call (ok_need_number T) (hr.mono (by decide)) (by rfl) T.g_need_number T.F_need_number.kp (b_need_number T) .nil pass0 (pa_cons (pv 0) (pa_cons (pe_callB (call_max2 rfl) (by rfl) T.n_max (by decide +kernel) (pa_cons (pv 1) (pa_cons (pv 2) pa_nil))) (pa_cons (pe_glob (v := .int 67) rfl (T.c_MOST_DAYS).choose_spec ⟨_, rfl⟩) pa_nil)))))
      (pss_cons (ps_par3 (i := 3) (j := 4) (l := 5) (by rfl) nd rfl rfl rfl (by decide) (by decide) (by decide) rfl rfl rfl (pa_cons (pe_call (ok_steps_of T) (hr.mono (by decide)) (by rfl) T.g_steps_of T.F_steps_of.kp (b_steps_of T) .nil pass0 (pa_cons (pv 0) (pa_cons (pv 1) (pa_cons (pv 2) pa_nil)))) (pa_cons pe_dnewK (pa_cons (pe_lst pa_nil) pa_nil))) (by rfl))
      (pss_cons (ps_for PassesOwn.never rfl (pi_range1 (by rfl) T.n_range (pa_cons (pv 0) pa_nil)) (pg_name (i := 6) nd rfl (Or.inl rfl)) (pss_one (ps_if (pt_cmp (pc_dnotin (hu_of hr) (pv 6) (pv 4)) (by rfl)) (pss_cons (ps_set (i := 7) nd rfl (Or.inl rfl) (pe_lst (pa_cons (pv 6) pa_nil)))
      (pss_cons (ps_dput (hu_of hr) (pv 4) (pv 6) pe_bl rfl)
      (pss_cons (ps_for PassesOwn.never rfl (pi_range1 (by rfl) T.n_range (pa_cons (pv 0) pa_nil)) (pg_name (i := 8) nd rfl (Or.inl rfl)) (pss_one (ps_for PassesOwn.never rfl (pi_list (pe_ifExp (pt_cmpR op_lt (pv 8) (pe_callB (show CallR _ _ (Evl.rLenS K) from call_len_seq) (by rfl) T.n_len (by decide +kernel) (pa_cons (pv 7) pa_nil)) (nomark _)) (pe_ix (show IxR _ (rIxL K) from ix_list) (pv 3) (pe_ix (show IxR _ (rIxL K) from ix_list) (pv 7) (pv 8) (fun _ _ => rfl)) (fun _ _ => rfl)) (pe_lst pa_nil))) (pg_name (i := 9) nd rfl (Or.inl rfl)) (pss_one (ps_if (pt_cmp (pc_dnotin (hu_of hr) (pv 9) (pv 4)) (by rfl)) (pss_cons (ps_dput (hu_of hr) (pv 4) (pv 9) pe_bl rfl)
      (pss_one (ps_expr (pe_bm PySem.F.plainAttrs_list PySem.F.slot_list_append PySem.F.type_list_append mt_append (pv 7) (pa_cons (pv 9) pa_nil))))) pss_nil)))))
      (pss_one (ps_expr (pe_bm PySem.F.plainAttrs_list PySem.F.slot_list_append PySem.F.type_list_append mt_append (pv 5) (pa_cons (pe_callB (show CallR _ _ (rSortedI K) from cr_sortedI) (by rfl) T.n_sorted (by decide +kernel) (pa_cons (pv 7) pa_nil)) pa_nil))))))) pss_nil)))
      (pss_one (ps_ret (pv 5))))))))), ?_⟩
  try dsimp only [cxOf]
  obtain ⟨wd, n, p, q, f, rfl, rfl, ⟨hp1, hp2, hq1, hq2, hpn, hqn, hn⟩, hf, k⟩ := h
  refine q_drop (K := K) (ev_call3 (ev_varI rfl) ev_int ev_int ⟨by omega, by omega⟩) fun w1 g1 => ?_
  refine q_drop (K := K) (ev_call1 (ev_varI rfl) ⟨hp1, hp2⟩) fun w2 g2 => ?_
  refine q_drop (K := K) (ev_call1 (ev_varI rfl) ⟨hq1, hq2⟩) fun w3 g3 => ?_
  refine q_drop (K := K) (ev_call3 (ev_varI rfl) (ev_max2 (ev_varI rfl) (ev_varI rfl)) ev_int ⟨by omega, by omega⟩) fun w4 g4 => ?_
  refine par3x (EvD.run (EvN.d (en_call3 (K := K) (ev_varI rfl) (ev_varI rfl) (ev_varI rfl) ⟨by omega, by omega⟩)) fun sv w5 g5 r5 => dnew_run (K := K) Rep.bl fun sd w6 g6 n6 o6 => EvN.run (K := K) (r := Rep.raw) (en_lst el_nil) fun fa w7 g7 n7 o7 => ⟨_, _, _, rfl, ?_⟩)
  have n6' : wd.H sd = none := fr_back ((((g1.trans g2).trans g3).trans g4).trans g5) n6
  have n7' : wd.H fa = none := fr_back (((((g1.trans g2).trans g3).trans g4).trans g5).trans g6) n7
  have hsf : sd ≠ fa := fun z => o6.ne (z ▸ n7)
  have r7 : (Rep.list (Rep.list Rep.int)).r K w7.S sv (stepsOf n p q) := (Rep.list (Rep.list Rep.int)).m (g6.trans g7).s r5
  -- what holds of the days seen, the sets found, behind day i
  refine q_for (K := K) (ei_range1 (ev_varI rfl) (by omega)) (fun i σ v => ∃ (y6 y7 y8 y9 : Option V) (m : List (Int × Bool)) (as : List Addr) (ls : List (List Int)), σ = [some (.int n), some (.int p), some (.int q), some sv, some (.ref sd), some (.ref fa), y6, y7, y8, y9] ∧ GrC wd v ∧ Ex w7.S v.S ∧
      OwnD K v sd Rep.bl m ∧ (∀ e, (getI m e).isSome = true ↔ (0 ≤ e ∧ e < n) ∧ f e < i) ∧ m.length ≤ i * 70 ∧
      OwnL K v fa Rep.raw (as.map V.ref) ∧ as.Nodup ∧ fa ∉ as ∧ sd ∉ as ∧ as.length = ls.length ∧ (∀ a ∈ as, wd.H a = none) ∧ (∀ (j : Nat) (a : Addr) (l : List Int), as[j]? = some a → ls[j]? = some l → OwnL K v a Rep.int l) ∧
      ls = (((irange 0 n).take i).filter fun d => decide (f d = d)).map fun d => (irange 0 n).filter fun e => decide (f e = d))
    (fun v g => ?_) ?_ ?_
  · refine ⟨none, none, none, none, [], [], [], rfl, ⟨((((((g1.trans g2).trans g3).trans g4).trans g5).trans g6).trans g7).trans g⟩, g.s, (o6.gr g7).gr g, fun e => ?_, by simp, o7.gr g, List.nodup_nil, by simp, by simp, rfl, by simp, by simp, by simp⟩
    refine ⟨fun h => Bool.noConfusion h, fun h => ?_⟩
    have := hf.lo e h.1.1 h.1.2
    omega
  · intro i d vd σ v v2 hd hx hI g2' hr
    obtain ⟨y6, y7, y8, y9, m, as, ls, rfl, c, x7, od, hm, hml, of_, nda, nfa, nsd, hlen, hfr, hin, hls⟩ := hI
    cases hr
    obtain ⟨hdi, hdn⟩ := irange_get' hd
    have hdi : d = (i : Int) := by omega
    have hd0 := hf.lo d (by omega) (by omega)
    have htk : (irange 0 n).take (i + 1) = (irange 0 n).take i ++ [d] := take_succ_get hd
    refine s_when (K := K) (b := !(getI m d).isSome) (et_B (ev_dnotin (od.gr g2') rfl (ev_varI rfl))) (fun hb v3 g3 => ?_) (fun hb v3 g3 => ?_)
    · -- a new set
      have hfd : f d = d := by
        have : ¬ (getI m d).isSome = true := by intro z; rw [z] at hb; cases hb
        rw [hm] at this
        omega
      have gg := (g2'.trans g3)
      refine q_asgN (K := K) (e := Rep.int) (en_lst (el_cons (ev_varI rfl) el_nil)) fun ra v4 g4 n4 o4 => ?_
      have od4 := ((od.gr gg).gr g4)
      have nrs : ra ≠ sd := (od.gr gg).apart n4
      have nrf : ra ≠ fa := (of_.gr gg).apart n4
      have nra : ra ∉ as := fun z => OwnLL.in_ne (K := K) (w := v3) hlen (fun j a l h1 h2 => (hin j a l h1 h2).gr gg) z n4
      have n4' : wd.H ra = none := fr_back (c.g.trans gg) n4
      refine q_dput (K := K) (rv := Rep.bl) (b := true) (n := d) od4 rfl ev_bl (ev_varI rfl) (by omega) fun v5 m5 od5 => ?_
      have r0 : RInv n p q f d (i * 70) 0 [d] (putI m d true) := {
        nd := by simp
        al := fun e he => by simp at he; subst he; exact ⟨⟨by omega, by omega⟩, hfd⟩
        hd := by simp
        sn := fun e => by
          rw [getI_put]
          by_cases z : e = d
          · subst z; simp
          · rw [if_neg z, hm]; simp only [List.mem_singleton]; omega
        ml := by have := putI_len (m := m) (n := d) (b := true); simp; omega
        cl := fun j x hj => by omega }
      have o5 : OwnL K v5 ra Rep.int [d] := o4.mt m5 nrs
      have of5 := ((of_.gr gg).gr g4).mt m5 hsf.symm
      have in5 := lll_mt (fun j a l h1 h2 => ((hin j a l h1 h2).gr gg).gr g4) m5 nsd
      have c5 : GrC wd v5 := ⟨m5.gr _ ((c.g.trans gg).trans g4) n6'⟩
      have x5 : Ex w7.S v5.S := x7.trans (gg.s.trans (g4.s.trans m5.s))
      refine q_for (K := K) (ei_range1 (ev_varI rfl) (by omega)) (fun h σ u => ∃ (y8 y9 : Option V) (m' : List (Int × Bool)) (R : List Int), σ = [some (.int n), some (.int p), some (.int q), some sv, some (.ref sd), some (.ref fa), some (.int d), some (.ref ra), y8, y9] ∧ GrC wd u ∧ Ex v5.S u.S ∧
          OwnD K u sd Rep.bl m' ∧ OwnL K u ra Rep.int R ∧ OwnL K u fa Rep.raw (as.map V.ref) ∧ (∀ (j : Nat) (a : Addr) (l : List Int), as[j]? = some a → ls[j]? = some l → OwnL K u a Rep.int l) ∧ RInv n p q f d (i * 70) h R m')
        (fun u g => ⟨y8, y9, _, _, rfl, ⟨c5.g.trans g⟩, g.s, od5.gr g, o5.gr g, of5.gr g, fun j a l h1 h2 => (in5 j a l h1 h2).gr g, r0⟩) ?_ ?_
      · intro h hv vh σ u u2 hh hx hI gu hr
        obtain ⟨y8, y9, m', R, rfl, cu, xu, odu, oru, ofu, inu, ri⟩ := hI
        cases hr
        obtain ⟨ehv, hhn⟩ := irange_get' hh
        have ehv : hv = (h : Int) := by omega
        subst ehv
        have oru2 := oru.gr gu
        have su2 : (Rep.list (Rep.list Rep.int)).r K u2.S sv (stepsOf n p q) := (Rep.list (Rep.list Rep.int)).m ((x5.trans xu).trans gu.s) r7
        have hL : ∃ L : List Int, EvD K (tIf (tTest (tOp (rI0 fun i j => V.bl (decide (i < j))) (tVar 8) (tCB (Evl.rLenS K) (tCons (tVar 7) tNil)))) (tOp (rIxL K) (tVar 3) (tOp (rIxL K) (tVar 7) (tVar 8))) (tLst tNil)) [some (.int n), some (.int p), some (.int q), some sv, some (.ref sd), some (.ref fa), some (.int d), some (.ref ra), some (.int (h : Int)), y9] u2 (Rep.list Rep.int) L ∧
            (∀ x, R[h]? = some x → L = nearOf n p q x) ∧ (R[h]? = none → L = []) := by
          cases hx : R[h]? with
          | some x =>
            have hxl := (List.getElem?_eq_some_iff.mp hx).1
            have hxr := ri.al x (List.mem_of_getElem? hx)
            refine ⟨nearOf n p q x, ev_if (b := true) (EvT.eq (et_test (ev_lt (ev_varI rfl) (ev_lenO oru2 rfl))) (by simp; omega)) (fun _ => ev_ix (ev_var rfl su2) (ev_ixO oru2 rfl (ev_varI rfl) (atI_of hx)) (steps_at hxr.1.1 hxr.1.2)) (fun z => nomatch z), fun y hy => (by cases hy; rfl), fun z => nomatch z⟩
          | none =>
            have hxl := List.getElem?_eq_none_iff.mp hx
            refine ⟨[], ev_if (b := false) (EvT.eq (et_test (ev_lt (ev_varI rfl) (ev_lenO oru2 rfl))) (by simp; omega)) (fun z => nomatch z) (fun _ => EvN.d (en_lst el_nil)), fun y hy => (by cases hy), fun _ => rfl⟩
        obtain ⟨L, evL, hL1, hL2⟩ := hL
        have hLn : L.length ≤ 4 := by
          cases hx : R[h]? with
          | some x => rw [hL1 x hx]; unfold nearOf; exact Nat.le_trans (List.length_filter_le _ _) (by simp)
          | none => rw [hL2 hx]; simp
        refine s_for (K := K) (ei_list evL) (fun k σ z => ∃ (y9 : Option V) (m' : List (Int × Bool)) (R' ext : List Int), σ = [some (.int n), some (.int p), some (.int q), some sv, some (.ref sd), some (.ref fa), some (.int d), some (.ref ra), some (.int (h : Int)), y9] ∧ GrC wd z ∧ Ex u2.S z.S ∧
            OwnD K z sd Rep.bl m' ∧ OwnL K z ra Rep.int R' ∧ OwnL K z fa Rep.raw (as.map V.ref) ∧ (∀ (j : Nat) (a : Addr) (l : List Int), as[j]? = some a → ls[j]? = some l → OwnL K z a Rep.int l) ∧ R' = R ++ ext ∧ ext.length ≤ k ∧ RInv n p q f d (i * 70) h R' m' ∧ ∀ e ∈ L.take k, e ∈ R')
          (fun z g => ⟨y9, m', R, [], rfl, ⟨(cu.g.trans gu).trans g⟩, g.s, (odu.gr gu).gr g, oru2.gr g, (ofu.gr gu).gr g, fun j a l h1 h2 => ((inu j a l h1 h2).gr gu).gr g, by simp, by simp, ri, by simp⟩) ?_ ?_
        · intro k e ve σ z z2 he hxz hI gz hre
          obtain ⟨y9, m', R', ext, rfl, cz, xz, odz, orz, ofz, inz, hR', hext, rz, hall⟩ := hI
          cases hre
          have hx : ∃ x, R[h]? = some x := by cases hx : R[h]? with
            | some x => exact ⟨x, rfl⟩
            | none => rw [hL2 hx] at he; simp at he
          obtain ⟨x, hx⟩ := hx
          have hxl := (List.getElem?_eq_some_iff.mp hx).1
          have hxr := ri.al x (List.mem_of_getElem? hx)
          have heN : e ∈ nearOf n p q x := by rw [← hL1 x hx]; exact List.mem_of_getElem? he
          have he0 := (mem_near.mp heN).1
          have hfe : f e = d := by rw [hf.near hxr.1.1 hxr.1.2 heN]; exact hxr.2
          have htk : L.take (k + 1) = L.take k ++ [e] := take_succ_get he
          have rzl := rz.len
          refine s_when (K := K) (b := !(getI m' e).isSome) (et_B (ev_dnotin (odz.gr gz) rfl (ev_varI rfl))) (fun hb z3 g3 => ?_) (fun hb z3 g3 => ?_)
          · have hnR : e ∉ R' := fun y => by
              have := (rz.sn e).mpr (.inr y)
              rw [this] at hb; cases hb
            have ml := rz.ml
            refine q_dput (K := K) (rv := Rep.bl) (b := true) (n := e) ((odz.gr gz).gr g3) rfl ev_bl (ev_varI rfl) (by omega) fun z4 m4 od4 => ?_
            refine s_app (K := K) (a := e) (((orz.gr gz).gr g3).mt m4 nrs) rfl (ev_varI rfl) (by omega) fun z5 m5 o5 => ?_
            dsimp only
            refine nxt ?_ ?_
            · exact gz.s.trans (g3.s.trans (m4.s.trans m5.s))
            · refine ⟨_, _, R' ++ [e], ext ++ [e], rfl, ⟨m5.gr _ (m4.gr _ ((cz.g.trans gz).trans g3) n6') n4'⟩, xz.trans (gz.s.trans (g3.s.trans (m4.s.trans m5.s))), od4.mt m5 nrs.symm, o5, (((ofz.gr gz).gr g3).mt m4 hsf.symm).mt m5 nrf.symm, lll_mt (lll_mt (fun j a l h1 h2 => ((inz j a l h1 h2).gr gz).gr g3) m4 nsd) m5 nra, by rw [hR']; simp, by simp; omega, rz.add (by rw [hR']; simp; omega) he0 hfe hnR, fun y hy => ?_⟩
              rw [htk] at hy
              rcases List.mem_append.mp hy with hy | hy
              · exact List.mem_append_left _ (hall y hy)
              · exact List.mem_append_right _ hy
          · have hR : e ∈ R' := by
              have : (getI m' e).isSome = true := by cases y : (getI m' e).isSome with
                | true => rfl
                | false => rw [y] at hb; cases hb
              rcases (rz.sn e).mp this with y | y
              · omega
              · exact y
            dsimp only
            refine nxt ?_ ?_
            · exact gz.s.trans g3.s
            · refine ⟨_, m', R', ext, rfl, ⟨(cz.g.trans gz).trans g3⟩, xz.trans (gz.s.trans g3.s), (odz.gr gz).gr g3, (orz.gr gz).gr g3, (ofz.gr gz).gr g3, fun j a l h1 h2 => ((inz j a l h1 h2).gr gz).gr g3, hR', by omega, rz, fun y hy => ?_⟩
              rw [htk] at hy
              rcases List.mem_append.mp hy with hy | hy
              · exact hall y hy
              · simp at hy; subst hy; exact hR
        · intro σ z hxz hI
          obtain ⟨y9, m', R', ext, rfl, cz, xz, odz, orz, ofz, inz, hR', hext, rz, hall⟩ := hI
          rw [List.take_length] at hall
          dsimp only
          refine nxt ?_ ?_
          · exact gu.s.trans xz
          · refine ⟨_, _, m', R', rfl, cz, xu.trans (gu.s.trans xz), odz, orz, ofz, inz, { rz with cl := fun j x hj hx e he => ?_ }⟩
            by_cases z : j = h
            · subst z
              cases hx0 : R[j]? with
              | some x0 =>
                have : R'[j]? = some x0 := by rw [hR', List.getElem?_append_left (List.getElem?_eq_some_iff.mp hx0).1, hx0]
                have e1 := Option.some.inj (this.symm.trans hx)
                exact hall e (by rw [hL1 x0 hx0, e1]; exact he)
              | none =>
                have e0 : ext = [] := by
                  rw [hL2 hx0] at hext
                  exact List.length_eq_zero_iff.mp (by simpa using hext)
                rw [hR', e0, List.append_nil, hx0] at hx
                cases hx
            · exact rz.cl j x (by omega) hx e he
      · intro σ u hx hI
        obtain ⟨y8, y9, m', R, rfl, cu, xu, odu, oru, ofu, inu, ri⟩ := hI
        rw [irange_len] at ri
        have rl := ri.len
        have hcl := hf.closed (by omega) (by omega) hfd ri.al ri.hd (fun x hx e he => by
          obtain ⟨j, hj, rfl⟩ := List.getElem_of_mem hx
          exact ri.cl j _ (by omega) (by simp [hj]) e he)
        have hperm : R.Perm ((irange 0 n).filter fun e => decide (f e = d)) := perm_of_mem ri.nd ((irange_nodup 0 n).filter _) fun e => by
          rw [hcl e, List.mem_filter, irange_mem]; simp
        have hsort : ((irange 0 n).filter fun e => decide (f e = d)).Pairwise (· ≤ ·) := ((irange_lt 0 n).filter _).imp fun h => Int.le_of_lt h
        refine s_appN (K := K) ofu rfl (en_sortO oru rfl hperm hsort) (by
          have := irange_len (lo := 0) (hi := n)
          rw [List.length_map, hlen, hls, List.length_map]
          refine Nat.lt_of_le_of_lt (List.length_filter_le _ _) ?_
          rw [List.length_take]; omega) fun sa u3 m3 n3 nsf o3 os3 => ?_
        have n3a : sa ∉ as := fun z => OwnLL.in_ne (K := K) (w := u) hlen inu z n3
        have n3d : sa ≠ sd := odu.apart n3
        have n3w : wd.H sa = none := fr_back cu.g n3
        dsimp only
        refine nxt ?_ ?_
        · exact gg.s.trans (g4.s.trans (m5.s.trans (xu.trans m3.s)))
        · refine ⟨_, _, _, _, m', as ++ [sa], ls ++ [(irange 0 n).filter fun e => decide (f e = d)], rfl, ⟨m3.gr _ cu.g n7'⟩, x5.trans (xu.trans m3.s), odu.mt m3 hsf, fun e => ?_, ?_, by simpa using o3, ?_, ?_, ?_, by simp [hlen], ?_, ?_, ?_⟩
          · rw [ri.sn e, hcl e]
            omega
          · have := ri.ml
            omega
          · rw [List.nodup_append]
            exact ⟨nda, by simp, fun a ha b hb z => by simp at hb; subst hb; subst z; exact n3a ha⟩
          · simp [nfa, nsf.symm]
          · simp [nsd, n3d.symm]
          · intro a ha
            rcases List.mem_append.mp ha with ha | ha
            · exact hfr a ha
            · simp at ha; subst ha; exact n3w
          · intro j a l h1 h2
            by_cases hj : j < as.length
            · rw [List.getElem?_append_left hj] at h1
              rw [List.getElem?_append_left (by omega)] at h2
              exact (inu j a l h1 h2).mt m3 fun z => nfa (z ▸ List.mem_of_getElem? h1)
            · have hj2 : j = as.length := by
                have := (List.getElem?_eq_some_iff.mp h1).1
                simp at this; omega
              subst hj2
              rw [List.getElem?_append_right (Nat.le_refl _)] at h1
              rw [List.getElem?_append_right (by omega)] at h2
              simp at h1
              rw [show as.length - ls.length = 0 by omega] at h2
              simp at h2
              subst h1; subst h2
              exact os3
          · rw [htk, List.filter_append, List.filter_cons, if_pos (by simp [hfd]), List.map_append, hls]; rfl
    · -- seen
      have hfd : f d ≠ d := by
        have : (getI m d).isSome = true := by cases z : (getI m d).isSome with
          | true => rfl
          | false => rw [z] at hb; cases hb
        rw [hm] at this
        omega
      dsimp only
      refine nxt ?_ ?_
      · exact (g2'.trans g3).s
      · refine ⟨_, _, _, _, m, as, ls, rfl, ⟨c.g.trans (g2'.trans g3)⟩, x7.trans (g2'.trans g3).s, (od.gr g2').gr g3, fun e => ?_, by omega, (of_.gr g2').gr g3, nda, nfa, nsd, hlen, hfr, fun j a l h1 h2 => ((hin j a l h1 h2).gr g2').gr g3, ?_⟩
        · rw [hm]
          refine ⟨fun h => ⟨h.1, by omega⟩, fun h => ⟨h.1, ?_⟩⟩
          have : f e ≠ i := fun z => hfd (by have := hf.idem h.1.1 h.1.2; rw [z, ← hdi] at this; exact this)
          omega
        · rw [htk, List.filter_append, List.filter_cons, if_neg (by simp [hfd]), hls]; simp
  · intro σ v hx hI
    obtain ⟨y6, y7, y8, y9, m, as, ls, rfl, c, x7, od, hm, hml, of_, nda, nfa, nsd, hlen, hfr, hin, hls⟩ := hI
    refine s_retO rfl (k fa v c.g n7' ⟨as, of_, nda, nfa, ?_, hfr, ?_⟩)
    · rw [hlen, hls, List.take_length]; rfl
    · rw [List.take_length] at hls
      rw [show compsOf n f = ls from hls.symm]
      exact hin
end
end WK

namespace WK
open PySem PySem.Spec PyProof.Rows L2
/-! ### a jar made; the divisor -/
def Bits (ns : List Int) : Prop := ∀ z ∈ ns, Builtin.Int.intBits z ≤ 1048576
def spJar (K : PySem.W.Frag) : Sp := fun vs H Q _ => ∃ (wd : Wd) (sv : V) (ns : List Int) (k : Int), wd.H = H ∧ vs = [sv, .int k] ∧ (Rep.list Rep.int).r K wd.S sv ns ∧ 0 ≤ k ∧ k ≤ 1000 ∧
  ∀ p w', Gr wd w' → wd.H p = none → Jar K w' p (2 ^ 59) → Q (.ref p) w'.H
section
variable {P : Program} {w : World} {K : PySem.W.Frag} {mg : Str → Option Value} {base : Heap}
theorem pos_43 : (0 : Int) < 10 ^ (43 : Int).toNat + 57 := by decide +kernel
theorem lt_43 : (10 : Int) ^ (43 : Int).toNat + 57 < 2 ^ 150 := by decide +kernel
theorem ok__law_jar (T : Tx K mg) : FnOk P w K mg base CX0 1 (He.ga K "_law_jar") T.d__law_jar ["script", "k"] (spJar K) := by
  have nd := sc__law_jar.nd
  refine FunD.ok T.F__law_jar sc__law_jar (fun vs H Q E h => by obtain ⟨wd, sv, ns, k, _, rfl, _⟩ := h; rfl) fun cdv A outer s H vs Q E hr h => ⟨_, PSs.nox (pss_cons (ps_set (i := 2) nd rfl (Or.inl rfl) (pe_ifExp (pt_cmpR op_lt (pv 1) (pe_callB (show CallR _ _ (Evl.rLenS K) from call_len_seq) (by rfl) T.n_len (by decide +kernel) (pa_cons (pv 0) pa_nil)) (nomark _)) (pe_callB call_abs (by rfl) T.n_abs (by decide +kernel) (pa_cons (pe_ix (show IxR _ (rIxL K) from ix_list) (pv 0) (pv 1) (fun _ _ => rfl)) pa_nil)) pe_int))
      (pss_one (ps_ret (pe_lst (pa_cons (pe_callB (call_max2 rfl) (by rfl) T.n_max (by decide +kernel) (pa_cons pe_int (pa_cons (pe_op op_sub (pv 2) (pe_op op_powW pe_int pe_int)) pa_nil))) (pa_cons (pe_op op_add (pe_op op_mulW (pe_op op_mod (pe_callTy call_int1 (by rfl) T.n_int (by decide +kernel) (pa_cons (pv 2) pa_nil)) (pe_op op_add (pe_op op_powW pe_int pe_int) pe_int)) pe_int) (pe_op op_mulW pe_int (pv 1))) (pa_cons pe_int pa_nil))))))), ?_⟩
  try dsimp only [cxOf]
  obtain ⟨wd, sv, ns, k, rfl, rfl, rs, h0, h1, q⟩ := h
  have hc : ∃ c : Int, 0 ≤ c ∧ EvD K (tIf (tTest (tOp (rI0 fun i j => V.bl (decide (i < j))) (tVar 1) (tCB (Evl.rLenS K) (tCons (tVar 0) tNil)))) (tCB (fun xs H Q => ∃ i, xs = [.int i] ∧ Q (.int (if i < 0 then -i else i)) H) (tCons (tOp (rIxL K) (tVar 0) (tVar 1)) tNil)) (tC (.int 0))) (L2.start ["script", "k", "cell_here"] [sv, .int k]) wd Rep.int c := by
    by_cases hk : k < (ns.length : Int)
    · have hg : ns[k.toNat]? = some (ns[k.toNat]'(by omega)) := by simp
      exact ⟨_, by omega, ev_if (b := true) (EvT.eq (et_test (ev_lt (ev_varI rfl) (ev_len (ev_var rfl rs)))) (by simp [hk])) (fun _ => ev_abs (ev_ix (ev_var rfl rs) (ev_varI rfl) (atI_int h0 hg))) (fun z => nomatch z)⟩
    · exact ⟨0, by omega, ev_if (b := false) (EvT.eq (et_test (ev_lt (ev_varI rfl) (ev_len (ev_var rfl rs)))) (by simp; omega)) (fun z => nomatch z) (fun _ => ev_int)⟩
  obtain ⟨c, hc0, hc⟩ := hc
  refine q_asg (K := K) hc fun v w1 g1 r1 => ?_
  cases r1
  have l1 := Int.emod_lt_of_pos c pos_43
  have l2 := Int.emod_nonneg c (Int.ne_of_gt pos_43)
  have l3 := lt_43
  refine s_retN (K := K) (en_lst (el_cons (ev_max2 ev_int (ev_sub (ev_varI rfl) (ev_pow ev_int ev_int (pow_ok (n := 4) (by decide) (by decide) (by decide) (by decide))))) (el_cons (ev_add (ev_mul (ev_mod (ev_intI (ev_varI rfl)) (ev_add (ev_pow ev_int ev_int (pow_ok (n := 4) (by decide) (by decide) (by decide) (by decide))) ev_int) pos_43) ev_int (wide_mul (a := 150) (b := 7) (by omega) (by decide) (by decide) (by decide) (by decide)))
    (ev_mul ev_int (ev_varI rfl) (wide_mul (a := 17) (b := 10) (by decide) (by omega) (by decide) (by decide) (by decide)))) (el_cons ev_int el_nil)))) fun p w2 g2 n2 o2 => ?_
  refine q p w2 (g1.trans g2) (fr_back g1 n2) ⟨_, _, _, o2, by omega, by omega, by omega, by decide, by decide⟩
def gcdI (a b : Int) : Int := ((Nat.gcd a.toNat b.toNat : Nat) : Int)
theorem ok__law_divisor (T : Tx K mg) : FnOk P w K mg base CX0 1 (He.ga K "_law_divisor") T.d__law_divisor ["one", "two"] (spD2 K Rep.int Rep.int (fun a b => 0 ≤ a ∧ 0 ≤ b) Rep.int gcdI) := by
  have nd := sc__law_divisor.nd
  refine okD2 T.F__law_divisor sc__law_divisor rfl fun cdv A outer s H E hr => ⟨_, (pss_cons (ps_while PassesOwn.never (pt_cmpR op_gt (pv 1) pe_int (nomark _)) (pss_one (ps_par (i := 0) (j := 1) (by rfl) nd rfl rfl (by decide) rfl rfl (pa_cons (pv 1) (pa_cons (pe_op op_mod (pe_callTy call_int1 (by rfl) T.n_int (by decide +kernel) (pa_cons (pv 0) pa_nil)) (pv 1)) pa_nil)) (by rfl))))
      (pss_one (ps_ret (pv 0)))), fun wd x y a b Q hx hy hp q => ?_⟩
  cases hx; cases hy
  refine q_while (K := K) (fun m σ v => ∃ c d : Int, σ = [some (.int c), some (.int d)] ∧ 0 ≤ c ∧ 0 ≤ d ∧ gcdI c d = gcdI a b ∧ m = d.toNat ∧ Gr wd v) b.toNat ⟨a, b, rfl, hp.1, hp.2, rfl, rfl, Gr.refl _⟩ fun m σ v hI => ?_
  obtain ⟨c, d, rfl, hc, hd, hg, rfl, g⟩ := hI
  refine ⟨decide (0 < d), et_test (ev_gt (ev_varI rfl) ev_int), fun hb v1 g1 => ?_, fun hb v1 g1 => ?_⟩
  · have hd0 : 0 < d := of_decide_eq_true hb
    have hm := Int.emod_lt_of_pos c hd0
    have hn := Int.emod_nonneg c (Int.ne_of_gt hd0)
    refine s_par (K := K) (ev_varI rfl) (ev_mod (ev_intI (ev_varI rfl)) (ev_varI rfl) hd0) fun v v' v2 g2 r r' => ?_
    cases r; cases r'
    have hg2 : gcdI d (c % d) = gcdI a b := by
      rw [← hg]
      unfold gcdI
      have : (c % d).toNat = c.toNat % d.toNat := by
        have e1 : c = (c.toNat : Int) := by omega
        have e2 : d = (d.toNat : Int) := by omega
        conv => lhs; rw [e1, e2, ← Int.natCast_emod, Int.toNat_natCast]
      rw [this, Nat.gcd_comm c.toNat d.toNat, Nat.gcd_rec d.toNat c.toNat, Nat.gcd_comm]
    dsimp only
    refine wht (m' := (c % d).toNat) ?_ ?_
    · omega
    · exact ⟨d, c % d, rfl, hd, hn, hg2, rfl, (g.trans g1).trans g2⟩
  · have hd0 : d = 0 := by have := of_decide_eq_false hb; omega
    subst hd0
    refine s_ret (K := K) (ev_varI rfl) fun v v2 g2 r => q v v2 ((g.trans g1).trans g2) ?_
    cases r
    have : gcdI c 0 = c := by unfold gcdI; simp; omega
    show V.int c = V.int (gcdI a b)
    rw [← hg, this]
end
end WK

namespace WK
open PySem PySem.Spec PyProof.Rows L2
/-! ### _law_sets -/
def lF (l : List Int) : Int → Int := fun d => l.getD d.toNat 0
theorem lF_at {l : List Int} {d : Int} (h0 : 0 ≤ d) (h1 : d < l.length) : atI l d = some (lF l d) := by
  refine atI_int h0 ?_
  unfold lF
  rw [List.getD_eq_getElem?_getD]
  have : d.toNat < l.length := by omega
  simp [this]
theorem sum_set : ∀ (l : List Int) (i : Nat) (x : Int), i < l.length → (l.set i x).sum = l.sum - l.getD i 0 + x
  | [], i, x, h => by simp at h
  | a :: r, 0, x, _ => by simp; omega
  | a :: r, i + 1, x, h => by
    have := sum_set r i x (by simpa using h)
    rw [List.set_cons_succ, List.sum_cons, List.sum_cons, this, List.getD_cons_succ]
    omega
theorem getD_setI {l : List Int} {i j : Nat} {m : Int} (h : i < l.length) : (l.set i m).getD j 0 = if j = i then m else l.getD j 0 := by
  rw [List.getD_eq_getElem?_getD, List.getD_eq_getElem?_getD]
  by_cases e : j = i
  · subst e; rw [List.getElem?_set_self h, if_pos rfl]; rfl
  · rw [List.getElem?_set_ne (Ne.symm e), if_neg e]
structure LInv (n p q : Int) (l : List Int) : Prop where
  len : (l.length : Int) = n
  nm : Nm n p q (lF l)
theorem LInv.pos {n p q : Int} {l : List Int} (h : LInv n p q l) : 0 ≤ l.sum := by
  have : ∀ x ∈ l, 0 ≤ x := fun x hx => by
    obtain ⟨i, hi, rfl⟩ := List.getElem_of_mem hx
    have hl := h.len
    have := (h.nm.lo (i : Int) (by omega) (by omega)).1
    unfold lF at this
    rw [Int.toNat_natCast, List.getD_eq_getElem?_getD] at this
    simpa [hi] using this
  clear h
  induction l with
  | nil => simp
  | cons a r ih =>
    rw [List.sum_cons]
    have := ih fun x hx => this x (List.mem_cons_of_mem _ hx)
    have := this
    have := ‹∀ x ∈ a :: r, 0 ≤ x› a List.mem_cons_self
    omega
theorem LInv.spread {n p q s d m : Int} {l : List Int} (h : LInv n p q l) (hs : s = p ∨ s = q) (hs0 : 0 < s) (h0 : 0 ≤ d) (h1 : d + s < n) (hm : m = min (lF l d) (lF l (d + s))) (hne : lF l d ≠ lF l (d + s)) :
    LInv n p q ((l.set d.toNat m).set (d + s).toNat m) ∧ ((l.set d.toNat m).set (d + s).toNat m).sum < l.sum := by
  have hl := h.len
  have e1 : d.toNat < l.length := by omega
  have e2 : (d + s).toNat < l.length := by omega
  have e3 : (d + s).toNat < (l.set d.toNat m).length := by simpa using e2
  refine ⟨⟨by simpa using hl, (h.nm.spread hs h0 h1 hs0).congr fun e k0 k1 => ?_⟩, ?_⟩
  · show (_ : List Int).getD e.toNat 0 = _
    rw [getD_setI e3, getD_setI e1]
    unfold ups
    rw [← hm]
    by_cases z : e = d + s
    · subst z; rw [if_pos rfl, if_pos rfl]
    · rw [if_neg (show e.toNat ≠ (d + s).toNat by omega), if_neg z]
      by_cases z2 : e = d
      · subst z2; rw [if_pos rfl, if_pos rfl]
      · rw [if_neg (show e.toNat ≠ d.toNat by omega), if_neg z2]; rfl
  · rw [sum_set _ _ _ e3, sum_set _ _ _ e1, getD_setI e1, if_neg (show (d + s).toNat ≠ d.toNat by omega)]
    show _ - lF l d + m - lF l (d + s) + m < _
    omega
def spSets (K : PySem.W.Frag) : Sp := fun vs H Q _ => ∃ (wd : Wd) (n p q : Int), wd.H = H ∧ vs = [.int n, .int p, .int q] ∧ (1 ≤ p ∧ 1 ≤ q ∧ 0 ≤ n ∧ n ≤ 1000) ∧
  ∀ a w' f, Gr wd w' → wd.H a = none → NmF n p q f → OwnL K w' a (Rep.list Rep.int) (compsOf n f) → Q (.ref a) w'.H
section
variable {P : Program} {w : World} {K : PySem.W.Frag} {mg : Str → Option Value} {base : Heap}
theorem ok__law_sets (T : Tx K mg) : FnOk P w K mg base CX0 1 (He.ga K "_law_sets") T.d__law_sets ["many", "one", "two"] (spSets K) := by
  have nd := sc__law_sets.nd
  refine FunD.ok T.F__law_sets sc__law_sets (fun vs H Q E h => by obtain ⟨wd, n, p, q, _, rfl, _⟩ := h; rfl) fun cdv A outer s H vs Q E hr h => ⟨_, PSs.nox (pss_cons (ps_asg (pe_tup (pa_cons (pe_listRg rfl (by rfl) T.n_list (prg_1 (by rfl) T.n_range (pv 0))) (pa_cons pe_bl pa_nil))) (pg_tup rfl (pgs_cons (pg_name (i := 3) nd rfl (Or.inr rfl)) (pgs_cons (pg_name (i := 4) nd rfl (Or.inl rfl)) pgs_nil))))
      (pss_cons (ps_while PassesOwn.never (pt_val (pv 4)) (pss_cons (ps_set (i := 4) nd rfl (Or.inl rfl) pe_bl)
      (pss_one (ps_for PassesOwn.never rfl (pi_range1 (by rfl) T.n_range (pa_cons (pv 0) pa_nil)) (pg_name (i := 5) nd rfl (Or.inl rfl)) (pss_one (ps_for PassesOwn.never rfl (pi_tup (pe_tup (pa_cons (pv 1) (pa_cons (pv 2) pa_nil)))) (pg_name (i := 6) nd rfl (Or.inl rfl)) (pss_one (ps_if (PW.pt (pw_and (pt_cmpR op_lt (pe_op op_add (pv 5) (pv 6)) (pv 0) (nomark _)) (pw_and1 (pt_cmpR op_ne (pe_ix (show IxR _ (rIxL K) from ix_list) (pv 3) (pv 5) (fun _ _ => rfl)) (pe_ix (show IxR _ (rIxL K) from ix_list) (pv 3) (pe_op op_add (pv 5) (pv 6)) (fun _ _ => rfl)) (nomark _))))) (pss_cons (ps_set (i := 7) nd rfl (Or.inl rfl) (pe_callB (call_min2 rfl) (by rfl) T.n_min (by decide +kernel) (pa_cons (pe_ix (show IxR _ (rIxL K) from ix_list) (pv 3) (pv 5) (fun _ _ => rfl)) (pa_cons (pe_ix (show IxR _ (rIxL K) from ix_list) (pv 3) (pe_op op_add (pv 5) (pv 6)) (fun _ _ => rfl)) pa_nil))))
      (pss_cons (ps_asg (pv 7) (pg_sub (pv 3) (pv 5) set_list))
      (pss_cons (ps_asg (pv 7) (pg_sub (pv 3) (pe_op op_add (pv 5) (pv 6)) set_list))
      (pss_one (ps_set (i := 4) nd rfl (Or.inl rfl) pe_bl))))) pss_nil))))))))
      (pss_cons (ps_set (i := 8) nd rfl (Or.inl rfl) (pe_lst pa_nil))
      (pss_cons (ps_for PassesOwn.never rfl (pi_range1 (by rfl) T.n_range (pa_cons (pv 0) pa_nil)) (pg_name (i := 9) nd rfl (Or.inr rfl)) (pss_cons (ps_setLc (i := 10) (own := [("day_here", 5)]) (g := gName 5) rfl nd rfl rfl (sw_true rfl rfl rfl (by decide +kernel)) (pi_range1 (by rfl) T.n_range (pa_cons (pv 0) pa_nil)) (blkOk_by (own := [("day_here", 5)]) (N := ["many", "one", "two", "names_here", "is_changed", "day_here", "step", "least", "found", "name_here", "some"]) (sc := defScope s__law_sets) (by decide +kernel)) (fun _ _ _ _ _ => (pg_name (i := 5) nd rfl (by first | exact Or.inl rfl | exact Or.inr rfl))) (fun _ _ _ _ _ => pts_one (pt_cmpR op_eq (pe_ix (show IxR _ (rIxL K) from ix_list) (pv 3) (pv 5) (fun _ _ => rfl)) (pv 9) (nomark _))) (fun _ _ _ _ _ => (pv 5)))
      (pss_one (ps_if (pt_cmpR (show OpR _ _ (rNeD K) from (op_neD hr.units)) (pv 10) (pe_lst pa_nil) (nomark _)) (pss_one (ps_expr (pe_bm PySem.F.plainAttrs_list PySem.F.slot_list_append PySem.F.type_list_append mt_append (pv 8) (pa_cons (pv 10) pa_nil)))) pss_nil))))
      (pss_one (ps_ret (pv 8))))))), ?_⟩
  try dsimp only [cxOf]
  obtain ⟨wd, n, p, q, rfl, rfl, ⟨hp, hq, hn0, hn1⟩, k⟩ := h
  refine q_tupNV (K := K) (en_rg1 (ev_varI rfl) ⟨by omega, by omega⟩) ev_bl rfl fun a v' w1 g1 n1 o1 r1 => ?_
  cases r1
  have len0 : ((irange 0 n).length : Int) = n := by rw [irange_len]; omega
  have l0 : LInv n p q (irange 0 n) := ⟨len0, (Nm.id n p q).congr fun d h0 h1 => by
    have := irange_get (lo := 0) (hi := n) (i := d.toNat) (by omega)
    unfold lF
    rw [List.getD_eq_getElem?_getD, this]
    show 0 + _ = d
    omega⟩
  refine q_while (K := K) (fun m σ v => ∃ (l : List Int) (ch : Bool) (y5 y6 y7 y8 y9 y10 : Option V), σ = [some (.int n), some (.int p), some (.int q), some (.ref a), some (.bl ch), y5, y6, y7, y8, y9, y10] ∧ OwnL K v a Rep.int l ∧ LInv n p q l ∧ (ch = false → NmF n p q (lF l)) ∧ m = 2 * l.sum.toNat + ch.toNat ∧ Gr wd v)
    (2 * (irange 0 n).sum.toNat + 1) ⟨irange 0 n, true, none, none, none, none, none, none, rfl, o1, l0, fun z => (by cases z), rfl, g1⟩ fun m σ v hI => ?_
  obtain ⟨l, ch, y5, y6, y7, y8, y9, y10, rfl, o, li, hch, rfl, gv⟩ := hI
  refine ⟨ch, et_B (ev_varB rfl), fun hb v1 g2 => ?_, fun hb v1 g2 => ?_⟩
  · subst hb
    refine q_asg (K := K) (r := Rep.bl) (a := false) ev_bl fun vb v2 g3 rb => ?_
    cases rb
    have o2 := (o.gr g2).gr g3
    -- J: behind day i
    refine s_for (K := K) (ei_range1 (ev_varI rfl) (by omega)) (fun i σ z => ∃ (l' : List Int) (ch : Bool) (y5 y6 y7 : Option V), σ = [some (.int n), some (.int p), some (.int q), some (.ref a), some (.bl ch), y5, y6, y7, y8, y9, y10] ∧ OwnL K z a Rep.int l' ∧ LInv n p q l' ∧ l'.sum ≤ l.sum ∧ (ch = true → l'.sum < l.sum) ∧
        (ch = false → l' = l ∧ ∀ d : Int, 0 ≤ d → d < i → (d + p < n → lF l d = lF l (d + p)) ∧ (d + q < n → lF l d = lF l (d + q))) ∧ Gr wd z)
      (fun z g => ⟨l, false, y5, y6, y7, rfl, o2.gr g, li, Int.le_refl _, fun z => (by cases z), fun _ => ⟨rfl, fun d h0 h1 => by omega⟩, ((gv.trans g2).trans g3).trans g⟩) ?_ ?_
    · intro i d vd σ z z2 hd hx hI gz hrd
      obtain ⟨l1, c1, y5, y6, y7, rfl, oz, lz, hs1, hs2, hs3, gwz⟩ := hI
      cases hrd
      obtain ⟨hdi, hdn⟩ := irange_get' hd
      have hdi : d = (i : Int) := by omega
      refine s_for (K := K) (ei_tup (el_cons (e := Rep.int) (ev_varI rfl) (el_cons (ev_varI rfl) el_nil))) (fun j σ z => ∃ (l' : List Int) (ch : Bool) (y6 y7 : Option V), σ = [some (.int n), some (.int p), some (.int q), some (.ref a), some (.bl ch), some (.int d), y6, y7, y8, y9, y10] ∧ OwnL K z a Rep.int l' ∧ LInv n p q l' ∧ l'.sum ≤ l.sum ∧ (ch = true → l'.sum < l.sum) ∧
          (ch = false → l' = l ∧ (∀ d : Int, 0 ≤ d → d < i → (d + p < n → lF l d = lF l (d + p)) ∧ (d + q < n → lF l d = lF l (d + q))) ∧ ∀ s ∈ [p, q].take j, d + s < n → lF l d = lF l (d + s)) ∧ Gr wd z)
        (fun z g => ⟨l1, c1, y6, y7, rfl, (oz.gr gz).gr g, lz, hs1, hs2, fun h => ⟨(hs3 h).1, (hs3 h).2, by simp⟩, (gwz.trans gz).trans g⟩) ?_ ?_
      · intro j st vs σ u u2 hst hxu hI gu hrs
        obtain ⟨l2, c2, y6, y7, rfl, ou, lu, ht1, ht2, ht3, gwu⟩ := hI
        cases hrs
        have hmem : st ∈ [p, q] := List.mem_of_getElem? hst
        have hst2 : st = p ∨ st = q := by simpa using hmem
        have hst0 : 0 < st := by rcases hst2 with z | z <;> omega
        have hl2 := lu.len
        have htk : [p, q].take (j + 1) = [p, q].take j ++ [st] := take_succ_get hst
        have ou2 := ou.gr gu
        refine s_when (K := K) (b := decide (d + st < n) && !decide (lF l2 d = lF l2 (d + st))) (et_and (et_test (ev_lt (ev_add (ev_varI rfl) (ev_varI rfl)) (ev_varI rfl))) fun hlt => et_test (ev_neI (ev_ixO ou2 rfl (ev_varI rfl) (lF_at (by omega) (by omega))) (ev_ixO ou2 rfl (ev_add (ev_varI rfl) (ev_varI rfl)) (lF_at (by omega) (by have := of_decide_eq_true hlt; omega))))) (fun hb u3 g3 => ?_) (fun hb u3 g3 => ?_)
        · rw [Bool.and_eq_true, decide_eq_true_eq] at hb
          have hne : lF l2 d ≠ lF l2 (d + st) := by intro z; rw [decide_eq_true z] at hb; exact absurd hb.2 (by decide)
          have ou3 := ou2.gr g3
          refine q_asg (K := K) (ev_min2 (ev_ixO ou3 rfl (ev_varI rfl) (lF_at (by omega) (by omega))) (ev_ixO ou3 rfl (ev_add (ev_varI rfl) (ev_varI rfl)) (lF_at (by omega) (by omega)))) fun vm u4 g4 r4 => ?_
          cases r4
          refine q_set (K := K) (ou3.gr g4) rfl (ev_varI rfl) (ev_varI rfl) ⟨by omega, by omega⟩ fun u5 m5 o5 => ?_
          refine q_set (K := K) o5 rfl (ev_varI rfl) (ev_add (ev_varI rfl) (ev_varI rfl)) ⟨by omega, by simp; omega⟩ fun u6 m6 o6 => ?_
          refine s_asg (K := K) (r := Rep.bl) (a := true) ev_bl fun vb u7 g7 r7 => ?_
          cases r7
          obtain ⟨s1, s2⟩ := lu.spread hst2 hst0 (d := d) (by omega) hb.1 rfl hne
          dsimp only
          refine nxt ?_ ?_
          · exact gu.s.trans (g3.s.trans (g4.s.trans (m5.s.trans (m6.s.trans g7.s))))
          · exact ⟨_, true, _, _, rfl, o6.gr g7, s1, by omega, fun _ => by omega, fun z => (by cases z), (m6.gr _ (m5.gr _ (((gwu.trans gu).trans g3).trans g4) (fr_back (Gr.refl _) (fr_back (Gr.refl _) (fr_back (Gr.refl wd) n1)))) n1).trans g7⟩
        · dsimp only
          refine nxt ?_ ?_
          · exact gu.s.trans g3.s
          · refine ⟨l2, c2, _, y7, rfl, ou2.gr g3, lu, ht1, ht2, fun h => ⟨(ht3 h).1, (ht3 h).2.1, fun s hs hlt => ?_⟩, (gwu.trans gu).trans g3⟩
            rw [htk] at hs
            rcases List.mem_append.mp hs with hs | hs
            · exact (ht3 h).2.2 s hs hlt
            · simp at hs; subst hs
              rw [decide_eq_true hlt, Bool.true_and] at hb
              have e := (ht3 h).1
              rw [e] at hb
              by_cases z : lF l d = lF l (d + s)
              · exact z
              · rw [decide_eq_false z] at hb; cases hb
      · intro σ u hxu hI
        obtain ⟨l2, c2, y6, y7, rfl, ou, lu, ht1, ht2, ht3, gwu⟩ := hI
        dsimp only
        refine nxt ?_ ?_
        · exact gz.s.trans hxu
        · refine ⟨l2, c2, _, y6, y7, rfl, ou, lu, ht1, ht2, fun h => ⟨(ht3 h).1, fun e e0 e1 => ?_⟩, gwu⟩
          by_cases z : e < i
          · exact (ht3 h).2.1 e e0 z
          · have : e = d := by omega
            subst this
            exact ⟨(ht3 h).2.2 p (by simp), (ht3 h).2.2 q (by simp)⟩
    · intro σ z hx hI
      obtain ⟨l1, c1, y5, y6, y7, rfl, oz, lz, hs1, hs2, hs3, gwz⟩ := hI
      rw [irange_len] at hs3
      have pz := lz.pos
      dsimp only
      refine wht (m' := 2 * l1.sum.toNat + c1.toNat) ?_ ?_
      · cases c1 with
        | true => have := hs2 rfl; show _ + 1 < _ + 1; omega
        | false => show _ + 0 < _ + 1; omega
      · refine ⟨l1, c1, y5, y6, y7, y8, y9, y10, rfl, oz, lz, fun h => ?_, rfl, gwz⟩
        obtain ⟨e, f⟩ := hs3 h
        subst e
        exact ⟨lz.nm, fun d h0 h1 => (f d h0 (by omega)).1 h1, fun d h0 h1 => (f d h0 (by omega)).2 h1⟩
  · have hF := hch hb
    have hl := li.len
    refine q_asgN (K := K) (e := Rep.list Rep.int) (en_lst el_nil) fun fa v2 g3 n3 o3 => ?_
    have n3' : wd.H fa = none := fr_back (gv.trans g2) n3
    have nfa : fa ≠ a := (o.gr g2).apart n3
    refine q_for (K := K) (ei_range1 (ev_varI rfl) (by omega)) (fun i σ z => ∃ (y9 y10 : Option V), σ = [some (.int n), some (.int p), some (.int q), some (.ref a), some (.bl ch), y5, y6, y7, some (.ref fa), y9, y10] ∧ OwnL K z a Rep.int l ∧ Gr wd z ∧
        OwnL K z fa (Rep.list Rep.int) ((((irange 0 n).take i).filter fun d => decide (lF l d = d)).map fun d => (irange 0 n).filter fun e => decide (lF l e = d)))
      (fun z g => ⟨y9, y10, rfl, ((o.gr g2).gr g3).gr g, ((gv.trans g2).trans g3).trans g, by simpa using o3.gr g⟩) ?_ ?_
    · intro i d vd σ z z2 hd hx hI gz hrd
      obtain ⟨y9, y10, rfl, oz, gwz, ofz⟩ := hI
      cases hrd
      obtain ⟨hdi, hdn⟩ := irange_get' hd
      have htk : (irange 0 n).take (i + 1) = (irange 0 n).take i ++ [d] := take_succ_get hd
      refine q_asg (K := K) (EvN.d (en_lcIf (by rw [irange_len]; omega) (fun e => decide (lF l e = d)) (fun e => e) (ei_range1 (ev_varI rfl) (by omega)) (fun _ => rfl) (fun e ve z3 he g3 hre => by
        cases hre
        have := irange_mem.mp he
        exact et_test (ev_eqI (ev_ixO ((oz.gr gz).gr g3) rfl (ev_varI rfl) (lF_at this.1 (by omega))) (ev_varI rfl))) fun e ve z3 he _ g3 hre => by cases hre; exact ev_varI rfl)) fun vs z3 g3 r3 => ?_
      rw [List.map_id'] at r3
      have hfd : ((irange 0 n).filter fun e => decide (lF l e = d)) ≠ [] ↔ lF l d = d := by
        constructor
        · intro h
          obtain ⟨e, he⟩ := List.exists_mem_of_ne_nil _ h
          rw [List.mem_filter, irange_mem, decide_eq_true_eq] at he
          have := hF.idem he.1.1 he.1.2
          rw [he.2] at this
          exact this
        · intro h z
          have : d ∈ ((irange 0 n).filter fun e => decide (lF l e = d)) := by
            rw [List.mem_filter, irange_mem, decide_eq_true_eq]; exact ⟨⟨by omega, by omega⟩, h⟩
          rw [z] at this; cases this
      refine s_when (K := K) (b := !decide (((irange 0 n).filter fun e => decide (lF l e = d)) = [])) (et_test (ev_neD (rd_list rd_int) (ev_var rfl r3) (EvN.d (en_lst el_nil)))) (fun hb z4 g4 => ?_) (fun hb z4 g4 => ?_)
      · have hfd2 := hfd.mp (by intro z; rw [decide_eq_true z] at hb; cases hb)
        refine s_app (K := K) (((ofz.gr gz).gr g3).gr g4) rfl (ev_var rfl ((Rep.list Rep.int).m g4.s r3)) (by
          rw [List.length_map]
          refine Nat.lt_of_le_of_lt (List.length_filter_le _ _) ?_
          rw [List.length_take, irange_len]; omega) fun z5 m5 o5 => ?_
        dsimp only
        refine nxt ?_ ?_
        · exact gz.s.trans (g3.s.trans (g4.s.trans m5.s))
        · refine ⟨_, _, rfl, (((oz.gr gz).gr g3).gr g4).mt m5 nfa.symm, m5.gr _ (((gwz.trans gz).trans g3).trans g4) n3', ?_⟩
          rw [htk, List.filter_append, List.filter_cons, if_pos (by simp [hfd2]), List.map_append]
          exact o5
      · have hfd2 : ¬ lF l d = d := fun z => by
          have := hfd.mpr z
          rw [decide_eq_false this] at hb; cases hb
        dsimp only
        refine nxt ?_ ?_
        · exact gz.s.trans (g3.s.trans g4.s)
        · refine ⟨_, _, rfl, (((oz.gr gz).gr g3).gr g4), ((gwz.trans gz).trans g3).trans g4, ?_⟩
          rw [htk, List.filter_append, List.filter_cons, if_neg (by simp [hfd2])]
          simpa using ((ofz.gr gz).gr g3).gr g4
    · intro σ z hx hI
      obtain ⟨y9, y10, rfl, oz, gwz, ofz⟩ := hI
      rw [List.take_length] at ofz
      exact s_retO rfl (k fa z (lF l) gwz n3' hF ofz)
end
end WK

namespace WK
open PySem PySem.Spec PyProof.Rows L2
/-! ### law k21 -/
theorem OwnLL.fix {K : PySem.W.Frag} {w0 w : Wd} {p : Addr} {ls : List (List Int)} (h : OwnLL K w0 w p ls) (hp : w0.H p = none) (g : Gr w0 w) : ∃ w', w'.H = w.H ∧ Gr w0 w' ∧ (Rep.list (Rep.list Rep.int)).r K w'.S (.ref p) ls := by
  obtain ⟨as, o, nd, np, hl, hf, hin⟩ := h
  refine ⟨w.fixs (p :: as), rfl, fixs_from g fun a ha => ?_, ?_⟩
  · rcases List.mem_cons.mp ha with z | z
    · rw [z]; exact hp
    · exact hf a z
  · obtain ⟨xs, ow, hx⟩ := o
    have hx := raw_paired hx
    subst hx
    refine ⟨p, _, rfl, SqL.of (by rw [fixs_at List.mem_cons_self]; exact ow.h), ?_⟩
    have : ∀ (bs : List Addr) (ms : List (List Int)), bs.length = ms.length → (∀ a ∈ bs, a ∈ p :: as) → (∀ (i : Nat) (a : Addr) (l : List Int), bs[i]? = some a → ms[i]? = some l → OwnL K w a Rep.int l) → Paired ((Rep.list Rep.int).r K (w.fixs (p :: as)).S) (bs.map V.ref) ms := by
      intro bs
      induction bs with
      | nil => intro ms h1 _ _; cases ms with
        | nil => exact .nil
        | cons => cases h1
      | cons b bs ih => intro ms h1 h2 h3; cases ms with
        | nil => cases h1
        | cons m ms => exact .cons ((h3 0 b m rfl rfl).in_fixs (h2 b List.mem_cons_self)) (ih ms (by simpa using h1) (fun a ha => h2 a (List.mem_cons_of_mem _ ha)) fun i a l q1 q2 => h3 (i + 1) a l (by simpa using q1) (by simpa using q2))
    exact this as ls hl (fun a ha => List.mem_cons_of_mem _ ha) hin
/-- all of it as it stands, for a look -/
theorem OwnLL.look {K : PySem.W.Frag} {w : Wd} {p : Addr} {as : List Addr} {ls : List (List Int)} (o : OwnL K w p Rep.raw (as.map V.ref)) (hl : as.length = ls.length) (hin : ∀ (i : Nat) (a : Addr) (l : List Int), as[i]? = some a → ls[i]? = some l → OwnL K w a Rep.int l) :
    Owns w (p :: as) ∧ (Rep.list (Rep.list Rep.int)).r K (w.fixs (p :: as)).S (.ref p) ls := by
  refine ⟨fun a ha => ?_, ?_⟩
  · rcases List.mem_cons.mp ha with z | z
    · rw [z]; exact o.owns
    · obtain ⟨i, hi, rfl⟩ := List.getElem_of_mem z
      exact (hin i _ (ls[i]'(by omega)) (by simp [hi]) (by simp)).owns
  · obtain ⟨xs, ow, hx⟩ := o
    have hx := raw_paired hx
    subst hx
    refine ⟨p, _, rfl, SqL.of (by rw [fixs_at List.mem_cons_self]; exact ow.h), ?_⟩
    have : ∀ (bs : List Addr) (ms : List (List Int)), bs.length = ms.length → (∀ a ∈ bs, a ∈ p :: as) → (∀ (i : Nat) (a : Addr) (l : List Int), bs[i]? = some a → ms[i]? = some l → OwnL K w a Rep.int l) → Paired ((Rep.list Rep.int).r K (w.fixs (p :: as)).S) (bs.map V.ref) ms := by
      intro bs
      induction bs with
      | nil => intro ms h1 _ _; cases ms with
        | nil => exact .nil
        | cons => cases h1
      | cons b bs ih => intro ms h1 h2 h3; cases ms with
        | nil => cases h1
        | cons m ms => exact .cons ((h3 0 b m rfl rfl).in_fixs (h2 b List.mem_cons_self)) (ih ms (by simpa using h1) (fun a ha => h2 a (List.mem_cons_of_mem _ ha)) fun i a l q1 q2 => h3 (i + 1) a l (by simpa using q1) (by simpa using q2))
    exact this as ls hl (fun a ha => List.mem_cons_of_mem _ ha) hin
theorem comps_len {n p q : Nat} {f g : Int → Int} (h : NmN n p q g) (hf : NmF n p q f) : ((compsOf n f).length : Int) = ((max (Nat.gcd p q) (p + q - n) : Nat) : Int) := by
  rw [← h.num]
  unfold compsOf irange
  rw [List.length_map, List.filter_map, List.length_map]
  have : ((n : Int) - 0).toNat = n := by omega
  rw [this]
  congr 2
  refine List.filter_congr fun d hd => ?_
  have hd := List.mem_range.mp hd
  show decide (f (0 + (d : Int)) = 0 + (d : Int)) = decide (g d = d)
  rw [Int.zero_add, hf.uniq h.toNmF (by omega) (by omega)]
def PreR (n p q : Int) : Prop := 1 ≤ p ∧ p ≤ 8 ∧ 1 ≤ q ∧ q ≤ 8 ∧ p ≤ n ∧ q ≤ n ∧ n ≤ 67
theorem joined_ev {K : PySem.W.Frag} {σ : L2.St} {w : Wd} {t0 t1 t2 : TE} {n p q : Int} {f : Int → Int} {E : XK} (h0 : EvD K t0 σ w Rep.int n) (h1 : EvD K t1 σ w Rep.int p) (h2 : EvD K t2 σ w Rep.int q) (hp : PreR n p q) (hf : NmF n p q f) :
    EvD K (tCall (spJoined K) [] E (tCons t0 (tCons t1 (tCons t2 tNil)))) σ w (Rep.list (Rep.list Rep.int)) (compsOf n f) := fun w1 g Q k =>
  h0 w1 g _ fun v w2 g2 r2 => h1 w2 (g.trans g2) _ fun v' w3 g3 r3 => h2 w3 ((g.trans g2).trans g3) _ fun v'' w4 g4 r4 => by
    cases r2; cases r3; cases r4
    refine ⟨w4, n, p, q, f, rfl, rfl, hp, hf, fun a w' g5 n5 o5 => ?_⟩
    obtain ⟨w6, e6, g6, r6⟩ := o5.fix n5 g5
    rw [← e6]
    exact k _ w6 (((g2.trans g3).trans g4).trans g6) r6
theorem shown_lists (n : Int) (hn : n ≤ 67) (f : Int → Int) : (PyData.list ((compsOf n f).map fun l => PyData.list (l.map PyData.int))).showable = true ∧ (PyData.list ((compsOf n f).map fun l => PyData.list (l.map PyData.int))).shown.length ≤ sizeLine := by
  have hb : ∀ l ∈ compsOf n f, l.length ≤ 67 ∧ ∀ i ∈ l, i.natAbs < 10 ^ 2 := fun l hl => by
    unfold compsOf at hl
    obtain ⟨d, _, rfl⟩ := List.mem_map.mp hl
    refine ⟨Nat.le_trans (List.length_filter_le _ _) (by rw [irange_len]; omega), fun i hi => ?_⟩
    have := irange_mem.mp (List.mem_filter.mp hi).1
    omega
  refine ⟨lists_able fun l hl i hi => Nat.lt_of_lt_of_le ((hb l hl).2 i hi) (by decide +kernel), size_le ?_⟩
  have h1 := lists_show (k := 2) (n := 67) (by decide) hb
  have h2 : (compsOf n f).length ≤ 67 := by
    unfold compsOf
    rw [List.length_map]
    exact Nat.le_trans (List.length_filter_le _ _) (by rw [irange_len]; omega)
  omega
theorem sets_run {K : PySem.W.Frag} {σ : L2.St} {w : Wd} {t0 t1 t2 : TE} {n p q : Int} {E : XK} {Q : VK} (h0 : EvD K t0 σ w Rep.int n) (h1 : EvD K t1 σ w Rep.int p) (h2 : EvD K t2 σ w Rep.int q) (hp : 1 ≤ p ∧ 1 ≤ q ∧ 0 ≤ n ∧ n ≤ 1000)
    (k : ∀ a w' f, Gr w w' → w.H a = none → NmF n p q f → OwnL K w' a (Rep.list Rep.int) (compsOf n f) → Q (.ref a) w'.H) : tCall (spSets K) [] E (tCons t0 (tCons t1 (tCons t2 tNil))) σ w.H Q :=
  h0.run fun v w2 g2 r2 => (h1.gr g2).run fun v' w3 g3 r3 => (h2.gr (g2.trans g3)).run fun v'' w4 g4 r4 => by
    cases r2; cases r3; cases r4
    exact ⟨w4, n, p, q, rfl, rfl, hp, fun a w' f g5 n5 => k a w' f (((g2.trans g3).trans g4).trans g5) (fr_back ((g2.trans g3).trans g4) n5)⟩
theorem joined_runR {K : PySem.W.Frag} {σ : L2.St} {w : Wd} {t0 t1 t2 : TE} {n p q : Int} {f : Int → Int} {E : XK} {Q : VK} (h0 : EvD K t0 σ w Rep.int n) (h1 : EvD K t1 σ w Rep.int p) (h2 : EvD K t2 σ w Rep.int q) (hp : PreR n p q) (hf : NmF n p q f)
    (k : ∀ a w' w0, Gr w w' → Gr w w0 → w.H a = none → OwnLL K w0 w' a (compsOf n f) → Q (.ref a) w'.H) : tCallR (spJoined K) E (tCons t2 (tCons t1 (tCons t0 tNil))) σ w.H Q :=
  h2.run fun v w2 g2 r2 => (h1.gr g2).run fun v' w3 g3 r3 => (h0.gr (g2.trans g3)).run fun v'' w4 g4 r4 => by
    cases r2; cases r3; cases r4
    exact ⟨w4, n, p, q, f, rfl, rfl, hp, hf, fun a w' g5 n5 => k a w' w4 (((g2.trans g3).trans g4).trans g5) ((g2.trans g3).trans g4) (fr_back ((g2.trans g3).trans g4) n5)⟩
theorem gcdI_nat (p q : Nat) : gcdI p q = ((Nat.gcd p q : Nat) : Int) := by simp [gcdI]
def spRight (K : PySem.W.Frag) : Sp := spD3 K Rep.int Rep.int Rep.int PreR Rep.bl (fun _ _ _ => true)
section
variable {P : Program} {w : World} {K : PySem.W.Frag} {mg : Str → Option Value} {base : Heap}
theorem ok__law_right (T : Tx K mg) : FnG P w K mg base CX0 4 (He.ga K "_law_right") T.d__law_right ["many", "one", "two"] (spRight K) := by
  have nd := sc__law_right.nd
  refine okG T.F__law_right sc__law_right (fun vs H Q E h => by obtain ⟨wd, x, y, z, n, p, q, _, rfl, _⟩ := h; rfl) fun cdv A outer s H vs Q E hr hg h => ⟨_, PSs.nox (pss_cons (ps_set (i := 3) nd rfl (Or.inl rfl) (pe_call (ok__law_sets T) (hr.mono (by decide)) (by rfl) T.g__law_sets T.F__law_sets.kp (b__law_sets T) .nil pass0 (pa_cons (pv 0) (pa_cons (pv 1) (pa_cons (pv 2) pa_nil)))))
      (pss_cons (ps_set (i := 4) nd rfl (Or.inl rfl) (pe_callR (ok_joined_days T) (hr.mono (by decide)) (by rfl) T.g_joined_days T.F_joined_days.kp (kr_joined_days T) pass0 (pk_cons (pv 2) (pk_cons (pv 1) (pk_cons (pv 0) pk_nil)))))
      (pss_cons (ps_if (pt_cmpR op_ne (pe_callB (show CallR _ _ (rRepr K) from (call_repr hg hr)) (by rfl) T.n_repr (by decide +kernel) (pa_cons (pv 4) pa_nil)) (pe_callB (show CallR _ _ (rRepr K) from (call_repr hg hr)) (by rfl) T.n_repr (by decide +kernel) (pa_cons (pv 3) pa_nil)) (nomark _)) (pss_one (ps_ret pe_bl)) pss_nil)
      (pss_cons (ps_set (i := 5) nd rfl (Or.inl rfl) (pe_call (ok__law_divisor T) (hr.mono (by decide)) (by rfl) T.g__law_divisor T.F__law_divisor.kp (b__law_divisor T) .nil pass0 (pa_cons (pv 1) (pa_cons (pv 2) pa_nil))))
      (pss_cons (ps_if (pt_cmpR op_ne (pe_callB (show CallR _ _ (Evl.rLenS K) from call_len_seq) (by rfl) T.n_len (by decide +kernel) (pa_cons (pv 4) pa_nil)) (pe_callB (call_max2 rfl) (by rfl) T.n_max (by decide +kernel) (pa_cons (pv 5) (pa_cons (pe_op op_sub (pe_op op_add (pv 1) (pv 2)) (pv 0)) pa_nil))) (nomark _)) (pss_one (ps_ret pe_bl)) pss_nil)
      (pss_cons (ps_for PassesOwn.never rfl (pi_enum (by rfl) T.n_enumerate (pa_cons (pv 4) pa_nil)) (pg_tup rfl (pgs_cons (pg_name (i := 6) nd rfl (Or.inl rfl)) (pgs_cons (pg_name (i := 7) nd rfl (Or.inl rfl)) pgs_nil))) (pss_one (ps_expr (pe_bm PySem.F.plainAttrs_list PySem.F.slot_list_append PySem.F.type_list_append mt_append (pv 7) (pa_cons (pv 6) pa_nil)))))
      (pss_cons (ps_if (pt_cmpR (show OpR _ _ (rNeD K) from (op_neD hr.units)) (pe_lc (own := [("some", 7)]) (g := gName 7) (tt := tYes) rfl nd (pi_list (pv 4)) (blkOk_by (own := [("some", 7)]) (N := ["many", "one", "two", "due", "told", "common", "spot", "some"]) (sc := defScope s__law_right) (by decide +kernel)) (fun _ _ _ _ _ => (pg_name (i := 7) nd rfl (by first | exact Or.inl rfl | exact Or.inr rfl))) (fun _ _ _ _ _ => pts_nil) (fun _ _ _ _ _ => (pe_slice (show SlR _ (rSlL K) from sl_list) (pv 7) po_none (po_some (pe_un un_neg pe_int))))) (pv 3) (nomark _)) (pss_one (ps_ret pe_bl)) pss_nil)
      (pss_cons (ps_expr (pe_bm PySem.F.plainAttrs_list PySem.F.slot_list_append PySem.F.type_list_append mt_append (pv 4) (pa_cons pe_non pa_nil)))
      (pss_one (ps_ret (pe_cmpR (show OpR _ _ (rEqD K) from (op_eqD hr.units)) (pe_call (ok_joined_days T) (hr.mono (by decide)) (by rfl) T.g_joined_days T.F_joined_days.kp (b_joined_days T) .nil pass0 (pa_cons (pv 0) (pa_cons (pv 2) (pa_cons (pv 1) pa_nil)))) (pv 3) (nomark _)))))))))))), ?_⟩
  obtain ⟨wd, x, y, z, n, p, q, rfl, rfl, hx, hy, hz, hpre, k⟩ := h
  cases hx; cases hy; cases hz
  try dsimp only [cxOf]
  have hp := hpre
  obtain ⟨hp1, hp2, hq1, hq2, hpn, hqn, hn⟩ := hp
  obtain ⟨n, rfl⟩ : ∃ n' : Nat, n = (n' : Int) := ⟨n.toNat, by omega⟩
  obtain ⟨p, rfl⟩ : ∃ n' : Nat, p = (n' : Int) := ⟨p.toNat, by omega⟩
  obtain ⟨q, rfl⟩ : ∃ n' : Nat, q = (n' : Int) := ⟨q.toNat, by omega⟩
  obtain ⟨g0, hg0⟩ := names (n := n) (p := p) (q := q) (by omega) (by omega) (by omega) (by omega) (by omega) (by omega)
  refine asgX (sets_run (K := K) (ev_varI rfl) (ev_varI rfl) (ev_varI rfl) ⟨by omega, by omega, by omega, by omega⟩ fun da w1 f g1 n1 hf o1 => ?_)
  have hcl := comps_len hg0 hf
  obtain ⟨w2, e2, m2, r2⟩ := o1.fix
  rw [← e2]
  have gw2 : Gr wd w2 := m2.gr wd g1 n1
  have sh := shown_lists n hn f
  refine asgX (joined_runR (K := K) (ev_varI rfl) (ev_varI rfl) (ev_varI rfl) hpre hf fun ta w3 w0 g3 g30 n3 o3 => ?_)
  obtain ⟨as, ot, nda, nta, hl, hfr, hin⟩ := o3
  have r3 := (Rep.list (Rep.list Rep.int)).m g3.s r2
  obtain ⟨lk1, lk2⟩ := OwnLL.look ot hl hin
  refine q_when (K := K) (b := false) (et_peeks lk1 (EvT.eq (et_test (ev_neS (ev_repr (rd_list (rd_list rd_int)) (ev_var rfl lk2) ref_list sh.1 sh.2) (ev_repr (rd_list (rd_list rd_int)) (ev_var rfl ((Rep.list (Rep.list Rep.int)).m fixs_ex r3)) ref_list sh.1 sh.2))) (by simp))) (fun h => nomatch h) fun _ w4 g4 => ?_
  refine q_asg (K := K) (ev_call2 (ev_varI rfl) (ev_varI rfl) ⟨by omega, by omega⟩) fun vc w5 g5 r5 => ?_
  cases r5
  have ot5 := (ot.gr g4).gr g5
  refine q_when (K := K) (b := false) (EvT.eq (et_test (ev_neI (ev_lenO ot5 rfl) (ev_max2 (ev_varI rfl) (ev_sub (ev_add (ev_varI rfl) (ev_varI rfl)) (ev_varI rfl))))) (by
    rw [gcdI_nat, List.length_map, hl, hcl]
    have : ((max (Nat.gcd p q) (p + q - n) : Nat) : Int) = max ((Nat.gcd p q : Nat) : Int) ((p : Int) + (q : Int) - (n : Int)) := by omega
    rw [this]; simp)) (fun h => nomatch h) fun _ w6 g6 => ?_
  have ot6 := ot5.gr g6
  have r6 := (Rep.list (Rep.list Rep.int)).m ((g4.trans g5).trans g6).s r3
  have gw6 : Gr wd w6 := gw2.trans (((g3.trans g4).trans g5).trans g6)
  have wfr : ∀ a ∈ as, wd.H a = none := fun a ha => fr_back (gw2.trans g30) (hfr a ha)
  have wta : wd.H ta = none := fr_back gw2 n3
  have hin6 : ∀ (i : Nat) (a : Addr) (l : List Int), as[i]? = some a → (compsOf n f)[i]? = some l → OwnL K w6 a Rep.int l := fun i a l h1 h2 => (((hin i a l h1 h2).gr g4).gr g5).gr g6
  refine q_for2P (K := K) (ei_enumO ot6 rfl) rfl (fun m σ z => ∃ y6 y7 : Option V, σ = [some (.int n), some (.int p), some (.int q), some (.ref da), some (.ref ta), some (.int (gcdI p q)), y6, y7] ∧ OwnL K z ta Rep.raw (as.map V.ref) ∧ Ex w6.S z.S ∧ Gr wd z ∧
      ∀ (j : Nat) (a : Addr) (l : List Int), as[j]? = some a → (compsOf n f)[j]? = some l → OwnL K z a Rep.int (if j < m then l ++ [(j : Int)] else l))
    (fun z g => ⟨none, none, rfl, ot6.gr g, g.s, gw6.trans g, fun j a l h1 h2 => by simpa using (hin6 j a l h1 h2).gr g⟩) (fun i σ z hI => by obtain ⟨y6, y7, _, o, _⟩ := hI; exact o) ?_ ?_
  · intro m a v v' σ z z2 hm hI gz h1 h2
    obtain ⟨y6, y7, rfl, oz, xz, gwz, hz⟩ := hI
    rw [enumI_get] at hm
    cases hx : (as.map V.ref)[m]? with
    | none => rw [hx] at hm; cases hm
    | some c =>
      rw [hx] at hm
      cases hm
      rw [List.getElem?_map] at hx
      cases hy : as[m]? with
      | none => rw [hy] at hx; cases hx
      | some am =>
        rw [hy] at hx
        cases hx
        cases h1
        cases (show v' = V.ref am from h2)
        have hml := (List.getElem?_eq_some_iff.mp hy).1
        have hlm : (compsOf n f)[m]? = some ((compsOf n f)[m]'(by omega)) := by simp
        have om := (hz m am _ hy hlm).gr gz
        rw [if_neg (Nat.lt_irrefl _)] at om
        have hml2 : ((compsOf n f)[m]'(by omega)).length ≤ 67 := by
          have : (compsOf n f)[m]'(by omega) ∈ compsOf n f := List.getElem_mem _
          unfold compsOf at this
          obtain ⟨d, _, e⟩ := List.mem_map.mp this
          rw [← show _ = (compsOf n f)[m]'(by omega) from e]
          exact Nat.le_trans (List.length_filter_le _ _) (by rw [irange_len]; omega)
        refine s_app (K := K) om rfl (ev_varI rfl) (by omega) fun z3 m3 o3 => ?_
        have ham : am ∈ as := List.mem_of_getElem? hy
        dsimp only
        refine nxt ?_ ?_
        · exact gz.s.trans m3.s
        · refine ⟨_, _, rfl, (oz.gr gz).mt m3 fun e => nta (e ▸ ham), xz.trans (gz.s.trans m3.s), m3.gr _ (gwz.trans gz) (wfr am ham), fun j a l q1 q2 => ?_⟩
          by_cases e : j = m
          · subst e
            rw [hy] at q1; cases q1
            rw [hlm] at q2; cases q2
            rw [if_pos (by omega)]
            exact o3
          · have hne : a ≠ am := fun e2 => by
              subst e2
              have h3 := (List.getElem?_eq_some_iff.mp q1)
              have h4 := (List.getElem?_eq_some_iff.mp hy)
              exact e ((List.getElem_inj nda).mp (h3.2.trans h4.2.symm))
            have := ((hz j a l q1 q2).gr gz).mt m3 hne
            by_cases e3 : j < m
            · rw [if_pos e3] at this; rw [if_pos (by omega)]; exact this
            · rw [if_neg e3] at this; rw [if_neg (by omega)]; exact this
  · intro σ z hI
    obtain ⟨y6, y7, rfl, oz, xz, gwz, hz⟩ := hI
    rw [enumI_len, List.length_map] at hz
    -- told with one more in each list
    have hz2 : ∀ (j : Nat) (a : Addr) (l : List Int), as[j]? = some a → ((enumI (compsOf n f)).map fun x => x.2 ++ [x.1])[j]? = some l → OwnL K z a Rep.int l := fun j a l h1 h2 => by
      rw [List.getElem?_map, enumI_get] at h2
      cases hx : (compsOf n f)[j]? with
      | none => rw [hx] at h2; cases h2
      | some l0 =>
        rw [hx] at h2
        cases h2
        have := hz j a l0 h1 hx
        rwa [if_pos (List.getElem?_eq_some_iff.mp h1).1] at this
    obtain ⟨lk1, lk2⟩ := OwnLL.look oz (by rw [hl, List.length_map, enumI_len]) hz2
    have rz := (Rep.list (Rep.list Rep.int)).m xz r6
    have hback : ((enumI (compsOf n f)).map fun x => x.2 ++ [x.1]).map List.dropLast = compsOf n f := by
      rw [List.map_map]
      refine List.ext_getElem? fun i => ?_
      rw [List.getElem?_map, enumI_get]
      cases (compsOf n f)[i]? with
      | none => rfl
      | some l => show some ((l ++ [(i : Int)]).dropLast) = some l; rw [List.dropLast_concat]
    have hcl3 : (compsOf n f).length ≤ 100 := by
      have : (compsOf n f).length ≤ 67 := by
        unfold compsOf
        rw [List.length_map]
        exact Nat.le_trans (List.length_filter_le _ _) (by rw [irange_len]; omega)
      omega
    refine q_when (K := K) (b := false) (et_peeks lk1 (EvT.eq (et_test (ev_neD (rd_list (rd_list rd_int)) (EvN.d (en_lc (e' := Rep.list Rep.int) (by rw [List.length_map, enumI_len]; omega) List.dropLast (ei_list (ev_var rfl lk2)) (fun _ => rfl) fun a v w' _ g r => EvN.d ((en_sl (ev_var rfl r) eo_none (eo_some (ev_neg ev_int))).eq cut_init))) (ev_var rfl ((Rep.list (Rep.list Rep.int)).m fixs_ex rz)))) (by rw [hback]; simp))) (fun h => nomatch h) fun _ z2 g2 => ?_
    refine q_app (K := K) (e := Rep.raw) (a := V.non) (oz.gr g2) rfl (fun w1 _ Q q => q _ w1 (Gr.refl _) rfl) (by rw [List.length_map]; omega) fun z3 m3 o3 => ?_
    have rz3 := (Rep.list (Rep.list Rep.int)).m (g2.s.trans m3.s) rz
    refine s_ret (K := K) (EvD.eq (ev_eqD (rd_list (rd_list rd_int)) (joined_ev (ev_varI rfl) (ev_varI rfl) (ev_varI rfl) ⟨hq1, hq2, hp1, hp2, hqn, hpn, hn⟩ hf.swap) (ev_var rfl rz3)) (show _ = true by simp)) fun v z4 g4 r4 => ?_
    cases r4
    exact k _ z4 ((m3.gr _ (gwz.trans g2) wta).trans g4) rfl
end
end WK

namespace WK
open PySem PySem.Spec PyProof.Rows L2
/-! ### what is asked of a law; draws within its statements -/
def spLaw (K : PySem.W.Frag) : Sp := fun vs H Q _ => ∃ (wd : Wd) (sv : V) (ns : List Int), wd.H = H ∧ vs = [sv] ∧ (Rep.list Rep.int).r K wd.S sv ns ∧ ns.length ≤ 63 ∧ Bits ns ∧ ∀ w' : Wd, Q (.bl true) w'.H
theorem spLaw_mk {K : PySem.W.Frag} {H : Hp} {a : Addr} {ns : List Int} {E : XK} (hl : ns.length ≤ 63) (hb : Bits ns) (h : SqL K H a (ns.map V.int)) : spLaw K [.ref a] H (fun v _ => v = .bl true) E :=
  ⟨⟨H, H, exr H⟩, .ref a, ns, rfl, rfl, ⟨a, _, rfl, h, ints_paired ns⟩, hl, hb, fun _ => rfl⟩
section
variable {K : PySem.W.Frag} {σ : L2.St} {w : Wd} {ta tb te : TE} {tu tz : TS} {D : Ends}
theorem jar_run {tk : TE} {sv : V} {ns : List Int} {k : Int} {E : XK} {Q : VK} {i : Nat} (hi : σ[i]? = some (some sv)) (hs : (Rep.list Rep.int).r K w.S sv ns) (hk : EvD K tk σ w Rep.int k) (h0 : 0 ≤ k ∧ k ≤ 1000)
    (q : ∀ p w', Gr w w' → w.H p = none → Jar K w' p (2 ^ 59) → Q (.ref p) w'.H) : tCall (spJar K) [] E (tCons (tVar i) (tCons tk tNil)) σ w.H Q :=
  ⟨_, hi, hk.run fun v w2 g2 r2 => by
    cases r2
    exact ⟨w2, sv, ns, k, rfl, rfl, (Rep.list Rep.int).m g2.s hs, h0.1, h0.2, fun p w' g n j => q p w' (g2.trans g) (fr_back g2 n) j⟩⟩
theorem notX {H : Hp} (h : te σ H fun x H1 => ∃ c, x = .bl c ∧ if (!c) = true then tu { D with nx := tz D } σ H1 else tz D σ H1) : tSeq (tIfS (tNot (tB te)) tu tNext) tz D σ H := h
theorem notX1 {H : Hp} (h : te σ H fun x H1 => ∃ c, x = .bl c ∧ if (!c) = true then tu D σ H1 else D.nx σ H1) : tIfS (tNot (tB te)) tu tNext D σ H := h
theorem ifNT {A B : Prop} (h : B) : if (!true) = true then A else B := by rw [if_neg (by decide)]; exact h
theorem call_add1 {sp : Sp} {dvs : List V} {E : XK} {ts : TA} {H : Hp} {Q : VK} (h : ta σ H fun x H1 => tb σ H1 fun y H2 => ∃ i j, x = .int i ∧ y = .int j ∧ ts σ H2 fun vs H3 => sp ((.int (i + j) :: vs) ++ dvs) H3 Q E) :
    tCall sp dvs E (tCons (tOp (rI0 fun i j => .int (i + j)) ta tb) ts) σ H Q := h
end
end WK

namespace WK
open PySem PySem.Spec PyProof.Rows L2
section
variable {P : Program} {w : World} {K : PySem.W.Frag} {mg : Str → Option Value} {base : Heap}
theorem right_ev {K : PySem.W.Frag} {n p q : Int} {w : Wd} {Q : VK} {E : XK} (hp : PreR n p q) (k : ∀ w', Gr w w' → Q (.bl true) w'.H) : spRight K ([.int n, .int p, .int q] ++ []) w.H Q E :=
  ⟨w, _, _, _, n, p, q, rfl, rfl, rfl, rfl, rfl, hp, fun v w' g r => by cases r; exact k w' g⟩
theorem nm323 : NmF 3 2 3 (lf (nmc 3 2 3)) := nmc_F (n := 3) (p := 2) (q := 3) (by decide) (by decide) (by decide +kernel)
theorem nm635 : NmF 6 3 5 (lf (nmc 6 3 5)) := nmc_F (n := 6) (p := 3) (q := 5) (by decide) (by decide) (by decide +kernel)
theorem co323 : compsOf 3 (lf (nmc 3 2 3)) = [[0, 2], [1]] := by decide +kernel
theorem co635 : compsOf 6 (lf (nmc 6 3 5)) = [[0, 2, 3, 5], [1, 4]] := by decide +kernel
theorem ok_law (T : Tx K mg) : FnG P w K mg base CX0 5 (He.ga K "law") T.d_law ["script"] (spLaw K) := by
  have nd := sc_law.nd
  refine okG T.F_law sc_law (fun vs H Q E h => by obtain ⟨wd, sv, ns, _, rfl, _⟩ := h; rfl) fun cdv A outer s H vs Q E hr hg h => ⟨_, PSs.nox (pss_cons (ps_for PassesOwn.never rfl (pi_range1 (by rfl) T.n_range (pa_cons (pe_callB (call_max2 rfl) (by rfl) T.n_max (by decide +kernel) (pa_cons pe_int (pa_cons (pe_callB (call_min2 rfl) (by rfl) T.n_min (by decide +kernel) (pa_cons pe_int (pa_cons (pe_callB (show CallR _ _ (Evl.rLenS K) from call_len_seq) (by rfl) T.n_len (by decide +kernel) (pa_cons (pv 0) pa_nil)) pa_nil))) pa_nil))) pa_nil)) (pg_name (i := 1) nd rfl (Or.inl rfl)) (pss_cons (ps_set (i := 2) nd rfl (Or.inl rfl) (pe_call (ok__law_jar T) (hr.mono (by decide)) (by rfl) T.g__law_jar T.F__law_jar.kp (b__law_jar T) .nil pass0 (pa_cons (pv 0) (pa_cons (pv 1) pa_nil))))
      (pss_one (ps_for PassesOwn.never rfl (pi_range1 (by rfl) T.n_range (pa_cons pe_int pa_nil)) (pg_name (i := 3) nd rfl (Or.inl rfl)) (pss_cons (ps_par (i := 4) (j := 5) (by rfl) nd rfl rfl (by decide) rfl rfl (pa_cons (pe_op op_add pe_int (pe_call (ok__law_dip T) (hr.mono (by decide)) (by rfl) T.g__law_dip T.F__law_dip.kp (b__law_dip T) .nil pass0 (pa_cons (pv 2) (pa_cons pe_int pa_nil)))) (pa_cons (pe_op op_add pe_int (pe_call (ok__law_dip T) (hr.mono (by decide)) (by rfl) T.g__law_dip T.F__law_dip.kp (b__law_dip T) .nil pass0 (pa_cons (pv 2) (pa_cons pe_int pa_nil)))) pa_nil)) (by rfl))
      (pss_one (ps_if (pt_not (pt_val (pe_callG (ok__law_right T) hg (hr.mono (by decide)) (by rfl) T.g__law_right T.F__law_right.kp (b__law_right T) .nil pass0 (pa_cons (pe_op op_add (pe_callB (call_max2 rfl) (by rfl) T.n_max (by decide +kernel) (pa_cons (pv 4) (pa_cons (pv 5) pa_nil))) (pe_call (ok__law_dip T) (hr.mono (by decide)) (by rfl) T.g__law_dip T.F__law_dip.kp (b__law_dip T) .nil pass0 (pa_cons (pv 2) (pa_cons (pe_op op_sub pe_int (pe_callB (call_max2 rfl) (by rfl) T.n_max (by decide +kernel) (pa_cons (pv 4) (pa_cons (pv 5) pa_nil)))) pa_nil)))) (pa_cons (pv 4) (pa_cons (pv 5) pa_nil)))))) (pss_one (ps_ret pe_bl)) pss_nil)))))))
      (pss_cons (ps_for PassesOwn.never rfl (pi_range2 (by rfl) T.n_range (pa_cons pe_int (pa_cons pe_int pa_nil))) (pg_name (i := 4) nd rfl (Or.inl rfl)) (pss_one (ps_for PassesOwn.never rfl (pi_range2 (by rfl) T.n_range (pa_cons (pv 4) (pa_cons pe_int pa_nil))) (pg_name (i := 5) nd rfl (Or.inl rfl)) (pss_cons (ps_set (i := 6) nd rfl (Or.inl rfl) (pe_op op_sub (pe_op op_add (pv 4) (pv 5)) (pe_call (ok__law_divisor T) (hr.mono (by decide)) (by rfl) T.g__law_divisor T.F__law_divisor.kp (b__law_divisor T) .nil pass0 (pa_cons (pv 4) (pa_cons (pv 5) pa_nil)))))
      (pss_one (ps_for PassesOwn.never rfl (pi_tup (pe_tup (pa_cons (pe_op op_sub (pv 6) pe_int) (pa_cons (pv 6) (pa_cons (pe_op op_add (pv 6) pe_int) pa_nil))))) (pg_name (i := 7) nd rfl (Or.inl rfl)) (pss_one (ps_if (PW.pt (pw_and (pt_cmpR op_ge (pv 7) (pv 5) (nomark _)) (pw_and1 (pt_not (pt_val (pe_callG (ok__law_right T) hg (hr.mono (by decide)) (by rfl) T.g__law_right T.F__law_right.kp (b__law_right T) .nil pass0 (pa_cons (pv 7) (pa_cons (pv 4) (pa_cons (pv 5) pa_nil))))))))) (pss_one (ps_ret pe_bl)) pss_nil))))))))
      (pss_one (ps_ret (pe_and (pe_cmpR (show OpR _ _ (rEqD K) from (op_eqD hr.units)) (pe_call (ok_joined_days T) (hr.mono (by decide)) (by rfl) T.g_joined_days T.F_joined_days.kp (b_joined_days T) .nil pass0 (pa_cons pe_int (pa_cons pe_int (pa_cons pe_int pa_nil)))) (pe_lst (pa_cons (pe_lst (pa_cons pe_int (pa_cons pe_int pa_nil))) (pa_cons (pe_lst (pa_cons pe_int pa_nil)) pa_nil))) (nomark _)) (pe_one (pe_cmpR (show OpR _ _ (rEqD K) from (op_eqD hr.units)) (pe_call (ok_joined_days T) (hr.mono (by decide)) (by rfl) T.g_joined_days T.F_joined_days.kp (b_joined_days T) .nil pass0 (pa_cons pe_int (pa_cons pe_int (pa_cons pe_int pa_nil)))) (pe_lst (pa_cons (pe_lst (pa_cons pe_int (pa_cons pe_int (pa_cons pe_int (pa_cons pe_int pa_nil))))) (pa_cons (pe_lst (pa_cons pe_int (pa_cons pe_int pa_nil))) pa_nil))) (nomark _)))))))), ?_⟩
  obtain ⟨wd, sv, ns, rfl, rfl, rs, hlen, hbits, k⟩ := h
  try dsimp only [cxOf]
  refine q_for (K := K) (ei_range1 (ev_max2 ev_int (ev_min2 ev_int (ev_len (ev_var rfl rs)))) (by omega)) (fun i σ z => ∃ y1 y2 y3 y4 y5 y6 y7 : Option V, σ = [some sv, y1, y2, y3, y4, y5, y6, y7] ∧ Ex wd.S z.S) (fun z g => ⟨none, none, none, none, none, none, none, rfl, g.s⟩) ?_ ?_
  · intro i d vd σ z z2 hd hx hI gz hrd
    obtain ⟨y1, y2, y3, y4, y5, y6, y7, rfl, xz⟩ := hI
    cases hrd
    have hdm := irange_mem.mp (List.mem_of_getElem? hd)
    refine asgX (jar_run (K := K) (i := 0) rfl ((Rep.list Rep.int).m (xz.trans gz.s) rs) (ev_varI rfl) ⟨hdm.1, by omega⟩ fun p z3 g3 n3 j3 => ?_)
    refine s_for (K := K) (ei_range1 (ev_int) (by decide)) (fun m σ u => ∃ y3 y4 y5 y6 y7 : Option V, σ = [some sv, some (.int d), some (.ref p), y3, y4, y5, y6, y7] ∧ Ex z3.S u.S ∧ Jar K u p (100 - 10 * m)) (fun u g => ⟨y3, y4, y5, y6, y7, rfl, g.s, (j3.gr g).le (by decide)⟩) ?_ ?_
    · intro m e ve σ u u2 he hxu hI gu hre
      obtain ⟨y3, y4, y5, y6, y7, rfl, xu, ju⟩ := hI
      cases hre
      have hm4 : m < 4 := by
        have := (List.getElem?_eq_some_iff.mp he).1
        rw [irange_len] at this
        simpa using this
      have j0 : Jar K u2 p (93 - 10 * m + 2) := (ju.gr gu).le (by omega)
      refine par2x (EvD.run (K := K) (r := Rep.int) ev_int fun v1 u3 g3 r3 => dip_run (K := K) (i := 2) (f := 93 - 10 * m + 1) rfl (j0.gr g3) ev_int (by decide) (by decide) fun a1 u4 m4 j4 a10 a11 => ⟨_, _, r3, rfl, EvD.run (K := K) (r := Rep.int) ev_int fun v2 u5 g5 r5 => dip_run (K := K) (i := 2) (f := 93 - 10 * m) rfl (j4.gr g5) ev_int (by decide) (by decide) fun a2 u6 m6 j6 a20 a21 => ⟨_, _, r5, rfl, _, _, rfl, ?_⟩⟩)
      refine notX1 (call_add1 (EvD.run (K := K) (ev_max2 (ev_varI rfl) (ev_varI rfl)) fun v7 u7 g7 r7 => dip_run (K := K) (i := 2) (f := 92 - 10 * m) rfl ((j6.gr g7).le (by omega)) (ev_sub ev_int (ev_max2 (ev_varI rfl) (ev_varI rfl))) (by omega) (by omega) fun a3 u8 m8 j8 a30 a31 => ⟨_, _, r7, rfl, _, rfl, _, rfl, right_ev ⟨by omega, by omega, by omega, by omega, by omega, by omega, by omega⟩ fun u9 g9 => ⟨true, rfl, ifNT ?_⟩⟩))
      dsimp only
      refine nxt ?_ ?_
      · exact gu.s.trans (g3.s.trans (m4.s.trans (g5.s.trans (m6.s.trans (g7.s.trans (m8.s.trans g9.s))))))
      · exact ⟨_, _, _, _, _, rfl, xu.trans (gu.s.trans (g3.s.trans (m4.s.trans (g5.s.trans (m6.s.trans (g7.s.trans (m8.s.trans g9.s))))))), (j8.gr g9).le (by omega)⟩
    · intro σ u hxu hI
      obtain ⟨y3, y4, y5, y6, y7, rfl, xu, ju⟩ := hI
      dsimp only
      refine nxt ?_ ?_
      · exact gz.s.trans (g3.s.trans xu)
      · exact ⟨_, _, _, _, _, _, _, rfl, xz.trans (gz.s.trans (g3.s.trans xu))⟩
  · intro σ z hx hI
    obtain ⟨y1, y2, y3, y4, y5, y6, y7, rfl, xz⟩ := hI
    refine q_for (K := K) (ei_range2 ev_int ev_int (by decide)) (fun i σ z => ∃ y1 y2 y3 y4 y5 y6 y7 : Option V, σ = [some sv, y1, y2, y3, y4, y5, y6, y7]) (fun z g => ⟨y1, y2, y3, y4, y5, y6, y7, rfl⟩) ?_ ?_
    · intro i d vd σ z z2 hd hx hI gz hrd
      obtain ⟨y1, y2, y3, y4, y5, y6, y7, rfl⟩ := hI
      cases hrd
      have hdm := irange_mem.mp (List.mem_of_getElem? hd)
      refine s_for (K := K) (ei_range2 (ev_varI rfl) ev_int (by omega)) (fun i σ z => ∃ y5 y6 y7 : Option V, σ = [some sv, y1, y2, y3, some (.int d), y5, y6, y7]) (fun z g => ⟨y5, y6, y7, rfl⟩) ?_ ?_
      · intro j e ve σ u u2 he hxu hI gu hre
        obtain ⟨y5, y6, y7, rfl⟩ := hI
        cases hre
        have hem := irange_mem.mp (List.mem_of_getElem? he)
        refine q_asg (K := K) (ev_sub (ev_add (ev_varI rfl) (ev_varI rfl)) (ev_call2 (ev_varI rfl) (ev_varI rfl) ⟨by omega, by omega⟩)) fun vn u3 g3 r3 => ?_
        cases r3
        have hgc : 1 ≤ gcdI d e ∧ gcdI d e ≤ d := by
          unfold gcdI
          have h1 : 0 < d.toNat := by omega
          have := Nat.gcd_pos_of_pos_left e.toNat h1
          have := Nat.le_of_dvd h1 (Nat.gcd_dvd_left d.toNat e.toNat)
          omega
        refine s_for (K := K) (ei_tup (el_cons (e := Rep.int) (ev_sub (ev_varI rfl) ev_int) (el_cons (ev_varI rfl) (el_cons (ev_add (ev_varI rfl) ev_int) el_nil)))) (fun i σ z => ∃ y7 : Option V, σ = [some sv, y1, y2, y3, some (.int d), some (.int e), some (.int (d + e - gcdI d e)), y7]) (fun z g => ⟨y7, rfl⟩) ?_ ?_
        · intro m n vn σ x x2 hn hxx hI gx hrn
          obtain ⟨y7, rfl⟩ := hI
          cases hrn
          have hnm : n = d + e - gcdI d e - 1 ∨ n = d + e - gcdI d e ∨ n = d + e - gcdI d e + 1 := by simpa using List.mem_of_getElem? hn
          refine s_when (K := K) (b := false) (EvT.eq (et_and (b := false) (et_test (ev_ge (ev_varI rfl) (ev_varI rfl))) fun hb => EvT.eq (et_not (et_B (ev_call3 (ev_varI rfl) (ev_varI rfl) (ev_varI rfl) ⟨by omega, by omega, by omega, by omega, by have := of_decide_eq_true hb; omega, by have := of_decide_eq_true hb; omega, by omega⟩))) rfl) (by simp)) (fun h => nomatch h) fun _ x3 g3 => ?_
          dsimp only
          refine nxt ?_ ?_
          · exact gx.s.trans g3.s
          · exact ⟨_, rfl⟩
        · intro σ x hxx hI
          obtain ⟨y7, rfl⟩ := hI
          dsimp only
          refine nxt ?_ ?_
          · exact gu.s.trans (g3.s.trans hxx)
          · exact ⟨_, _, _, rfl⟩
      · intro σ u hxu hI
        obtain ⟨y5, y6, y7, rfl⟩ := hI
        dsimp only
        refine nxt ?_ ?_
        · exact gz.s.trans hxu
        · exact ⟨_, _, _, _, _, _, _, rfl⟩
    · intro σ z hx hI
      obtain ⟨y1, y2, y3, y4, y5, y6, y7, rfl⟩ := hI
      refine s_ret (K := K) (EvD.eq (ev_andV (ev_eqD (rd_list (rd_list rd_int)) (joined_ev ev_int ev_int ev_int (by unfold PreR; decide) nm323) (EvN.d (en_lst (el_cons (EvN.d (en_lst (el_cons ev_int (el_cons ev_int el_nil)))) (el_cons (EvN.d (en_lst (el_cons ev_int el_nil))) el_nil))))) fun _ => (ev_eqD (rd_list (rd_list rd_int)) (joined_ev ev_int ev_int ev_int (by unfold PreR; decide) nm635) (EvN.d (en_lst (el_cons (EvN.d (en_lst (el_cons ev_int (el_cons ev_int (el_cons ev_int (el_cons ev_int el_nil)))))) (el_cons (EvN.d (en_lst (el_cons ev_int (el_cons ev_int el_nil)))) el_nil)))))) (show _ = true by rw [co323, co635]; decide)) fun v z2 g2 r2 => ?_
      cases r2
      exact k z2
end
end WK

namespace WK
open PySem PySem.Spec PyProof.Rows L2
set_option maxHeartbeats 0
def dd_need_length : He.DefD := ⟨("need_length", none), "need_length", "need_length", defArgs s_need_length, defBody s_need_length, defScope s_need_length, [], []⟩
def dd_need_number : He.DefD := ⟨("need_number", none), "need_number", "need_number", defArgs s_need_number, defBody s_need_number, defScope s_need_number, [], []⟩
def dd_steps_of : He.DefD := ⟨("steps_of", none), "steps_of", "steps_of", defArgs s_steps_of, defBody s_steps_of, defScope s_steps_of, [], []⟩
def dd_joined_days : He.DefD := ⟨("joined_days", none), "joined_days", "joined_days", defArgs s_joined_days, defBody s_joined_days, defScope s_joined_days, [], []⟩
def dd__law_jar : He.DefD := ⟨("_law_jar", none), "_law_jar", "_law_jar", defArgs s__law_jar, defBody s__law_jar, defScope s__law_jar, [], []⟩
def dd__law_dip : He.DefD := ⟨("_law_dip", none), "_law_dip", "_law_dip", defArgs s__law_dip, defBody s__law_dip, defScope s__law_dip, [], []⟩
def dd__law_divisor : He.DefD := ⟨("_law_divisor", none), "_law_divisor", "_law_divisor", defArgs s__law_divisor, defBody s__law_divisor, defScope s__law_divisor, [], []⟩
def dd__law_sets : He.DefD := ⟨("_law_sets", none), "_law_sets", "_law_sets", defArgs s__law_sets, defBody s__law_sets, defScope s__law_sets, [], []⟩
def dd__law_right : He.DefD := ⟨("_law_right", none), "_law_right", "_law_right", defArgs s__law_right, defBody s__law_right, defScope s__law_right, [], []⟩
def dd_law : He.DefD := ⟨("law", none), "law", "law", defArgs s_law, defBody s_law, defScope s_law, [], []⟩
def hfn : List He.DefD := (([dd_need_length, dd_need_number, dd_steps_of, dd_joined_days, dd__law_jar, dd__law_dip, dd__law_divisor, dd__law_sets, dd__law_right, dd_law] : List He.DefD))
def hfa : List He.Fa := (([.glo "need_length", .glo "need_number", .glo "steps_of", .glo "joined_days", .glo "_law_jar", .glo "_law_dip", .glo "_law_divisor", .glo "_law_sets", .glo "_law_right", .glo "law", .free "range", .free "enumerate", .free "max", .free "abs", .free "int", .free "list", .free "repr", .free "len", .free "min", .free "sorted", .int "MOST_DAYS" 67, .int "MOST_LENGTH" 8] : List He.Fa))
abbrev hR : PySem.W.OpenRow := PySem.W.OpenLaw.row PySem.Challenge.rw_weeksums_k21_days_joined_by_two_lengths
abbrev hk : PySem.W.Hook := He.hookD 4 hfa hfn
def hob (s : PySem.W.SharedT) : He.AlD := He.obsDG 4 hfa hfn (HandSHeadRun.getT s)
theorem hob_eq (s : PySem.W.SharedT) : hob s = hk.obs s.abs := He.obsDG_eq (HandSHeadRun.getT_eq s)
def hloose : List PySem.Str := ((["__name__", "SumError", "InvalidLength", "InvalidNumber", "MOST_DAYS", "MOST_LENGTH", "need_length", "need_number", "steps_of", "joined_days", "_law_jar", "_law_dip", "_law_divisor", "_law_sets", "_law_right"] : List PySem.Str))
theorem hrun (w : World) : HandSHeadRun.RunEq hR (PySem.W.view hR.prog [18]) hk hob 8000 hloose w := by
  intro os
  kernel_rfl
theorem htx {K : PySem.W.Frag} {h : Heap} {mg : Str → Option Value} (X : K.In h) (G : h.Ns mainGlobals mg) (c : He.SaysD hfa hfn K) : Nonempty (Tx K mg) := by
  obtain ⟨d0, F0⟩ := c.def_ 0 (d := dd_need_length) rfl
  obtain ⟨d1, F1⟩ := c.def_ 1 (d := dd_need_number) rfl
  obtain ⟨d2, F2⟩ := c.def_ 2 (d := dd_steps_of) rfl
  obtain ⟨d3, F3⟩ := c.def_ 3 (d := dd_joined_days) rfl
  obtain ⟨d4, F4⟩ := c.def_ 4 (d := dd__law_jar) rfl
  obtain ⟨d5, F5⟩ := c.def_ 5 (d := dd__law_dip) rfl
  obtain ⟨d6, F6⟩ := c.def_ 6 (d := dd__law_divisor) rfl
  obtain ⟨d7, F7⟩ := c.def_ 7 (d := dd__law_sets) rfl
  obtain ⟨d8, F8⟩ := c.def_ 8 (d := dd__law_right) rfl
  obtain ⟨d9, F9⟩ := c.def_ 9 (d := dd_law) rfl
  refine ⟨{
    d_need_length := d0,
    F_need_length := F0,
    g_need_length := He.glo_ok X G (c.fact 0 (f := .glo "need_length") rfl),
    d_need_number := d1,
    F_need_number := F1,
    g_need_number := He.glo_ok X G (c.fact 1 (f := .glo "need_number") rfl),
    d_steps_of := d2,
    F_steps_of := F2,
    g_steps_of := He.glo_ok X G (c.fact 2 (f := .glo "steps_of") rfl),
    d_joined_days := d3,
    F_joined_days := F3,
    g_joined_days := He.glo_ok X G (c.fact 3 (f := .glo "joined_days") rfl),
    d__law_jar := d4,
    F__law_jar := F4,
    g__law_jar := He.glo_ok X G (c.fact 4 (f := .glo "_law_jar") rfl),
    d__law_dip := d5,
    F__law_dip := F5,
    g__law_dip := He.glo_ok X G (c.fact 5 (f := .glo "_law_dip") rfl),
    d__law_divisor := d6,
    F__law_divisor := F6,
    g__law_divisor := He.glo_ok X G (c.fact 6 (f := .glo "_law_divisor") rfl),
    d__law_sets := d7,
    F__law_sets := F7,
    g__law_sets := He.glo_ok X G (c.fact 7 (f := .glo "_law_sets") rfl),
    d__law_right := d8,
    F__law_right := F8,
    g__law_right := He.glo_ok X G (c.fact 8 (f := .glo "_law_right") rfl),
    d_law := d9,
    F_law := F9,
    g_law := He.glo_ok X G (c.fact 9 (f := .glo "law") rfl),
    n_range := He.free_ok X G (c.fact 10 (f := .free "range") rfl),
    n_enumerate := He.free_ok X G (c.fact 11 (f := .free "enumerate") rfl),
    n_max := He.free_ok X G (c.fact 12 (f := .free "max") rfl),
    n_abs := He.free_ok X G (c.fact 13 (f := .free "abs") rfl),
    n_int := He.free_ok X G (c.fact 14 (f := .free "int") rfl),
    n_list := He.free_ok X G (c.fact 15 (f := .free "list") rfl),
    n_repr := He.free_ok X G (c.fact 16 (f := .free "repr") rfl),
    n_len := He.free_ok X G (c.fact 17 (f := .free "len") rfl),
    n_min := He.free_ok X G (c.fact 18 (f := .free "min") rfl),
    n_sorted := He.free_ok X G (c.fact 19 (f := .free "sorted") rfl),
    c_MOST_DAYS := He.int_ok X G (c.fact 20 (f := .int "MOST_DAYS" 67) rfl),
    c_MOST_LENGTH := He.int_ok X G (c.fact 21 (f := .int "MOST_LENGTH" 8) rfl) }⟩
end WK

open PySem PySem.W PySem.Calls PyProof.Rows
theorem PySem.Challenge.cw_weeksums_k21_days_joined_by_two_lengths_holds : PySem.Challenge.rw_weeksums_k21_days_joined_by_two_lengths.Holds := by
  w_on; o_law
  refine HandSHeadRun.head_any (r := OpenLaw.row PySem.Challenge.rw_weeksums_k21_days_joined_by_two_lengths) (q := view (OpenLaw.row PySem.Challenge.rw_weeksums_k21_days_joined_by_two_lengths).prog [18]) (H := WK.hk) (ob := WK.hob) (M := 8000) (loose := WK.hloose) (d := HandSHeadRun.topDef (OpenLaw.row PySem.Challenge.rw_weeksums_k21_days_joined_by_two_lengths).prog 18) (kwd := []) WK.hob_eq
    (by kernel_rfl) (fun s => by kernel_rfl) WK.hrun (by kernel_rfl) (by kernel_rfl) (by kernel_rfl) (by rfl) (by first | assumption | decide +kernel) (by decide +kernel) ⟨rfl, rfl, rfl, rfl, rfl, by decide +kernel⟩ ?hw ?hc
  case hw => w_witness2
  case hc =>
    refine WK.walk_G (l := PySem.Challenge.rw_weeksums_k21_days_joined_by_two_lengths) (n := 63) (k := 5) (x := "script") (CX := L2.CX0) rfl (by decide) (by kernel_rfl) ⟨rfl, by decide, by decide⟩ ?F (fun _ _ _ _ z => z)
    intro w mg fa h Y G hmg0
    obtain ⟨K, KX, c⟩ := Y
    have hmg : mg ("law" : PySem.Str) = some (.ref fa) := by
      have e : (HandSHeadRun.topDef (OpenLaw.row PySem.Challenge.rw_weeksums_k21_days_joined_by_two_lengths).prog 18).name = ("law" : PySem.Str) := by kernel_rfl
      rw [← e]
      exact hmg0
    obtain ⟨T⟩ := WK.htx KX G c
    have e := hmg.symm.trans T.g_law
    cases e
    have b := fun s (v : Value) => L2.FunD.bindsA (ps := ["script"]) T.F_law (fun _ _ _ _ _ _ us hl => match us, hl with | [_], _ => rfl) s [v] rfl
    exact ⟨K, T.d_law, WK.spLaw K, KX, b, fun H a ns hl hbits _ hS => WK.spLaw_mk hl hbits hS, fun base _ _ => WK.ok_law T⟩

