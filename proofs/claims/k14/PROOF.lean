import PyProof.Rows.All
import Wide.All
import OpenK.AllK
import Wide.FinOn
import HandS.ForMost
import HandS.Evl
import HandS.Style
import HandS.Wide
import HandS.Exc
import HandS.ExcOwn
import HandS.WordsExc
import HandS.Conv
import HandS.Sort
import HandS.SortInts
import HandS.Defaults
import HandS.IsInst
import HandS.EndBits
import HandS.HeadEnd
import HandS.Head0
import HandS.Head1
import HandS.Head2
import HandS.HeadHook1
import HandS.HeadHook2
import KE.KStateDown
import PySem.Challenge.RW_weeksums_k14_levels_of_great_numbers
set_option Elab.async false
set_option linter.all false
set_option maxRecDepth 100000
set_option maxHeartbeats 4000000
/-! WK, part 1: worlds (a settled part and a heap), what values stand for, evaluations, loops, promises. -/
namespace WK
open PySem PySem.Spec PyProof.Rows L2

abbrev Ex := Evl.Ex
theorem exr (H : Hp) : Ex H H := Evl.Ex.refl H

/-- a world: S what is settled for good, H all that is tracked -/
structure Wd where
  S : Hp
  H : Hp
  ex : Ex S H
/-- only growth -/
structure Gr (w w' : Wd) : Prop where
  s : Ex w.S w'.S
  h : Ex w.H w'.H
  n : ∀ p, w.H p ≠ none → w.S p = none → w'.S p = none
theorem Gr.refl (w : Wd) : Gr w w := ⟨exr _, exr _, fun _ _ h => h⟩
theorem ex_ne {H H' : Hp} {p : Addr} (e : Ex H H') (h : H p ≠ none) : H' p ≠ none := by
  cases q : H p with
  | none => exact absurd q h
  | some o => rw [e p o q]; exact fun z => nomatch z
theorem Gr.trans {a b c : Wd} (x : Gr a b) (y : Gr b c) : Gr a c :=
  ⟨x.s.trans y.s, x.h.trans y.h, fun p h n => y.n p (ex_ne x.h h) (x.n p h n)⟩
/-- an own object: it may be changed -/
structure Own (w : Wd) (p : Addr) (o : HO) : Prop where
  s : w.S p = none
  h : w.H p = some o
theorem Own.ne {w : Wd} {p : Addr} {o : HO} (x : Own w p o) : w.H p ≠ none := by rw [x.h]; exact fun z => nomatch z
theorem Own.gr {w w' : Wd} {p : Addr} {o : HO} (x : Own w p o) (g : Gr w w') : Own w' p o := ⟨g.n p x.ne x.s, g.h p o x.h⟩
theorem fresh_s {w : Wd} {p : Addr} (h : w.H p = none) : w.S p = none := Evl.fresh_back w.ex h
theorem ex_upd {S : Hp} {p : Addr} {o : HO} (h : S p = none) : Ex S (upd S p o) := Evl.Ex.new h
theorem ex_upd2 {S H : Hp} {p : Addr} {o : HO} (e : Ex S H) : Ex (upd S p o) (upd H p o) := fun a u h => by
  by_cases q : a = p
  · subst q; rw [upd_same] at h ⊢; exact h
  · rw [upd_ne q] at h ⊢; exact e a u h
/-- a new own object -/
def Wd.new (w : Wd) (p : Addr) (o : HO) (h : w.H p = none) : Wd := ⟨w.S, upd w.H p o, fun a u e => Evl.Ex.new h a u (w.ex a u e)⟩
theorem gr_new {w : Wd} {p : Addr} {o : HO} (h : w.H p = none) : Gr w (w.new p o h) := ⟨exr _, Evl.Ex.new h, fun _ _ n => n⟩
theorem own_new {w : Wd} {p : Addr} {o : HO} (h : w.H p = none) : Own (w.new p o h) p o := ⟨fresh_s (w := w) h, upd_same⟩
/-- a new settled object -/
def Wd.put (w : Wd) (p : Addr) (o : HO) : Wd := ⟨upd w.S p o, upd w.H p o, ex_upd2 w.ex⟩
theorem gr_put {w : Wd} {p : Addr} {o : HO} (h : w.H p = none) : Gr w (w.put p o) :=
  ⟨ex_upd (fresh_s h), Evl.Ex.new h, fun q hq n => by
    show upd w.S p o q = none
    rw [upd_ne (show q ≠ p from fun z => hq (z ▸ h))]; exact n⟩
theorem put_s {w : Wd} {p : Addr} {o : HO} : (w.put p o).S p = some o := upd_same
/-- an own object is settled -/
def Wd.fix (w : Wd) (p : Addr) (o : HO) (h : w.H p = some o) : Wd := ⟨upd w.S p o, w.H, fun a u e => by
  by_cases q : a = p
  · subst q; rw [upd_same] at e; rw [h]; exact e
  · rw [upd_ne q] at e; exact w.ex a u e⟩
/-- what a change of the object at p leaves -/
structure Mt (p : Addr) (w w' : Wd) : Prop where
  s : Ex w.S w'.S
  gr : ∀ w0, Gr w0 w → w0.H p = none → Gr w0 w'
  own : ∀ q o, q ≠ p → Own w q o → Own w' q o
  dom : ∀ q, w.H q ≠ none → w'.H q ≠ none
theorem mt_fix {w : Wd} {p : Addr} {o : HO} (x : Own w p o) : Mt p w (w.fix p o x.h) :=
  ⟨ex_upd x.s, fun w0 g n => ⟨g.s.trans (ex_upd x.s), g.h, fun q h m => by
      show upd w.S p o q = none
      rw [upd_ne (show q ≠ p from fun z => h (z ▸ n))]; exact g.n q h m⟩,
   fun q u ne y => ⟨by show upd w.S p o q = none; rw [upd_ne ne]; exact y.s, y.h⟩, fun _ h => h⟩
theorem fix_s {w : Wd} {p : Addr} {o : HO} (h : w.H p = some o) : (w.fix p o h).S p = some o := upd_same
def Wd.set (w : Wd) (p : Addr) (o : HO) (h : w.S p = none) : Wd := ⟨w.S, upd w.H p o, fun a u e => Evl.Ex.mut w.ex h a u e⟩
theorem mt_set {w : Wd} {p : Addr} {o : HO} (h : w.S p = none) : Mt p w (w.set p o h) :=
  ⟨exr _, fun w0 g n => ⟨g.s, Evl.Ex.mut g.h n, g.n⟩, fun q u ne y => ⟨y.s, by show upd w.H p o q = some u; rw [upd_ne ne]; exact y.h⟩,
   fun q hq => by
    show upd w.H p o q ≠ none
    by_cases z : q = p
    · subst z; rw [upd_same]; exact fun z => nomatch z
    · rw [upd_ne z]; exact hq⟩
theorem own_set {w : Wd} {p : Addr} {o : HO} (h : w.S p = none) : Own (w.set p o h) p o := ⟨h, upd_same⟩
theorem Mt.trans {p : Addr} {a b c : Wd} (x : Mt p a b) (y : Mt p b c) : Mt p a c :=
  ⟨x.s.trans y.s, fun w0 g n => y.gr w0 (x.gr w0 g n) n, fun q o ne h => y.own q o ne (x.own q o ne h), fun q h => y.dom q (x.dom q h)⟩
theorem Gr.mt {p : Addr} {a b : Wd} (g : Gr a b) (h : a.H p ≠ none) : Mt p a b :=
  ⟨g.s, fun w0 x n => x.trans g, fun q o _ x => x.gr g, fun q h => ex_ne g.h h⟩
theorem Own.apart {w : Wd} {p q : Addr} {o : HO} (x : Own w p o) (h : w.H q = none) : q ≠ p := fun z => by rw [z, x.h] at h; cases h
theorem fr_back {w w' : Wd} {p : Addr} (g : Gr w w') (h : w'.H p = none) : w.H p = none := Evl.fresh_back g.h h

/-! ### what values stand for -/
structure Rep (α : Type) where
  r : PySem.W.Frag → Hp → V → α → Prop
  m : ∀ {K H H' v a}, Ex H H' → r K H v a → r K H' v a
theorem paired_mono {α : Type} {F G : V → α → Prop} {xs : List V} {l : List α} (h : Paired F xs l) (f : ∀ v a, F v a → G v a) : Paired G xs l := Paired.mapP h f
namespace Rep
def int : Rep Int := ⟨fun _ _ v a => v = .int a, fun _ h => h⟩
def bl : Rep Bool := ⟨fun _ _ v a => v = .bl a, fun _ h => h⟩
def str : Rep Str := ⟨fun _ _ v a => v = .str a, fun _ h => h⟩
def non : Rep Unit := ⟨fun _ _ v _ => v = .non, fun _ h => h⟩
def list {α : Type} (e : Rep α) : Rep (List α) := ⟨fun K H v l => ∃ a xs, v = .ref a ∧ SqL K H a xs ∧ Paired (e.r K H) xs l,
  fun x h => by obtain ⟨a, xs, e1, h1, h2⟩ := h; exact ⟨a, xs, e1, Evl.ex_l x h1, paired_mono h2 fun _ _ q => e.m x q⟩⟩
def pair {α β : Type} (e : Rep α) (f : Rep β) : Rep (α × β) := ⟨fun K H v l => ∃ a x y, v = .ref a ∧ SqT K H a [x, y] ∧ e.r K H x l.1 ∧ f.r K H y l.2,
  fun x h => by obtain ⟨a, u, v, e1, h1, h2, h3⟩ := h; exact ⟨a, u, v, e1, Evl.ex_t x h1, e.m x h2, f.m x h3⟩⟩
def opt {α : Type} (e : Rep α) : Rep (Option α) := ⟨fun K H v l => match l with
  | none => v = .non
  | some a => e.r K H v a, fun {K H H' v l} x h => by cases l with
    | none => exact h
    | some a => exact e.m x h⟩
abbrev lints : Rep (List Int) := list int
/-- a scalar: told without the heap -/
def Flat {α : Type} (e : Rep α) : Prop := ∀ K H H' v a, e.r K H v a → e.r K H' v a
theorem flat_int : Flat int := fun _ _ _ _ _ h => h
theorem flat_bl : Flat bl := fun _ _ _ _ _ h => h
theorem flat_str : Flat str := fun _ _ _ _ _ h => h
theorem flat_non : Flat non := fun _ _ _ _ _ h => h
end Rep
theorem paired_len {α : Type} {F : V → α → Prop} {xs : List V} {l : List α} (h : Paired F xs l) : xs.length = l.length := Paired.length h
theorem paired_get {α : Type} {F : V → α → Prop} : ∀ {xs : List V} {l : List α} {i : Nat} {a : α}, Paired F xs l → l[i]? = some a → ∃ v, xs[i]? = some v ∧ F v a
  | _, _, _, _, .nil, e => by simp at e
  | _, _, 0, _, .cons r _, e => by simp at e; subst e; exact ⟨_, rfl, r⟩
  | _, _, i + 1, a, .cons _ t, e => by
    obtain ⟨u, h1, h2⟩ := paired_get (i := i) (a := a) t (by simpa using e)
    exact ⟨u, by simpa using h1, h2⟩
theorem paired_get' {α : Type} {F : V → α → Prop} : ∀ {xs : List V} {l : List α} {i : Nat} {v : V}, Paired F xs l → xs[i]? = some v → ∃ a, l[i]? = some a ∧ F v a
  | _, _, _, _, .nil, e => by simp at e
  | _, _, 0, _, .cons r _, e => by simp at e; subst e; exact ⟨_, rfl, r⟩
  | _, _, i + 1, a, .cons _ t, e => by
    obtain ⟨u, h1, h2⟩ := paired_get' (i := i) t (by simpa using e)
    exact ⟨u, by simpa using h1, h2⟩
theorem paired_ints {xs : List V} {l : List Int} (h : Paired (fun v (a : Int) => v = .int a) xs l) : xs = l.map V.int := by
  induction h with
  | nil => rfl
  | cons r _ ih => rw [List.map_cons, r, ih]
theorem ints_paired (l : List Int) : Paired (fun v (a : Int) => v = .int a) (l.map V.int) l := by
  induction l with
  | nil => exact .nil
  | cons a r ih => exact .cons rfl ih
theorem paired_bls {xs : List V} {l : List Bool} (h : Paired (fun v (a : Bool) => v = .bl a) xs l) : xs = l.map V.bl := by
  induction h with
  | nil => rfl
  | cons r _ ih => rw [List.map_cons, r, ih]
theorem paired_set {α : Type} {F : V → α → Prop} {v : V} {a : α} (r : F v a) : ∀ {xs : List V} {l : List α} (i : Nat), Paired F xs l → Paired F (xs.set i v) (l.set i a)
  | _, _, _, .nil => .nil
  | _, _, 0, .cons _ t => .cons r t
  | _, _, i + 1, .cons q t => .cons q (paired_set r i t)
theorem paired_app {α : Type} {F : V → α → Prop} : ∀ {xs ys : List V} {l m : List α}, Paired F xs l → Paired F ys m → Paired F (xs ++ ys) (l ++ m)
  | _, _, _, _, .nil, s => s
  | _, _, _, _, .cons r t, s => .cons r (paired_app t s)
theorem paired_drop {α : Type} {F : V → α → Prop} : ∀ {xs : List V} {l : List α} (n : Nat), Paired F xs l → Paired F (xs.drop n) (l.drop n)
  | _, _, 0, r => r
  | _, _, _ + 1, .nil => .nil
  | _, _, n + 1, .cons _ t => paired_drop n t
theorem paired_take {α : Type} {F : V → α → Prop} : ∀ {xs : List V} {l : List α} (n : Nat), Paired F xs l → Paired F (xs.take n) (l.take n)
  | _, _, 0, _ => .nil
  | _, _, _ + 1, .nil => .nil
  | _, _, n + 1, .cons r t => .cons r (paired_take n t)
theorem paired_rev {α : Type} {F : V → α → Prop} {xs : List V} {l : List α} (h : Paired F xs l) : Paired F xs.reverse l.reverse := by
  induction h with
  | nil => exact .nil
  | cons r t ih => rw [List.reverse_cons, List.reverse_cons]; exact paired_app ih (.cons r .nil)
theorem paired_rep {α : Type} {F : V → α → Prop} {v : V} {a : α} (r : F v a) : ∀ n, Paired F (List.replicate n v) (List.replicate n a)
  | 0 => .nil
  | n + 1 => .cons r (paired_rep r n)

/-- an own list -/
def OwnL {α : Type} (K : PySem.W.Frag) (w : Wd) (p : Addr) (e : Rep α) (l : List α) : Prop := ∃ xs, Own w p (.lst xs) ∧ Paired (e.r K w.S) xs l
theorem OwnL.gr {α : Type} {K : PySem.W.Frag} {w w' : Wd} {p : Addr} {e : Rep α} {l : List α} (h : OwnL K w p e l) (g : Gr w w') : OwnL K w' p e l := by
  obtain ⟨xs, a, b⟩ := h
  exact ⟨xs, a.gr g, paired_mono b fun _ _ q => e.m g.s q⟩
theorem OwnL.mt {α : Type} {K : PySem.W.Frag} {w w' : Wd} {p q : Addr} {e : Rep α} {l : List α} (h : OwnL K w q e l) (g : Mt p w w') (ne : q ≠ p) : OwnL K w' q e l := by
  obtain ⟨xs, a, b⟩ := h
  exact ⟨xs, g.own _ _ ne a, paired_mono b fun _ _ q => e.m g.s q⟩
theorem OwnL.ne {α : Type} {K : PySem.W.Frag} {w : Wd} {p : Addr} {e : Rep α} {l : List α} (h : OwnL K w p e l) : w.H p ≠ none := by obtain ⟨xs, a, b⟩ := h; exact a.ne
theorem OwnL.apart {α : Type} {K : PySem.W.Frag} {w : Wd} {p q : Addr} {e : Rep α} {l : List α} (h : OwnL K w p e l) (z : w.H q = none) : q ≠ p := fun x => h.ne (x ▸ z)
/-- settled: a list as a value -/
theorem OwnL.fix {α : Type} {K : PySem.W.Frag} {w : Wd} {p : Addr} {e : Rep α} {l : List α} (h : OwnL K w p e l) : ∃ w', w'.H = w.H ∧ Mt p w w' ∧ (Rep.list e).r K w'.S (.ref p) l := by
  obtain ⟨xs, a, b⟩ := h
  exact ⟨w.fix p _ a.h, rfl, mt_fix a, p, xs, rfl, SqL.of (fix_s a.h), paired_mono b fun _ _ q => e.m (mt_fix a).s q⟩

/-! ### evaluations -/
section
variable (K : PySem.W.Frag)
def EvD {α : Type} (te : TE) (σ : L2.St) (w : Wd) (r : Rep α) (a : α) : Prop := ∀ w1, Gr w w1 → ∀ Q : VK, (∀ v w2, Gr w1 w2 → r.r K w2.S v a → Q v w2.H) → te σ w1.H Q
def EvN {α : Type} (te : TE) (σ : L2.St) (w : Wd) (e : Rep α) (l : List α) : Prop := ∀ w1, Gr w w1 → ∀ Q : VK, (∀ p w2, Gr w1 w2 → w1.H p = none → OwnL K w2 p e l → Q (.ref p) w2.H) → te σ w1.H Q
def EvT (_K : PySem.W.Frag) (t : TT) (σ : L2.St) (w : Wd) (b : Bool) : Prop := ∀ w1, Gr w w1 → ∀ Q : Bool → Hp → Prop, (∀ w2, Gr w1 w2 → Q b w2.H) → t σ w1.H Q
def EvO (_K : PySem.W.Frag) (t : TO) (σ : L2.St) (w : Wd) (o : Option Int) : Prop := ∀ w1, Gr w w1 → ∀ Q : Option Int → Hp → Prop, (∀ w2, Gr w1 w2 → Q o w2.H) → t σ w1.H Q
end
section
variable {K : PySem.W.Frag} {σ : L2.St} {w w' : Wd} {ta tb tc te : TE} {t u : TT} {α β γ δ : Type} {r : Rep α} {rb : Rep β} {a : α}
theorem EvD.gr (h : EvD K te σ w r a) (g : Gr w w') : EvD K te σ w' r a := fun w1 x => h w1 (g.trans x)
theorem EvN.gr {l : List α} (h : EvN K te σ w r l) (g : Gr w w') : EvN K te σ w' r l := fun w1 x => h w1 (g.trans x)
theorem EvT.gr {b : Bool} (h : EvT K t σ w b) (g : Gr w w') : EvT K t σ w' b := fun w1 x => h w1 (g.trans x)
theorem EvD.run (h : EvD K te σ w r a) {Q : VK} (k : ∀ v w2, Gr w w2 → r.r K w2.S v a → Q v w2.H) : te σ w.H Q := h w (Gr.refl w) Q k
theorem EvN.run {l : List α} (h : EvN K te σ w r l) {Q : VK} (k : ∀ p w2, Gr w w2 → w.H p = none → OwnL K w2 p r l → Q (.ref p) w2.H) : te σ w.H Q := h w (Gr.refl w) Q k
theorem EvT.run {b : Bool} (h : EvT K t σ w b) {Q : Bool → Hp → Prop} (k : ∀ w2, Gr w w2 → Q b w2.H) : t σ w.H Q := h w (Gr.refl w) Q k
theorem EvN.d {l : List α} (h : EvN K te σ w r l) : EvD K te σ w (Rep.list r) l := fun w1 x Q q => h w1 x _ fun p w2 g n o => by
  obtain ⟨w3, e, m, rr⟩ := o.fix
  rw [← e]
  exact q _ w3 (m.gr w1 g n) rr
theorem EvD.eq {b : α} (h : EvD K te σ w r a) (e : a = b) : EvD K te σ w r b := e ▸ h
theorem EvN.eq {l l' : List α} (h : EvN K te σ w r l) (e : l = l') : EvN K te σ w r l' := e ▸ h
theorem EvT.eq {b c : Bool} (h : EvT K t σ w b) (e : b = c) : EvT K t σ w c := e ▸ h
theorem ev_var {i : Nat} {v : V} (h : σ[i]? = some (some v)) (hr : r.r K w.S v a) : EvD K (tVar i) σ w r a := fun w1 g Q q => ⟨v, h, q v w1 (Gr.refl _) (r.m g.s hr)⟩
theorem ev_int {i : Int} : EvD K (tC (.int i)) σ w Rep.int i := fun w1 _ Q q => q _ w1 (Gr.refl _) rfl
theorem ev_bl {b : Bool} : EvD K (tC (.bl b)) σ w Rep.bl b := fun w1 _ Q q => q _ w1 (Gr.refl _) rfl
theorem ev_str {b : Str} : EvD K (tC (.str b)) σ w Rep.str b := fun w1 _ Q q => q _ w1 (Gr.refl _) rfl
theorem ev_non : EvD K (tC .non) σ w Rep.non () := fun w1 _ Q q => q _ w1 (Gr.refl _) rfl
theorem ev_none : EvD K (tC .non) σ w (Rep.opt r) none := fun w1 _ Q q => q _ w1 (Gr.refl _) rfl
theorem ev_some (h : EvD K te σ w r a) : EvD K te σ w (Rep.opt r) (some a) := fun w1 g Q q => h w1 g Q fun v w2 g2 x => q v w2 g2 x
/-- two ints -/
theorem ev_I0 {f : Int → Int → V} {x y : Int} {rr : Rep γ} {z : γ} (ha : EvD K ta σ w Rep.int x) (hb : EvD K tb σ w Rep.int y) (hz : ∀ H, rr.r K H (f x y) z) : EvD K (tOp (rI0 f) ta tb) σ w rr z := fun w1 g Q q =>
  ha w1 g _ fun v w2 g2 e => hb w2 (g.trans g2) _ fun v' w3 g3 e' => ⟨x, y, e, e', q _ w3 (g2.trans g3) (hz _)⟩
theorem ev_add {x y : Int} (ha : EvD K ta σ w Rep.int x) (hb : EvD K tb σ w Rep.int y) : EvD K (tOp (rI0 fun i j => .int (i + j)) ta tb) σ w Rep.int (x + y) := ev_I0 ha hb fun _ => rfl
theorem ev_sub {x y : Int} (ha : EvD K ta σ w Rep.int x) (hb : EvD K tb σ w Rep.int y) : EvD K (tOp (rI0 fun i j => .int (i - j)) ta tb) σ w Rep.int (x - y) := ev_I0 ha hb fun _ => rfl
theorem ev_lt {x y : Int} (ha : EvD K ta σ w Rep.int x) (hb : EvD K tb σ w Rep.int y) : EvD K (tOp (rI0 fun i j => .bl (decide (i < j))) ta tb) σ w Rep.bl (decide (x < y)) := ev_I0 ha hb fun _ => rfl
theorem ev_le {x y : Int} (ha : EvD K ta σ w Rep.int x) (hb : EvD K tb σ w Rep.int y) : EvD K (tOp (rI0 fun i j => .bl (decide (i ≤ j))) ta tb) σ w Rep.bl (decide (x ≤ y)) := ev_I0 ha hb fun _ => rfl
theorem ev_I {C : Int → Int → Prop} {f : Int → Int → V} {x y : Int} {rr : Rep γ} {z : γ} (ha : EvD K ta σ w Rep.int x) (hb : EvD K tb σ w Rep.int y) (hc : C x y) (hz : ∀ H, rr.r K H (f x y) z) : EvD K (tOp (rI C f) ta tb) σ w rr z := fun w1 g Q q =>
  ha w1 g _ fun v w2 g2 e => hb w2 (g.trans g2) _ fun v' w3 g3 e' => ⟨x, y, e, e', hc, q _ w3 (g2.trans g3) (hz _)⟩
theorem ev_Ii {C : Int → Int → Prop} {f : Int → Int → Int} {x y : Int} (ha : EvD K ta σ w Rep.int x) (hb : EvD K tb σ w Rep.int y) (hc : C x y) : EvD K (tOp (rI C fun i j => .int (f i j)) ta tb) σ w Rep.int (f x y) := ev_I ha hb hc fun _ => rfl
theorem ev_neg {x : Int} (ha : EvD K ta σ w Rep.int x) : EvD K (tUn (rU fun i => .int (-i)) ta) σ w Rep.int (-x) := fun w1 g Q q => ha w1 g _ fun v w2 g2 e => ⟨x, e, q _ w2 g2 rfl⟩
/-- == of ints, texts, bools, None -/
theorem ev_eqI {x y : Int} (ha : EvD K ta σ w Rep.int x) (hb : EvD K tb σ w Rep.int y) : EvD K (tOp rEq ta tb) σ w Rep.bl (decide (x = y)) := fun w1 g Q q =>
  ha w1 g _ fun v w2 g2 e => hb w2 (g.trans g2) _ fun v' w3 g3 e' => by
    cases e; cases e'
    refine ⟨rfl, ?_⟩
    have z : decide (V.int x = V.int y) = decide (x = y) := by
      by_cases h : x = y
      · subst h; simp
      · rw [decide_eq_false h, decide_eq_false (fun z => h (V.int.inj z))]
    rw [z]
    exact q _ w3 (g2.trans g3) rfl
theorem ev_neI {x y : Int} (ha : EvD K ta σ w Rep.int x) (hb : EvD K tb σ w Rep.int y) : EvD K (tOp rNe ta tb) σ w Rep.bl (!decide (x = y)) := fun w1 g Q q =>
  ha w1 g _ fun v w2 g2 e => hb w2 (g.trans g2) _ fun v' w3 g3 e' => by
    cases e; cases e'
    refine ⟨rfl, ?_⟩
    have z : decide (V.int x = V.int y) = decide (x = y) := by
      by_cases h : x = y
      · subst h; simp
      · rw [decide_eq_false h, decide_eq_false (fun z => h (V.int.inj z))]
    rw [z]
    exact q _ w3 (g2.trans g3) rfl
theorem ev_eqS {x y : Str} (ha : EvD K ta σ w Rep.str x) (hb : EvD K tb σ w Rep.str y) : EvD K (tOp rEq ta tb) σ w Rep.bl (decide (x = y)) := fun w1 g Q q =>
  ha w1 g _ fun v w2 g2 e => hb w2 (g.trans g2) _ fun v' w3 g3 e' => by
    cases e; cases e'
    refine ⟨rfl, ?_⟩
    have z : decide (V.str x = V.str y) = decide (x = y) := by
      by_cases h : x = y
      · subst h; simp
      · rw [decide_eq_false h, decide_eq_false (fun z => h (V.str.inj z))]
    rw [z]
    exact q _ w3 (g2.trans g3) rfl
theorem ev_neS {x y : Str} (ha : EvD K ta σ w Rep.str x) (hb : EvD K tb σ w Rep.str y) : EvD K (tOp rNe ta tb) σ w Rep.bl (!decide (x = y)) := fun w1 g Q q =>
  ha w1 g _ fun v w2 g2 e => hb w2 (g.trans g2) _ fun v' w3 g3 e' => by
    cases e; cases e'
    refine ⟨rfl, ?_⟩
    have z : decide (V.str x = V.str y) = decide (x = y) := by
      by_cases h : x = y
      · subst h; simp
      · rw [decide_eq_false h, decide_eq_false (fun z => h (V.str.inj z))]
    rw [z]
    exact q _ w3 (g2.trans g3) rfl
/-- x is None, x is not None, of what may be None -/
def Rep.NN (r : Rep α) : Prop := ∀ K H v a, r.r K H v a → v ≠ .non
theorem ev_isN {o : Option α} (hn : r.NN) (ha : EvD K ta σ w (Rep.opt r) o) : EvD K (tOp (fun x y H Q => y = .non ∧ Q (.bl (decide (x = .non))) H) ta (tC .non)) σ w Rep.bl o.isNone := fun w1 g Q q =>
  ha w1 g _ fun v w2 g2 e => ⟨rfl, by
    cases o with
    | none => cases (show v = .non from e); exact q _ w2 g2 rfl
    | some a => rw [decide_eq_false (hn _ _ _ _ e)]; exact q _ w2 g2 rfl⟩
theorem ev_notN {o : Option α} (hn : r.NN) (ha : EvD K ta σ w (Rep.opt r) o) : EvD K (tOp (fun x y H Q => y = .non ∧ Q (.bl (!decide (x = .non))) H) ta (tC .non)) σ w Rep.bl o.isSome := fun w1 g Q q =>
  ha w1 g _ fun v w2 g2 e => ⟨rfl, by
    cases o with
    | none => cases (show v = .non from e); exact q _ w2 g2 rfl
    | some a => rw [decide_eq_false (hn _ _ _ _ e)]; exact q _ w2 g2 rfl⟩
theorem nn_list {r : Rep α} : (Rep.list r).NN := fun _ _ _ _ h e => by obtain ⟨_, _, z, _⟩ := h; rw [z] at e; cases e
theorem nn_pair {r : Rep α} {s : Rep β} : (Rep.pair r s).NN := fun _ _ _ _ h e => by obtain ⟨_, _, _, z, _⟩ := h; rw [z] at e; cases e
theorem nn_int : Rep.int.NN := fun _ _ _ _ h e => by rw [h] at e; cases e
theorem nn_bl : Rep.bl.NN := fun _ _ _ _ h e => by rw [h] at e; cases e
theorem nn_str : Rep.str.NN := fun _ _ _ _ h e => by rw [h] at e; cases e
/-! tests -/
theorem et_test {b : Bool} (h : EvD K te σ w Rep.bl b) : EvT K (tTest te) σ w b := fun w1 g Q q => h w1 g _ fun v w2 g2 e => ⟨b, e, q w2 g2⟩
theorem et_B {b : Bool} (h : EvD K te σ w Rep.bl b) : EvT K (tB te) σ w b := fun w1 g Q q => h w1 g _ fun v w2 g2 e => ⟨b, e, q w2 g2⟩
theorem et_not {b : Bool} (h : EvT K t σ w b) : EvT K (tNot t) σ w (!b) := fun w1 g Q q => h w1 g _ fun w2 g2 => q w2 g2
theorem et_and {a b : Bool} (h1 : EvT K t σ w a) (h2 : a = true → EvT K u σ w b) : EvT K (tAnd t u) σ w (a && b) := fun w1 g Q q => h1 w1 g _ fun w2 g2 => by
  cases a with
  | true => exact h2 rfl w2 (g.trans g2) Q fun w3 g3 => q w3 (g2.trans g3)
  | false => exact q w2 g2
theorem et_or {a b : Bool} (h1 : EvT K t σ w a) (h2 : a = false → EvT K u σ w b) : EvT K (tOr t u) σ w (a || b) := fun w1 g Q q => h1 w1 g _ fun w2 g2 => by
  cases a with
  | true => exact q w2 g2
  | false => exact h2 rfl w2 (g.trans g2) Q fun w3 g3 => q w3 (g2.trans g3)
theorem et_yes : EvT K tYes σ w true := fun w1 _ Q q => q w1 (Gr.refl _)
theorem ev_andV {a b : Bool} (h1 : EvD K ta σ w Rep.bl a) (h2 : a = true → EvD K tb σ w Rep.bl b) : EvD K (tAndV ta tb) σ w Rep.bl (a && b) := fun w1 g Q q => h1 w1 g _ fun v w2 g2 e => ⟨a, e, by
  cases a with
  | true => exact h2 rfl w2 (g.trans g2) Q fun v w3 g3 x => q v w3 (g2.trans g3) x
  | false => exact q _ w2 g2 rfl⟩
theorem ev_orV {a b : Bool} (h1 : EvD K ta σ w Rep.bl a) (h2 : a = false → EvD K tb σ w Rep.bl b) : EvD K (tOrV ta tb) σ w Rep.bl (a || b) := fun w1 g Q q => h1 w1 g _ fun v w2 g2 e => ⟨a, e, by
  cases a with
  | true => exact q _ w2 g2 rfl
  | false => exact h2 rfl w2 (g.trans g2) Q fun v w3 g3 x => q v w3 (g2.trans g3) x⟩
theorem ev_notV {a : Bool} (h1 : EvD K ta σ w Rep.bl a) : EvD K (tNotV ta) σ w Rep.bl (!a) := fun w1 g Q q => h1 w1 g _ fun v w2 g2 e => ⟨a, e, q _ w2 g2 rfl⟩
theorem ev_if {b : Bool} {x : α} (h : EvT K t σ w b) (h1 : b = true → EvD K ta σ w r x) (h2 : b = false → EvD K tb σ w r x) : EvD K (tIf t ta tb) σ w r x := fun w1 g Q q => h w1 g _ fun w2 g2 => by
  cases b with
  | true => exact h1 rfl w2 (g.trans g2) Q fun v w3 g3 x => q v w3 (g2.trans g3) x
  | false => exact h2 rfl w2 (g.trans g2) Q fun v w3 g3 x => q v w3 (g2.trans g3) x
theorem ev_ifV {b : Bool} {x y : α} (h : EvT K t σ w b) (h1 : b = true → EvD K ta σ w r x) (h2 : b = false → EvD K tb σ w r y) : EvD K (tIf t ta tb) σ w r (if b = true then x else y) :=
  ev_if h (fun e => (h1 e).eq (by rw [e, if_pos rfl])) (fun e => (h2 e).eq (by rw [e, if_neg (by decide)]))
/-- a chain of two comparisons, as a value, as a test -/
theorem ev_chain {rr rr' : R2} {x y z : Int} {p q : Bool} (ha : EvD K ta σ w Rep.int x) (hb : EvD K tb σ w Rep.int y) (hc : EvD K tc σ w Rep.int z)
    (h1 : ∀ H Q, Q (.bl p) H → rr (.int x) (.int y) H Q) (h2 : ∀ H Q, Q (.bl q) H → rr' (.int y) (.int z) H Q) : EvD K (tChain rr rr' ta tb tc) σ w Rep.bl (p && q) := fun w1 g Q k =>
  ha w1 g _ fun v w2 g2 e => hb w2 (g.trans g2) _ fun v' w3 g3 e' => by
    cases e; cases e'
    refine h1 _ _ ⟨p, rfl, ?_⟩
    cases p with
    | true =>
      exact hc w3 ((g.trans g2).trans g3) _ fun v2 w4 g4 e2 => by
        cases e2
        exact h2 _ _ (k _ w4 ((g2.trans g3).trans g4) rfl)
    | false => exact k _ w3 (g2.trans g3) rfl
end
end WK

/-! WK, part 2: lists, tuples, loops, comprehensions. -/
namespace WK
open PySem PySem.Spec PyProof.Rows L2

theorem sz5 {n : Nat} (h : n ≤ 100000) : n ≤ sizeLine := Nat.le_trans h (by decide)
theorem sz5' {n : Nat} (h : n < 100000) : n < sizeLine := Nat.lt_of_lt_of_le h (by decide)
section
variable {K : PySem.W.Frag} {σ : L2.St} {w w' : Wd} {ta tb tc te tl : TE} {t u : TT} {α β γ δ : Type} {r : Rep α} {rb : Rep β} {rc : Rep γ} {a : α} {e : Rep α} {l : List α}

/-- an own list read as if it were settled, for a scalar -/
theorem peek_run {p : Addr} {xs : List V} {w w1 : Wd} (o : Own w p (.lst xs)) (g : Gr w w1) : Gr (w.fix p _ o.h) (w1.fix p _ (o.gr g).h) :=
  ⟨ex_upd2 g.s, g.h, fun q hq hn => by
    show upd w1.S p _ q = none
    by_cases z : q = p
    · subst z; have : upd w.S q (.lst xs) q = none := hn; rw [upd_same] at this; cases this
    · rw [upd_ne z]; have : upd w.S p (.lst xs) q = none := hn; rw [upd_ne z] at this; exact g.n q hq this⟩
def Wd.off (w : Wd) (p : Addr) : Wd := ⟨fun q => if q = p then none else w.S q, w.H, fun a u h => by
  have h : (if a = p then none else w.S a) = some u := h
  by_cases z : a = p
  · rw [if_pos z] at h; cases h
  · rw [if_neg z] at h; exact w.ex a u h⟩
theorem off_gr {p : Addr} {xs : List V} {w1 w2 : Wd} (o : Own w1 p (.lst xs)) (g : Gr (w1.fix p _ o.h) w2) : Gr w1 (w2.off p) :=
  ⟨fun a u h => by
    have z : a ≠ p := fun q => by rw [q, o.s] at h; cases h
    show (if a = p then none else w2.S a) = some u
    rw [if_neg z]
    exact g.s a u (by show upd w1.S p _ a = some u; rw [upd_ne z]; exact h), g.h, fun q hq hn => by
    show (if q = p then none else w2.S q) = none
    by_cases z : q = p
    · rw [if_pos z]
    · rw [if_neg z]; exact g.n q hq (by show upd w1.S p _ q = none; rw [upd_ne z]; exact hn)⟩
theorem ev_peek {p : Addr} (o : OwnL K w p e l) (hf : rb.Flat) {b : β} (h : ∀ w', Mt p w w' → (Rep.list e).r K w'.S (.ref p) l → EvD K te σ w' rb b) : EvD K te σ w rb b := fun w1 g Q q => by
  obtain ⟨xs, ow, hp⟩ := o
  have h1 := h (w.fix p _ ow.h) (mt_fix ow) ⟨p, xs, rfl, SqL.of (fix_s ow.h), paired_mono hp fun _ _ x => e.m (mt_fix ow).s x⟩
  exact h1 (w1.fix p _ (ow.gr g).h) (peek_run ow g) Q fun v w2 g2 x => q v (w2.off p) (off_gr (ow.gr g) g2) (hf _ _ _ _ _ x)
theorem et_peek {p : Addr} (o : OwnL K w p e l) {b : Bool} (h : ∀ w', Mt p w w' → (Rep.list e).r K w'.S (.ref p) l → EvT K t σ w' b) : EvT K t σ w b := fun w1 g Q q => by
  obtain ⟨xs, ow, hp⟩ := o
  have h1 := h (w.fix p _ ow.h) (mt_fix ow) ⟨p, xs, rfl, SqL.of (fix_s ow.h), paired_mono hp fun _ _ x => e.m (mt_fix ow).s x⟩
  exact h1 (w1.fix p _ (ow.gr g).h) (peek_run ow g) Q fun w2 g2 => q (w2.off p) (off_gr (ow.gr g) g2)

/-! ### displays -/
/-- arguments: a list of values, each standing for what it stands for -/
def EvA (K : PySem.W.Frag) (ta : TA) (σ : L2.St) (w : Wd) (P : Hp → List V → Prop) : Prop := ∀ w1, Gr w w1 → ∀ Q : List V → Hp → Prop, (∀ vs w2, Gr w1 w2 → P w2.S vs → Q vs w2.H) → ta σ w1.H Q
theorem ea_nil : EvA K tNil σ w (fun _ vs => vs = []) := fun w1 _ Q q => q _ w1 (Gr.refl _) rfl
theorem ea_cons {tr : TA} {P : Hp → List V → Prop} (h : EvD K te σ w r a) (hr : EvA K tr σ w P) : EvA K (tCons te tr) σ w (fun S vs => ∃ v r', vs = v :: r' ∧ r.r K S v a ∧ P S r') := fun w1 g Q q =>
  h w1 g _ fun v w2 g2 x => hr w2 (g.trans g2) _ fun r' w3 g3 y => q _ w3 (g2.trans g3) ⟨v, r', rfl, r.m g3.s x, y⟩
/-- items of one kind -/
def EvL (K : PySem.W.Frag) (ta : TA) (σ : L2.St) (w : Wd) (e : Rep α) (l : List α) : Prop := EvA K ta σ w (fun S vs => Paired (e.r K S) vs l)
theorem el_nil : EvL K tNil σ w e [] := fun w1 _ Q q => q _ w1 (Gr.refl _) .nil
theorem el_cons {tr : TA} (h : EvD K te σ w e a) (hr : EvL K tr σ w e l) : EvL K (tCons te tr) σ w e (a :: l) := fun w1 g Q q =>
  h w1 g _ fun v w2 g2 x => hr w2 (g.trans g2) _ fun r' w3 g3 y => q _ w3 (g2.trans g3) (.cons (e.m g3.s x) y)
theorem en_lst {tr : TA} (h : EvL K tr σ w e l) (hz : l.length ≤ 100000 := by first | decide | simp) : EvN K (tLst tr) σ w e l := fun w1 g Q q =>
  h w1 g _ fun vs w2 g2 x => ⟨by rw [paired_len x]; exact sz5 hz, fun p hp => q p (w2.new p _ hp) (g2.trans (gr_new hp)) (fr_back g2 hp) ⟨vs, own_new hp, paired_mono x fun _ _ z => z⟩⟩
theorem ev_pair {b : β} (h : EvD K ta σ w r a) (h2 : EvD K tb σ w rb b) : EvD K (tTup (tCons ta (tCons tb tNil))) σ w (Rep.pair r rb) (a, b) := fun w1 g Q q =>
  h w1 g _ fun v w2 g2 x => h2 w2 (g.trans g2) _ fun v' w3 g3 y => ⟨by show 2 ≤ sizeLine; decide, fun p hp =>
    q _ (w3.put p _) ((g2.trans g3).trans (gr_put hp)) ⟨p, v, v', rfl, SqT.of put_s, r.m (g3.s.trans (gr_put hp).s) x, rb.m (gr_put hp).s y⟩⟩
/-! ### reading -/
theorem ev_len (h : EvD K ta σ w (Rep.list e) l) : EvD K (tCB (Evl.rLenS K) (tCons ta tNil)) σ w Rep.int (l.length : Int) := fun w1 g Q q =>
  h w1 g _ fun v w2 g2 x => by
    obtain ⟨a, xs, rfl, hs, hp⟩ := x
    refine ⟨a, xs, rfl, .inl (Evl.ex_l w2.ex hs), q _ w2 g2 ?_⟩
    rw [paired_len hp]; exact rfl
theorem ev_ix {i : Int} {x : α} (h : EvD K ta σ w (Rep.list e) l) (hi : EvD K tb σ w Rep.int i) (hx : atI l i = some x) : EvD K (tOp (rIxL K) ta tb) σ w e x := fun w1 g Q q =>
  h w1 g _ fun v w2 g2 z => hi w2 (g.trans g2) _ fun v' w3 g3 z' => by
    cases z'
    obtain ⟨a, xs, rfl, hs, hp⟩ := z
    unfold atI at hx
    obtain ⟨j, hj, hx⟩ := Option.bind_eq_some_iff.mp hx
    obtain ⟨v, hv, hr⟩ := paired_get hp hx
    refine ⟨a, xs, i, v, rfl, rfl, Evl.ex_l (g3.s.trans w3.ex) hs, ?_, q v w3 (g2.trans g3) (e.m g3.s hr)⟩
    unfold atI
    rw [paired_len hp, hj]
    exact hv
theorem atI_of {x : α} {j : Nat} (h : l[j]? = some x) : atI l (j : Int) = some x := by
  have hj := (List.getElem?_eq_some_iff.mp h).1
  unfold atI
  rw [Evl.ixN_nat hj]
  exact h
theorem atI_int {x : α} {i : Int} (h0 : 0 ≤ i) (h : l[i.toNat]? = some x) : atI l i = some x := by
  have := atI_of h
  rwa [Int.toNat_of_nonneg h0] at this
theorem atI_neg {x : α} {j : Nat} (hj : 0 < j) (h : l[l.length - j]? = some x) (hl : j ≤ l.length) : atI l (-(j : Int)) = some x := by
  unfold atI ixN
  rw [if_neg (by omega), if_pos (by omega)]
  have : (-(j : Int) + (l.length : Int)).toNat = l.length - j := by omega
  rw [this]
  exact h
theorem ev_fst {x : α × β} (h : EvD K ta σ w (Rep.pair r rb) x) (hi : EvD K tb σ w Rep.int 0) : EvD K (tOp (rIxT K) ta tb) σ w r x.1 := fun w1 g Q q =>
  h w1 g _ fun v w2 g2 z => hi w2 (g.trans g2) _ fun v' w3 g3 z' => by
    cases z'
    obtain ⟨a, u, v, rfl, hs, h1, h2⟩ := z
    exact ⟨a, [u, v], 0, u, rfl, rfl, Evl.ex_t (g3.s.trans w3.ex) hs, rfl, q u w3 (g2.trans g3) (r.m g3.s h1)⟩
theorem ev_snd {x : α × β} (h : EvD K ta σ w (Rep.pair r rb) x) (hi : EvD K tb σ w Rep.int 1) : EvD K (tOp (rIxT K) ta tb) σ w rb x.2 := fun w1 g Q q =>
  h w1 g _ fun v w2 g2 z => hi w2 (g.trans g2) _ fun v' w3 g3 z' => by
    cases z'
    obtain ⟨a, u, v, rfl, hs, h1, h2⟩ := z
    exact ⟨a, [u, v], 1, v, rfl, rfl, Evl.ex_t (g3.s.trans w3.ex) hs, rfl, q v w3 (g2.trans g3) (rb.m g3.s h2)⟩
/-- slices -/
theorem eo_none : EvO K tNoPart σ w none := fun w1 _ Q q => q w1 (Gr.refl _)
theorem eo_some {i : Int} (h : EvD K te σ w Rep.int i) : EvO K (tPart te) σ w (some i) := fun w1 g Q q => h w1 g _ fun v w2 g2 x => ⟨i, x, q w2 g2⟩
def cut (l : List α) (lo hi : Option Int) : List α := (l.drop (HT.sIx l.length 0 lo)).take (HT.sIx l.length l.length hi - HT.sIx l.length 0 lo)
theorem paired_cut {F : V → α → Prop} {xs : List V} (h : Paired F xs l) (lo hi : Option Int) : Paired F (cutV xs lo hi) (cut l lo hi) := by
  unfold cutV cut
  rw [paired_len h]
  exact paired_take _ (paired_drop _ h)
theorem en_sl {tlo thi : TO} {lo hi : Option Int} (h : EvD K te σ w (Rep.list e) l) (h1 : EvO K tlo σ w lo) (h2 : EvO K thi σ w hi) : EvN K (tSl (rSlL K) te tlo thi) σ w e (cut l lo hi) := fun w1 g Q q =>
  h w1 g _ fun v w2 g2 x => h1 w2 (g.trans g2) _ fun w3 g3 => h2 w3 ((g.trans g2).trans g3) _ fun w4 g4 => by
    obtain ⟨a, xs, rfl, hs, hp⟩ := x
    refine ⟨a, xs, rfl, Evl.ex_l ((g3.s.trans g4.s).trans w4.ex) hs, fun p np => ?_⟩
    exact q p (w4.new p _ np) (((g2.trans g3).trans g4).trans (gr_new np)) (fr_back ((g2.trans g3).trans g4) np) ⟨_, own_new np, paired_cut (paired_mono hp fun _ _ z => e.m (g3.s.trans g4.s) z) lo hi⟩
theorem cut_to {n : Nat} (h : n ≤ l.length) : cut l none (some (n : Int)) = l.take n := by
  unfold cut
  rw [HT.sIx_none, HT.sIx_nat, Nat.min_eq_left h]; simp
theorem cut_from {n : Nat} : cut l (some (n : Int)) none = l.drop n := by
  unfold cut
  rw [HT.sIx_none, HT.sIx_nat]
  by_cases h : n ≤ l.length
  · rw [Nat.min_eq_left h]; exact List.take_of_length_le (by simp)
  · rw [Nat.min_eq_right (by omega), List.drop_length, List.drop_of_length_le (show l.length ≤ n by omega), List.take_nil]
theorem cut_ft {n m : Nat} (h : m ≤ l.length) : cut l (some (n : Int)) (some (m : Int)) = (l.drop n).take (m - n) := by
  unfold cut
  rw [HT.sIx_nat, HT.sIx_nat, Nat.min_eq_left h]
  by_cases hn : n ≤ l.length
  · rw [Nat.min_eq_left hn]
  · rw [Nat.min_eq_right (by omega), List.drop_of_length_le (Nat.le_refl _), List.drop_of_length_le (by omega)]; simp
theorem cut_all : cut l none none = l := by unfold cut; rw [HT.sIx_none, HT.sIx_none]; simp
theorem en_rev (h : EvD K te σ w (Rep.list e) l) : EvN K (tRevL K te) σ w e l.reverse := fun w1 g Q q =>
  h w1 g _ fun v w2 g2 x => by
    obtain ⟨a, xs, rfl, hs, hp⟩ := x
    exact ⟨a, xs, rfl, Evl.ex_l w2.ex hs, fun p np => q p (w2.new p _ np) (g2.trans (gr_new np)) (fr_back g2 np) ⟨_, own_new np, paired_rev hp⟩⟩
/-- list(xs) -/
theorem en_list (h : EvD K te σ w (Rep.list e) l) : EvN K (tCB (Evl.rListS K) (tCons te tNil)) σ w e l := fun w1 g Q q =>
  h w1 g _ fun v w2 g2 x => by
    obtain ⟨a, xs, rfl, hs, hp⟩ := x
    exact ⟨a, xs, rfl, .inl (Evl.ex_l w2.ex hs), fun p np => q p (w2.new p _ np) (g2.trans (gr_new np)) (fr_back g2 np) ⟨_, own_new np, hp⟩⟩
/-- xs + ys -/
theorem en_cat {m : List α} (h : EvN K ta σ w e l) (h2 : EvN K tb σ w e m) (hz : l.length + m.length ≤ 100000) : EvN K (tOp rCat ta tb) σ w e (l ++ m) := fun w1 g Q q =>
  h w1 g _ fun p w2 g2 n2 o2 => h2 w2 (g.trans g2) _ fun p' w3 g3 n3 o3 => by
    obtain ⟨xs, ox, hx⟩ := o2.gr g3
    obtain ⟨ys, oy, hy⟩ := o3
    refine ⟨p, p', xs, ys, rfl, rfl, ox.h, oy.h, by rw [paired_len hx, paired_len hy]; exact sz5 hz, fun d nd => ?_⟩
    exact q d (w3.new d _ nd) ((g2.trans g3).trans (gr_new nd)) (fr_back (g2.trans g3) nd) ⟨_, own_new nd, paired_app hx hy⟩
/-- [x] * n -/
theorem en_rep {k : Int} (h : EvN K ta σ w e l) (h2 : EvD K tb σ w Rep.int k) (h0 : 0 ≤ k ∧ l.length * k.toNat ≤ 100000 ∧ k ≤ 100000) : EvN K (tOp rRep ta tb) σ w e ((List.replicate k.toNat l).flatten) := fun w1 g Q q =>
  h w1 g _ fun p w2 g2 n2 o2 => h2 w2 (g.trans g2) _ fun v w3 g3 hk => by
    cases hk
    obtain ⟨xs, ox, hx⟩ := o2.gr g3
    refine ⟨p, k, xs, rfl, rfl, ox.h, by omega, by omega, by rw [paired_len hx]; exact sz5 h0.2.1, fun d nd => ?_⟩
    refine q d (w3.new d _ nd) ((g2.trans g3).trans (gr_new nd)) (fr_back (g2.trans g3) nd) ⟨_, own_new nd, ?_⟩
    have : ∀ n, Paired (e.r K w3.S) (List.flatten (List.replicate n xs)) (List.flatten (List.replicate n l)) := by
      intro n
      induction n with
      | zero => exact .nil
      | succ n ih => rw [List.replicate_succ, List.replicate_succ, List.flatten_cons, List.flatten_cons]; exact paired_app hx ih
    exact this _
/-! ### built-in functions of lists -/
theorem lints_at {v : V} {l : List Int} {S : Hp} (h : (Rep.list Rep.int).r K S v l) : ∃ a, v = .ref a ∧ SqL K S a (l.map V.int) := by
  obtain ⟨a, xs, rfl, hs, hp⟩ := h
  rw [paired_ints hp] at hs
  exact ⟨a, rfl, hs⟩
theorem lbls_at {v : V} {l : List Bool} {S : Hp} (h : (Rep.list Rep.bl).r K S v l) : ∃ a, v = .ref a ∧ SqL K S a (l.map V.bl) := by
  obtain ⟨a, xs, rfl, hs, hp⟩ := h
  rw [paired_bls hp] at hs
  exact ⟨a, rfl, hs⟩
theorem ev_sum {l : List Int} (h : EvD K ta σ w (Rep.list Rep.int) l) : EvD K (tCB (rSum K) (tCons ta tNil)) σ w Rep.int l.sum := fun w1 g Q q =>
  h w1 g _ fun v w2 g2 x => by
    obtain ⟨a, rfl, hs⟩ := lints_at x
    exact ⟨a, l, rfl, Evl.ex_l w2.ex hs, q _ w2 g2 rfl⟩
def maxL (l : List Int) : Int := l.foldl (fun a b => if a < b then b else a) (l.headD 0)
def minL (l : List Int) : Int := l.foldl (fun a b => if b < a then b else a) (l.headD 0)
theorem foldl_max : ∀ (l : List Int) (a : Int), (∀ y ∈ a :: l, y ≤ l.foldl (fun a b => if a < b then b else a) a) ∧ l.foldl (fun a b => if a < b then b else a) a ∈ a :: l
  | [], a => ⟨fun y h => by simp at h; simp [h], by simp⟩
  | b :: r, a => by
    obtain ⟨h1, h2⟩ := foldl_max r (if a < b then b else a)
    simp only [List.foldl_cons]
    refine ⟨fun y hy => ?_, ?_⟩
    · have hm := h1 (if a < b then b else a) List.mem_cons_self
      rcases List.mem_cons.mp hy with e | hy
      · subst e; split at hm <;> (rename_i hh; simp only [hh, if_true, if_false] ; omega)
      · rcases List.mem_cons.mp hy with e | hy
        · subst e; split at hm <;> (rename_i hh; simp only [hh, if_true, if_false] ; omega)
        · exact h1 y (List.mem_cons_of_mem _ hy)
    · rcases List.mem_cons.mp h2 with e | h
      · rw [e]; split <;> simp
      · exact List.mem_cons_of_mem _ (List.mem_cons_of_mem _ h)
theorem foldl_min : ∀ (l : List Int) (a : Int), (∀ y ∈ a :: l, l.foldl (fun a b => if b < a then b else a) a ≤ y) ∧ l.foldl (fun a b => if b < a then b else a) a ∈ a :: l
  | [], a => ⟨fun y h => by simp at h; simp [h], by simp⟩
  | b :: r, a => by
    obtain ⟨h1, h2⟩ := foldl_min r (if b < a then b else a)
    simp only [List.foldl_cons]
    refine ⟨fun y hy => ?_, ?_⟩
    · have hm := h1 (if b < a then b else a) List.mem_cons_self
      rcases List.mem_cons.mp hy with e | hy
      · subst e; split at hm <;> (rename_i hh; simp only [hh, if_true, if_false] ; omega)
      · rcases List.mem_cons.mp hy with e | hy
        · subst e; split at hm <;> (rename_i hh; simp only [hh, if_true, if_false] ; omega)
        · exact h1 y (List.mem_cons_of_mem _ hy)
    · rcases List.mem_cons.mp h2 with e | h
      · rw [e]; split <;> simp
      · exact List.mem_cons_of_mem _ (List.mem_cons_of_mem _ h)
theorem maxL_spec {l : List Int} (h : l ≠ []) : maxL l ∈ l ∧ ∀ y ∈ l, y ≤ maxL l := by
  cases l with
  | nil => exact absurd rfl h
  | cons a r =>
    have := foldl_max r a
    unfold maxL
    simp only [List.headD_cons, List.foldl_cons, Int.lt_irrefl, if_false]
    exact ⟨this.2, this.1⟩
theorem minL_spec {l : List Int} (h : l ≠ []) : minL l ∈ l ∧ ∀ y ∈ l, minL l ≤ y := by
  cases l with
  | nil => exact absurd rfl h
  | cons a r =>
    have := foldl_min r a
    unfold minL
    simp only [List.headD_cons, List.foldl_cons, Int.lt_irrefl, if_false]
    exact ⟨this.2, this.1⟩
theorem maxL_uniq {l : List Int} {m : Int} (h : m ∈ l) (h2 : ∀ y ∈ l, y ≤ m) : m = maxL l := by
  have hn : l ≠ [] := fun z => by rw [z] at h; cases h
  obtain ⟨a, b⟩ := maxL_spec hn
  exact Int.le_antisymm (b m h) (h2 _ a)
theorem minL_uniq {l : List Int} {m : Int} (h : m ∈ l) (h2 : ∀ y ∈ l, m ≤ y) : m = minL l := by
  have hn : l ≠ [] := fun z => by rw [z] at h; cases h
  obtain ⟨a, b⟩ := minL_spec hn
  exact Int.le_antisymm (h2 _ a) (b m h)
theorem ev_maxL {l : List Int} (h : EvD K ta σ w (Rep.list Rep.int) l) (hn : l ≠ []) : EvD K (tCB (rMax K) (tCons ta tNil)) σ w Rep.int (maxL l) := fun w1 g Q q =>
  h w1 g _ fun v w2 g2 x => by
    obtain ⟨a, rfl, hs⟩ := lints_at x
    exact ⟨a, l, rfl, Evl.ex_l w2.ex hs, List.length_pos_iff.mpr hn, fun m hm hle => q _ w2 g2 (by rw [maxL_uniq hm hle]; rfl)⟩
theorem ev_minL {l : List Int} (h : EvD K ta σ w (Rep.list Rep.int) l) (hn : l ≠ []) : EvD K (tCB (rMin K) (tCons ta tNil)) σ w Rep.int (minL l) := fun w1 g Q q =>
  h w1 g _ fun v w2 g2 x => by
    obtain ⟨a, rfl, hs⟩ := lints_at x
    exact ⟨a, l, rfl, Evl.ex_l w2.ex hs, List.length_pos_iff.mpr hn, fun m hm hle => q _ w2 g2 (by rw [minL_uniq hm hle]; rfl)⟩
theorem ev_all {l : List Bool} (h : EvD K ta σ w (Rep.list Rep.bl) l) : EvD K (tCB (rAll K) (tCons ta tNil)) σ w Rep.bl (l.all id) := fun w1 g Q q =>
  h w1 g _ fun v w2 g2 x => by
    obtain ⟨a, rfl, hs⟩ := lbls_at x
    exact ⟨a, l, rfl, Evl.ex_l w2.ex hs, q _ w2 g2 rfl⟩
theorem ev_any {l : List Bool} (h : EvD K ta σ w (Rep.list Rep.bl) l) : EvD K (tCB (rAny K) (tCons ta tNil)) σ w Rep.bl (l.any id) := fun w1 g Q q =>
  h w1 g _ fun v w2 g2 x => by
    obtain ⟨a, rfl, hs⟩ := lbls_at x
    exact ⟨a, l, rfl, Evl.ex_l w2.ex hs, q _ w2 g2 rfl⟩
theorem ev_max2 {i j : Int} (ha : EvD K ta σ w Rep.int i) (hb : EvD K tb σ w Rep.int j) : EvD K (tCB (fun xs H Q => ∃ i j, xs = [.int i, .int j] ∧ Q (.int (if j > i then j else i)) H) (tCons ta (tCons tb tNil))) σ w Rep.int (max i j) := fun w1 g Q q =>
  ha w1 g _ fun v w2 g2 e => hb w2 (g.trans g2) _ fun v' w3 g3 e' => ⟨i, j, by rw [e, e'], q _ w3 (g2.trans g3) (by show V.int _ = V.int _; congr 1; split <;> omega)⟩
theorem ev_min2 {i j : Int} (ha : EvD K ta σ w Rep.int i) (hb : EvD K tb σ w Rep.int j) : EvD K (tCB (fun xs H Q => ∃ i j, xs = [.int i, .int j] ∧ Q (.int (if j < i then j else i)) H) (tCons ta (tCons tb tNil))) σ w Rep.int (min i j) := fun w1 g Q q =>
  ha w1 g _ fun v w2 g2 e => hb w2 (g.trans g2) _ fun v' w3 g3 e' => ⟨i, j, by rw [e, e'], q _ w3 (g2.trans g3) (by show V.int _ = V.int _; congr 1; split <;> omega)⟩
theorem ev_abs {i : Int} (ha : EvD K ta σ w Rep.int i) : EvD K (tCB (fun xs H Q => ∃ i, xs = [.int i] ∧ Q (.int (if i < 0 then -i else i)) H) (tCons ta tNil)) σ w Rep.int (i.natAbs : Int) := fun w1 g Q q =>
  ha w1 g _ fun v w2 g2 e => ⟨i, by rw [e], q _ w2 g2 (by show V.int _ = V.int _; congr 1; split <;> omega)⟩
theorem ev_intI {i : Int} (ha : EvD K ta σ w Rep.int i) : EvD K (tCB (fun xs H Q => (∃ i, xs = [.int i] ∧ Q (.int i) H) ∨ ∃ k, xs = [.bl k] ∧ Q (.int (if k then 1 else 0)) H) (tCons ta tNil)) σ w Rep.int i := fun w1 g Q q =>
  ha w1 g _ fun v w2 g2 e => .inl ⟨i, by rw [e], q _ w2 g2 rfl⟩
theorem ev_intB {b : Bool} (ha : EvD K ta σ w Rep.bl b) : EvD K (tCB (fun xs H Q => (∃ i, xs = [.int i] ∧ Q (.int i) H) ∨ ∃ k, xs = [.bl k] ∧ Q (.int (if k then 1 else 0)) H) (tCons ta tNil)) σ w Rep.int (if b = true then 1 else 0) := fun w1 g Q q =>
  ha w1 g _ fun v w2 g2 e => .inr ⟨b, by rw [e], q _ w2 g2 rfl⟩

/-! ### what is walked -/
def Walks (K : PySem.W.Frag) (J : It) (w : Wd) (e : Rep α) (l : List α) : Prop := ∀ w', Ex w.S w'.S → ∀ i,
  (∀ a, l[i]? = some a → J.go i w'.H ∧ ∀ x H', J.yld i w'.H x H' → ∃ w2 : Wd, w2.H = H' ∧ Gr w' w2 ∧ e.r K w2.S x a) ∧ (l.length ≤ i → J.stop i w'.H)
def EvI (K : PySem.W.Frag) (wi : TI) (σ : L2.St) (w : Wd) (e : Rep α) (l : List α) : Prop := ∀ w1, Gr w w1 → ∀ R : It → Hp → Prop, (∀ J w2, Gr w1 w2 → Walks K J w2 e l → R J w2.H) → wi σ w1.H R
theorem ei_list (h : EvD K tl σ w (Rep.list e) l) : EvI K (iList K tl) σ w e l := fun w1 g R q =>
  h w1 g _ fun v w2 g2 x => by
    obtain ⟨a, xs, rfl, hs, hp⟩ := x
    refine ⟨a, rfl, ⟨xs, Evl.ex_l w2.ex hs⟩, q _ w2 g2 fun w3 x3 i => ⟨fun b hb => ?_, fun hi => ⟨xs, Evl.ex_l (x3.trans w3.ex) hs, by rw [paired_len hp]; exact hi⟩⟩⟩
    obtain ⟨v, hv, hr⟩ := paired_get hp hb
    refine ⟨⟨xs, v, Evl.ex_l (x3.trans w3.ex) hs, hv⟩, fun x H' hy => ?_⟩
    obtain ⟨rfl, f⟩ := hy
    have := f xs (Evl.ex_l (x3.trans w3.ex) hs)
    rw [hv] at this
    cases this
    exact ⟨w3, rfl, Gr.refl _, e.m x3 hr⟩
/-- lo, lo + 1, .. below hi -/
def irange (lo hi : Int) : List Int := (List.range (hi - lo).toNat).map fun (i : Nat) => lo + (i : Int)
theorem irange_get {lo hi : Int} {i : Nat} (h : lo + (i : Int) < hi) : (irange lo hi)[i]? = some (lo + (i : Int)) := by
  unfold irange
  rw [List.getElem?_map, List.getElem?_range (by omega)]; rfl
theorem irange_get' {lo hi a : Int} {i : Nat} (h : (irange lo hi)[i]? = some a) : a = lo + (i : Int) ∧ lo + (i : Int) < hi := by
  unfold irange at h
  rw [List.getElem?_map] at h
  cases q : (List.range (hi - lo).toNat)[i]? with
  | none => rw [q] at h; cases h
  | some j =>
    rw [q] at h
    have := List.getElem?_eq_some_iff.mp q
    obtain ⟨h1, h2⟩ := this
    rw [List.getElem_range] at h2
    rw [List.length_range] at h1
    cases h
    subst h2
    exact ⟨rfl, by omega⟩
theorem irange_len {lo hi : Int} : (irange lo hi).length = (hi - lo).toNat := by unfold irange; simp
theorem irange_mem {lo hi a : Int} : a ∈ irange lo hi ↔ lo ≤ a ∧ a < hi := by
  unfold irange
  simp only [List.mem_map, List.mem_range]
  constructor
  · rintro ⟨i, h, rfl⟩; omega
  · intro h; exact ⟨(a - lo).toNat, by omega, by omega⟩
theorem walks_rng (lo : Int) (n : Nat) (hi : Int) (hn : n = (hi - lo).toNat) : Walks K (Itr lo n) w Rep.int (irange lo hi) := fun w' _ i => ⟨fun a ha => by
    obtain ⟨rfl, h⟩ := irange_get' ha
    refine ⟨by show i < n; omega, fun x H' hy => ?_⟩
    obtain ⟨rfl, rfl⟩ := hy
    exact ⟨w', rfl, Gr.refl _, rfl⟩, fun hi => by rw [irange_len] at hi; show n ≤ i; omega⟩
theorem ei_range1 {n : Int} (h : EvD K te σ w Rep.int n) (hn : -100000 ≤ n ∧ n ≤ 100000) : EvI K (iRng1 (tCons te tNil)) σ w Rep.int (irange 0 n) := fun w1 g R q =>
  h w1 g _ fun v w2 g2 x => ⟨n, by rw [x], by omega, by omega, q _ w2 g2 (walks_rng 0 n.toNat n (by omega))⟩
theorem ei_range2 {lo n : Int} (h : EvD K ta σ w Rep.int lo) (h2 : EvD K tb σ w Rep.int n) (hn : -100000 ≤ lo ∧ lo ≤ 100000 ∧ -100000 ≤ n ∧ n ≤ 100000) : EvI K (iRng2 (tCons ta (tCons tb tNil))) σ w Rep.int (irange lo n) := fun w1 g R q =>
  h w1 g _ fun v w2 g2 x => h2 w2 (g.trans g2) _ fun v' w3 g3 x' => ⟨lo, n, by rw [x, x'], ⟨by omega, by omega, by omega, by omega⟩, q _ w3 (g2.trans g3) (walks_rng lo _ n rfl)⟩
/-- lo, lo + c, .. below hi -/
def srange (lo hi c : Int) : List Int := (List.range ((hi - lo + c - 1) / c).toNat).map fun (i : Nat) => lo + (i : Int) * c
theorem srange_get' {lo hi c a : Int} {i : Nat} (h : (srange lo hi c)[i]? = some a) : a = lo + (i : Int) * c ∧ i < ((hi - lo + c - 1) / c).toNat := by
  unfold srange at h
  rw [List.getElem?_map] at h
  cases q : (List.range ((hi - lo + c - 1) / c).toNat)[i]? with
  | none => rw [q] at h; cases h
  | some j =>
    rw [q] at h
    obtain ⟨h1, h2⟩ := List.getElem?_eq_some_iff.mp q
    rw [List.getElem_range] at h2
    rw [List.length_range] at h1
    cases h
    subst h2
    exact ⟨rfl, h1⟩
theorem srange_len {lo hi c : Int} : (srange lo hi c).length = ((hi - lo + c - 1) / c).toNat := by unfold srange; simp
theorem ei_range3 {lo hi c : Int} (h : EvD K ta σ w Rep.int lo) (h2 : EvD K tb σ w Rep.int hi) (h3 : EvD K tc σ w Rep.int c) (hc : RgC lo hi c ((hi - lo + c - 1) / c).toNat) : EvI K (iRng3 (tCons ta (tCons tb (tCons tc tNil)))) σ w Rep.int (srange lo hi c) := fun w1 g R q =>
  h w1 g _ fun v w2 g2 x => h2 w2 (g.trans g2) _ fun v' w3 g3 x' => h3 w3 ((g.trans g2).trans g3) _ fun v'' w4 g4 x'' =>
    ⟨lo, hi, c, _, by rw [x, x', x''], hc, q _ w4 ((g2.trans g3).trans g4) fun w' _ i => ⟨fun a ha => by
      obtain ⟨rfl, h⟩ := srange_get' ha
      refine ⟨h, fun x H' hy => ?_⟩
      obtain ⟨rfl, rfl⟩ := hy
      exact ⟨w', rfl, Gr.refl _, rfl⟩, fun hi => by rw [srange_len] at hi; exact hi⟩⟩
/-- enumerate -/
def enumI (l : List α) : List (Int × α) := l.zipIdx.map fun p => ((p.2 : Int), p.1)
theorem enumI_get {i : Nat} : (enumI l)[i]? = (l[i]?).map fun a => ((i : Int), a) := by
  unfold enumI
  rw [List.getElem?_map, List.getElem?_zipIdx]
  cases l[i]? <;> simp
theorem enumI_len : (enumI l).length = l.length := by unfold enumI; simp
theorem ei_enum (h : EvD K te σ w (Rep.list e) l) : EvI K (iEnum K (tCons te tNil)) σ w (Rep.pair Rep.int e) (enumI l) := fun w1 g R q =>
  h w1 g _ fun v w2 g2 x => by
    obtain ⟨a, xs, rfl, hs, hp⟩ := x
    refine ⟨a, xs, rfl, Evl.ex_l w2.ex hs, q _ w2 g2 fun w3 x3 i => ⟨fun b hb => ?_, fun hi => ⟨xs, Evl.ex_l (x3.trans w3.ex) hs, by rw [paired_len hp]; rw [enumI_len] at hi; exact hi⟩⟩⟩
    rw [enumI_get] at hb
    cases hl : l[i]? with
    | none => rw [hl] at hb; cases hb
    | some c =>
      rw [hl] at hb
      cases hb
      obtain ⟨v, hv, hr⟩ := paired_get hp hl
      refine ⟨⟨xs, v, Evl.ex_l (x3.trans w3.ex) hs, hv⟩, fun x H' hy => ?_⟩
      obtain ⟨T, y, rfl, nT, rfl, f⟩ := hy
      have := f xs (Evl.ex_l (x3.trans w3.ex) hs)
      rw [hv] at this
      cases this
      exact ⟨w3.put T _, rfl, gr_put nT, T, _, _, rfl, SqT.of put_s, rfl, e.m (x3.trans (gr_put nT).s) hr⟩
theorem ei_zip {m : List β} (h : EvD K ta σ w (Rep.list e) l) (h2 : EvD K tb σ w (Rep.list rb) m) : EvI K (iZip K (tCons ta (tCons tb tNil))) σ w (Rep.pair e rb) (l.zip m) := fun w1 g R q =>
  h w1 g _ fun v w2 g2 x => h2 w2 (g.trans g2) _ fun v' w3 g3 x' => by
    obtain ⟨a, xs, rfl, hs, hp⟩ := x
    obtain ⟨b, ys, rfl, hs', hp'⟩ := x'
    refine ⟨a, b, xs, ys, rfl, Evl.ex_l (g3.s.trans w3.ex) hs, Evl.ex_l w3.ex hs', q _ w3 (g2.trans g3) fun w4 x4 i => ⟨fun c hc => ?_, fun hi => ⟨xs, ys, Evl.ex_l ((g3.s.trans x4).trans w4.ex) hs, Evl.ex_l (x4.trans w4.ex) hs', by
      rw [paired_len hp, paired_len hp']; rw [List.length_zip] at hi; omega⟩⟩⟩
    obtain ⟨c1, c2⟩ := c
    obtain ⟨h1, h2⟩ := List.getElem?_zip_eq_some.mp hc
    obtain ⟨v, hv, hr⟩ := paired_get hp h1
    obtain ⟨v', hv', hr'⟩ := paired_get hp' h2
    refine ⟨⟨xs, ys, v, v', Evl.ex_l ((g3.s.trans x4).trans w4.ex) hs, Evl.ex_l (x4.trans w4.ex) hs', hv, hv'⟩, fun x H' hy => ?_⟩
    obtain ⟨T, y, z, rfl, nT, rfl, f, f'⟩ := hy
    have q1 := f xs (Evl.ex_l ((g3.s.trans x4).trans w4.ex) hs)
    have q2 := f' ys (Evl.ex_l (x4.trans w4.ex) hs')
    rw [hv] at q1
    rw [hv'] at q2
    cases q1; cases q2
    exact ⟨w4.put T _, rfl, gr_put nT, T, _, _, rfl, SqT.of put_s, e.m ((g3.s.trans x4).trans (gr_put nT).s) hr, rb.m (x4.trans (gr_put nT).s) hr'⟩
/-- a target of two names -/
theorem g_pair {n : Nat} {i j : Nat} {x : α × β} {v : V} {Q : L2.St → Hp → Prop} (h : (Rep.pair r rb).r K w.S v x) (hn : n = 2) (k : ∀ v1 v2, r.r K w.S v1 x.1 → rb.r K w.S v2 x.2 → Q ((σ.set i (some v1)).set j (some v2)) w.H) : gTup K n (gCons (gName i) (gCons (gName j) gNil)) v σ w.H Q := by
  obtain ⟨a, u, z, rfl, hs, h1, h2⟩ := h
  exact ⟨a, [u, z], rfl, Evl.ex_t w.ex hs, hn.symm, u, [z], rfl, z, [], rfl, rfl, k u z h1 h2⟩
theorem en_given (hL : l.length ≤ 100000) {wi : TI} {g : TG} {vs : List Nat} {e' : Rep β} (f : α → Bool) (gg : α → β) (h : EvI K wi σ w e l)
    (hb : ∀ a v w', a ∈ l → Gr w w' → e.r K w'.S v a → ∀ Q : L2.St → Hp → Prop, (∀ σ2 w2, Gr w' w2 → wipe σ2 vs = wipe σ vs → EvT K t σ2 w2 (f a) → (f a = true → EvD K te σ2 w2 e' (gg a)) → Q σ2 w2.H) → g v (wipe σ vs) w'.H Q) :
    EvN K (tLc wi g t te vs) σ w e' ((l.filter f).map gg) := fun w1 g1 Q q => h w1 g1 _ fun J w2 g2 hJ Dl hD => by
  refine ⟨fun i m H => m = l.length - i ∧ i ≤ l.length ∧ ∃ w' : Wd, w'.H = H ∧ Gr w2 w' ∧ OwnL K w' Dl e' (((l.take i).filter f).map gg), ⟨l.length, by simp, Nat.zero_le _, w2.new Dl _ hD, rfl, gr_new hD, [], own_new hD, .nil⟩, ?_⟩
  rintro i m H ⟨rfl, hi, w', rfl, g3, o⟩
  obtain ⟨j1, j2⟩ := hJ w' g3.s i
  by_cases hlt : i < l.length
  · have hget : l[i]? = some l[i] := by simp [hlt]
    obtain ⟨hgo, hy⟩ := j1 _ hget
    have htk : l.take (i + 1) = l.take i ++ [l[i]] := by rw [List.take_add_one, hget]; rfl
    refine .inr ⟨hgo, fun H => ∃ w4 : Wd, w4.H = H ∧ Gr w2 w4 ∧ OwnL K w4 Dl e' (((l.take (i + 1)).filter f).map gg), fun H' hN => ⟨l.length - (i + 1), by omega, rfl, hlt, hN⟩, fun x H' hx => ?_⟩
    obtain ⟨w4, rfl, g4, hr⟩ := hy x H' hx
    refine hb _ x w4 (List.getElem_mem hlt) ((g1.trans g2).trans (g3.trans g4)) hr _ fun σ2 w5 g5 hw ht he => ⟨hw, ht.run fun w6 g6 => ?_⟩
    have o6 := o.gr ((g4.trans g5).trans g6)
    have g26 : Gr w2 w6 := ((g3.trans g4).trans g5).trans g6
    cases hf : f l[i] with
    | true =>
      refine (he hf).gr g6 |>.run fun v w7 g7 hv => ?_
      obtain ⟨xs, ow, hp⟩ := o6.gr g7
      have hle : (List.filter f (List.take i l)).length ≤ i := Nat.le_trans (List.length_filter_le _ _) (by rw [List.length_take]; omega)
      refine ⟨xs, ow.h, ?_, w7.set Dl _ ow.s, rfl, (mt_set ow.s).gr w2 (g26.trans g7) hD, xs ++ [v], own_set ow.s, ?_⟩
      · rw [paired_len hp, List.length_map]
        exact sz5' (by omega)
      · rw [htk, List.filter_append, List.map_append, List.filter_cons, if_pos hf]
        exact paired_app hp (.cons hv .nil)
    | false =>
      refine ⟨w6, rfl, g26, ?_⟩
      rw [htk, List.filter_append, List.map_append, List.filter_cons, if_neg (by rw [hf]; decide)]
      simpa using o6
  · have e0 : i = l.length := by omega
    subst e0
    rw [List.take_length] at o
    exact .inl ⟨j2 (Nat.le_refl _), q Dl w' (g2.trans g3) (fr_back g2 hD) o⟩
/-- [e for x in ..] -/
theorem en_lc (hL : l.length ≤ 100000) {wi : TI} {j : Nat} {vs : List Nat} {e' : Rep β} (gg : α → β) (h : EvI K wi σ w e l) (hw : ∀ x, wipe ((wipe σ vs).set j (some x)) vs = wipe σ vs)
    (hb : ∀ a v w', a ∈ l → Gr w w' → e.r K w'.S v a → EvD K te ((wipe σ vs).set j (some v)) w' e' (gg a)) :
    EvN K (tLc wi (gName j) tYes te vs) σ w e' (l.map gg) := by
  have := en_given (t := tYes) (te := te) hL (g := gName j) (vs := vs) (e' := e') (fun _ => true) gg h fun a v w' ha g1 hr Q q => q _ w' (Gr.refl _) (hw v) et_yes fun _ => hb a v w' ha g1 hr
  rw [List.filter_eq_self.mpr fun _ _ => rfl] at this
  exact this
theorem en_lcIf (hL : l.length ≤ 100000) {wi : TI} {j : Nat} {vs : List Nat} {e' : Rep β} (f : α → Bool) (gg : α → β) (h : EvI K wi σ w e l) (hw : ∀ x, wipe ((wipe σ vs).set j (some x)) vs = wipe σ vs)
    (ht : ∀ a v w', a ∈ l → Gr w w' → e.r K w'.S v a → EvT K t ((wipe σ vs).set j (some v)) w' (f a))
    (hb : ∀ a v w', a ∈ l → f a = true → Gr w w' → e.r K w'.S v a → EvD K te ((wipe σ vs).set j (some v)) w' e' (gg a)) :
    EvN K (tLc wi (gName j) t te vs) σ w e' ((l.filter f).map gg) :=
  en_given hL f gg h fun a v w' ha g1 hr Q q => q _ w' (Gr.refl _) (hw v) (ht a v w' ha g1 hr) fun hf => hb a v w' ha hf g1 hr
/-- [e for x, y in ..] -/
theorem en_lc2 {l : List (α × γ)} (hL : l.length ≤ 100000) {wi : TI} {i j n : Nat} {vs : List Nat} {e' : Rep β} (gg : α × γ → β) (h : EvI K wi σ w (Rep.pair e rc) l) (hw : ∀ x y, wipe (((wipe σ vs).set i (some x)).set j (some y)) vs = wipe σ vs) (hn : n = 2)
    (hb : ∀ a v v' w', a ∈ l → Gr w w' → e.r K w'.S v a.1 → rc.r K w'.S v' a.2 → EvD K te (((wipe σ vs).set i (some v)).set j (some v')) w' e' (gg a)) :
    EvN K (tLc wi (gTup K n (gCons (gName i) (gCons (gName j) gNil))) tYes te vs) σ w e' (l.map gg) := by
  have := en_given (t := tYes) (te := te) hL (g := gTup K n (gCons (gName i) (gCons (gName j) gNil))) (vs := vs) (e' := e') (fun _ => true) gg h fun a v w' ha g1 hr Q q => g_pair hr hn fun v1 v2 h1 h2 => q _ w' (Gr.refl _) (hw v1 v2) et_yes fun _ => hb a v1 v2 w' ha g1 h1 h2
  rw [List.filter_eq_self.mpr fun _ _ => rfl] at this
  exact this
theorem en_lc2If {l : List (α × γ)} (hL : l.length ≤ 100000) {wi : TI} {i j n : Nat} {vs : List Nat} {e' : Rep β} (f : α × γ → Bool) (gg : α × γ → β) (h : EvI K wi σ w (Rep.pair e rc) l) (hw : ∀ x y, wipe (((wipe σ vs).set i (some x)).set j (some y)) vs = wipe σ vs) (hn : n = 2)
    (ht : ∀ a v v' w', a ∈ l → Gr w w' → e.r K w'.S v a.1 → rc.r K w'.S v' a.2 → EvT K t (((wipe σ vs).set i (some v)).set j (some v')) w' (f a))
    (hb : ∀ a v v' w', a ∈ l → f a = true → Gr w w' → e.r K w'.S v a.1 → rc.r K w'.S v' a.2 → EvD K te (((wipe σ vs).set i (some v)).set j (some v')) w' e' (gg a)) :
    EvN K (tLc wi (gTup K n (gCons (gName i) (gCons (gName j) gNil))) t te vs) σ w e' ((l.filter f).map gg) :=
  en_given hL f gg h fun a v w' ha g1 hr Q q => g_pair hr hn fun v1 v2 h1 h2 => q _ w' (Gr.refl _) (hw v1 v2) (ht a v1 v2 w' ha g1 h1 h2) fun hf => hb a v1 v2 w' ha hf g1 h1 h2

/-! ### statements -/
variable {D : Ends} {tu tw tz : TS} {g : TG}
theorem q_asg {i : Nat} (h : EvD K te σ w r a) (k : ∀ v w', Gr w w' → r.r K w'.S v a → tz D (σ.set i (some v)) w'.H) : tSeq (tAsg te (gName i)) tz D σ w.H := h.run k
theorem s_asg {i : Nat} (h : EvD K te σ w r a) (k : ∀ v w', Gr w w' → r.r K w'.S v a → D.nx (σ.set i (some v)) w'.H) : tAsg te (gName i) D σ w.H := h.run k
theorem q_asgN {i : Nat} (h : EvN K te σ w e l) (k : ∀ p w', Gr w w' → w.H p = none → OwnL K w' p e l → tz D (σ.set i (some (.ref p))) w'.H) : tSeq (tAsg te (gName i)) tz D σ w.H := h.run k
theorem s_asgN {i : Nat} (h : EvN K te σ w e l) (k : ∀ p w', Gr w w' → w.H p = none → OwnL K w' p e l → D.nx (σ.set i (some (.ref p))) w'.H) : tAsg te (gName i) D σ w.H := h.run k
theorem s_ret (h : EvD K te σ w r a) (k : ∀ v w', Gr w w' → r.r K w'.S v a → D.rt v w'.H) : tRet te D σ w.H := h.run k
theorem s_retN (h : EvN K te σ w e l) (k : ∀ p w', Gr w w' → w.H p = none → OwnL K w' p e l → D.rt (.ref p) w'.H) : tRet te D σ w.H := h.run k
/-- the name of an own list is returned -/
theorem s_retO {i : Nat} {p : Addr} (h : σ[i]? = some (some (.ref p))) (k : D.rt (.ref p) w.H) : tRet (tVar i) D σ w.H := ⟨_, h, k⟩
theorem q_if {b : Bool} (h : EvT K t σ w b) (h1 : b = true → ∀ w', Gr w w' → tu { D with nx := tz D } σ w'.H) (h2 : b = false → ∀ w', Gr w w' → tw { D with nx := tz D } σ w'.H) : tSeq (tIfS t tu tw) tz D σ w.H := h.run fun w' g => by
  cases b with
  | true => exact h1 rfl w' g
  | false => exact h2 rfl w' g
theorem s_if {b : Bool} (h : EvT K t σ w b) (h1 : b = true → ∀ w', Gr w w' → tu D σ w'.H) (h2 : b = false → ∀ w', Gr w w' → tw D σ w'.H) : tIfS t tu tw D σ w.H := h.run fun w' g => by
  cases b with
  | true => exact h1 rfl w' g
  | false => exact h2 rfl w' g
theorem q_when {b : Bool} (h : EvT K t σ w b) (h1 : b = true → ∀ w', Gr w w' → tu { D with nx := tz D } σ w'.H) (h2 : b = false → ∀ w', Gr w w' → tz D σ w'.H) : tSeq (tIfS t tu tNext) tz D σ w.H := q_if h h1 h2
theorem s_when {b : Bool} (h : EvT K t σ w b) (h1 : b = true → ∀ w', Gr w w' → tu D σ w'.H) (h2 : b = false → ∀ w', Gr w w' → D.nx σ w'.H) : tIfS t tu tNext D σ w.H := s_if h h1 h2
theorem q_drop (h : EvD K te σ w r a) (k : ∀ w', Gr w w' → tz D σ w'.H) : tSeq (tDrop te) tz D σ w.H := h.run fun _ w' g _ => k w' g
theorem s_drop (h : EvD K te σ w r a) (k : ∀ w', Gr w w' → D.nx σ w'.H) : tDrop te D σ w.H := h.run fun _ w' g _ => k w' g
theorem q_aug {i : Nat} {f : Int → Int → Int} {x y : Int} (hx : σ[i]? = some (some (.int x))) (h : EvD K te σ w Rep.int y) (k : ∀ w', Gr w w' → tz D (σ.set i (some (.int (f x y)))) w'.H) : tSeq (tAug i te (ipI f)) tz D σ w.H :=
  ⟨.int x, hx, h.run fun v w' g e => ⟨x, y, rfl, e, k w' g⟩⟩
theorem s_aug {i : Nat} {f : Int → Int → Int} {x y : Int} (hx : σ[i]? = some (some (.int x))) (h : EvD K te σ w Rep.int y) (k : ∀ w', Gr w w' → D.nx (σ.set i (some (.int (f x y)))) w'.H) : tAug i te (ipI f) D σ w.H :=
  ⟨.int x, hx, h.run fun v w' g e => ⟨x, y, rfl, e, k w' g⟩⟩
/-- a, b = e, e' -/
theorem q_par {i j : Nat} {b : β} (h : EvD K ta σ w r a) (h2 : EvD K tb σ w rb b) (k : ∀ v v' w', Gr w w' → r.r K w'.S v a → rb.r K w'.S v' b → tz D ((σ.set i (some v)).set j (some v')) w'.H) : tSeq (tPar i j (tCons ta (tCons tb tNil))) tz D σ w.H :=
  h w (Gr.refl _) _ fun v w2 g2 x => h2 w2 g2 _ fun v' w3 g3 y => ⟨v, v', rfl, k v v' w3 (g2.trans g3) (r.m g3.s x) y⟩
theorem q_parN {i j : Nat} (h : EvD K ta σ w r a) (h2 : EvN K tb σ w e l) (k : ∀ v p w', Gr w w' → r.r K w'.S v a → w.H p = none → OwnL K w' p e l → tz D ((σ.set i (some v)).set j (some (.ref p))) w'.H) : tSeq (tPar i j (tCons ta (tCons tb tNil))) tz D σ w.H :=
  h w (Gr.refl _) _ fun v w2 g2 x => h2 w2 g2 _ fun p w3 g3 n y => ⟨v, .ref p, rfl, k v p w3 (g2.trans g3) (r.m g3.s x) (fr_back g2 n) y⟩
theorem q_parNN {i j : Nat} {m : List β} (h : EvN K ta σ w e l) (h2 : EvN K tb σ w rb m) (k : ∀ p p' w', Gr w w' → w.H p = none → w.H p' = none → p ≠ p' → OwnL K w' p e l → OwnL K w' p' rb m → tz D ((σ.set i (some (.ref p))).set j (some (.ref p'))) w'.H) : tSeq (tPar i j (tCons ta (tCons tb tNil))) tz D σ w.H :=
  h w (Gr.refl _) _ fun p w2 g2 n o => h2 w2 g2 _ fun p' w3 g3 n' y => ⟨.ref p, .ref p', rfl, k p p' w3 (g2.trans g3) n (fr_back g2 n') (fun z => o.apart n' z.symm) (o.gr g3) y⟩
theorem q_parNV {i j : Nat} {b : β} (h : EvN K ta σ w e l) (h2 : EvD K tb σ w rb b) (k : ∀ p v w', Gr w w' → w.H p = none → OwnL K w' p e l → rb.r K w'.S v b → tz D ((σ.set i (some (.ref p))).set j (some v)) w'.H) : tSeq (tPar i j (tCons ta (tCons tb tNil))) tz D σ w.H :=
  h w (Gr.refl _) _ fun p w2 g2 n o => h2 w2 g2 _ fun v w3 g3 y => ⟨.ref p, v, rfl, k p v w3 (g2.trans g3) n (o.gr g3) y⟩
/-- a, b = e, e a pair -/
theorem q_unpack {i j n : Nat} {x : α × β} (h : EvD K te σ w (Rep.pair r rb) x) (hn : n = 2) (k : ∀ v v' w', Gr w w' → r.r K w'.S v x.1 → rb.r K w'.S v' x.2 → tz D ((σ.set i (some v)).set j (some v')) w'.H) : tSeq (tAsg te (gTup K n (gCons (gName i) (gCons (gName j) gNil)))) tz D σ w.H :=
  h.run fun v w' g hr => g_pair hr hn fun v1 v2 h1 h2 => k v1 v2 w' g h1 h2
/-- xs.append(e) -/
theorem app_core {p : Addr} {Q : VK} (o : OwnL K w p e l) (he : e.r K w.S v a) (hz : l.length < 100000) (k : ∀ w', Mt p w w' → OwnL K w' p e (l ++ [a]) → Q .non w'.H) : rAppend (.ref p) [v] w.H Q := by
  obtain ⟨xs, ow, hp⟩ := o
  exact ⟨p, xs, v, rfl, rfl, ow.h, by rw [paired_len hp]; exact sz5' hz, k (w.set p _ ow.s) (mt_set ow.s) ⟨_, own_set ow.s, paired_app hp (.cons he .nil)⟩⟩
theorem app_run {i : Nat} {p : Addr} {Q : VK} (o : OwnL K w p e l) (hi : σ[i]? = some (some (.ref p))) (he : EvD K te σ w e a) (hz : l.length < 100000) (k : ∀ w', Mt p w w' → OwnL K w' p e (l ++ [a]) → Q .non w'.H) : tBM K "list" rAppend (tVar i) (tCons te tNil) σ w.H Q := by
  obtain ⟨xs, ow, hp⟩ := id o
  exact ⟨_, hi, .inl ⟨rfl, _, SqL.of ow.h⟩, he.run fun v w2 g2 hv => app_core (o.gr g2) hv hz fun w3 m3 o3 => k w3 ((g2.mt o.ne).trans m3) o3⟩
theorem q_app {i : Nat} {p : Addr} (o : OwnL K w p e l) (hi : σ[i]? = some (some (.ref p))) (he : EvD K te σ w e a) (hz : l.length < 100000) (k : ∀ w', Mt p w w' → OwnL K w' p e (l ++ [a]) → tz D σ w'.H) : tSeq (tDrop (tBM K "list" rAppend (tVar i) (tCons te tNil))) tz D σ w.H := app_run o hi he hz k
theorem s_app {i : Nat} {p : Addr} (o : OwnL K w p e l) (hi : σ[i]? = some (some (.ref p))) (he : EvD K te σ w e a) (hz : l.length < 100000) (k : ∀ w', Mt p w w' → OwnL K w' p e (l ++ [a]) → D.nx σ w'.H) : tDrop (tBM K "list" rAppend (tVar i) (tCons te tNil)) D σ w.H := app_run o hi he hz k
/-- xs[k] = e -/
theorem set_run {i : Nat} {p : Addr} {x : Int} {Q : L2.St → Hp → Prop} (o : OwnL K w p e l) (hi : σ[i]? = some (some (.ref p))) (he : EvD K te σ w e a) (hx : EvD K tb σ w Rep.int x) (hb : 0 ≤ x ∧ x < l.length) (k : ∀ w', Mt p w w' → OwnL K w' p e (l.set x.toNat a) → Q σ w'.H) : te σ w.H fun y H1 => gSub (tVar i) tb rSetL y σ H1 Q := by
  refine he.run fun v w2 g2 hv => ⟨_, hi, (hx.gr g2).run fun v' w3 g3 hx' => ?_⟩
  cases hx'
  obtain ⟨xs, ow, hp⟩ := (o.gr g2).gr g3
  refine ⟨p, xs, x, x.toNat, rfl, rfl, ow.h, ?_, ?_⟩
  · have : x = (x.toNat : Int) := by omega
    rw [this, Evl.ixN_nat (by rw [paired_len hp]; omega)]; rfl
  · exact k (w3.set p _ ow.s) (((g2.trans g3).mt o.ne).trans (mt_set ow.s)) ⟨_, own_set ow.s, paired_set (e.m g3.s hv) _ hp⟩
theorem q_set {i : Nat} {p : Addr} {x : Int} (o : OwnL K w p e l) (hi : σ[i]? = some (some (.ref p))) (he : EvD K te σ w e a) (hx : EvD K tb σ w Rep.int x) (hb : 0 ≤ x ∧ x < l.length) (k : ∀ w', Mt p w w' → OwnL K w' p e (l.set x.toNat a) → tz D σ w'.H) : tSeq (tAsg te (gSub (tVar i) tb rSetL)) tz D σ w.H := set_run (Q := tz D) o hi he hx hb k
theorem s_set {i : Nat} {p : Addr} {x : Int} (o : OwnL K w p e l) (hi : σ[i]? = some (some (.ref p))) (he : EvD K te σ w e a) (hx : EvD K tb σ w Rep.int x) (hb : 0 ≤ x ∧ x < l.length) (k : ∀ w', Mt p w w' → OwnL K w' p e (l.set x.toNat a) → D.nx σ w'.H) : tAsg te (gSub (tVar i) tb rSetL) D σ w.H := set_run (Q := D.nx) o hi he hx hb k
/-- an own list's item -/
theorem ev_var_ref {i : Nat} {p : Addr} {Q : VK} (hi : σ[i]? = some (some (.ref p))) {H : Hp} (k : Q (.ref p) H) : tVar i σ H Q := ⟨_, hi, k⟩
theorem ev_ixO {i : Nat} {p : Addr} {x : Int} {b : α} (o : OwnL K w p e l) (hi : σ[i]? = some (some (.ref p))) (hx : EvD K tb σ w Rep.int x) (hb : atI l x = some b) : EvD K (tOp (rIxL K) (tVar i) tb) σ w e b := fun w1 g Q q =>
  ⟨_, hi, hx w1 g _ fun v w2 g2 hv => by
    cases hv
    obtain ⟨xs, ow, hp⟩ := (o.gr g).gr g2
    unfold atI at hb
    obtain ⟨j, hj, hb⟩ := Option.bind_eq_some_iff.mp hb
    obtain ⟨v, hv, hr⟩ := paired_get hp hb
    refine ⟨p, xs, x, v, rfl, rfl, SqL.of ow.h, ?_, q v w2 g2 hr⟩
    unfold atI
    rw [paired_len hp, hj]
    exact hv⟩
/-! ### loops -/
def Nxt (I : L2.St → Wd → Prop) (w : Wd) : L2.St → Hp → Prop := fun σ H => ∃ w' : Wd, w'.H = H ∧ Ex w.S w'.S ∧ I σ w'
theorem for_core {wi : TI} {tb : TS} (h : EvI K wi σ w e l) (I : Nat → L2.St → Wd → Prop) (h0 : ∀ w1, Gr w w1 → I 0 σ w1)
    (hs : ∀ i a v σ' w' w2, l[i]? = some a → Ex w.S w'.S → I i σ' w' → Gr w' w2 → e.r K w2.S v a → g v σ' w2.H fun σ2 H2 => tb { D with nx := Nxt (I (i + 1)) w', ct := Nxt (I (i + 1)) w', bk := D.nx } σ2 H2)
    (hd : ∀ σ' w', Ex w.S w'.S → I l.length σ' w' → D.nx σ' w'.H) : tFor wi g tb D σ w.H := h w (Gr.refl _) _ fun J w1 g1 hJ => by
  refine ⟨fun i m σ H => m = l.length - i ∧ i ≤ l.length ∧ ∃ w' : Wd, w'.H = H ∧ Ex w1.S w'.S ∧ I i σ w', ⟨l.length, by simp, Nat.zero_le _, w1, rfl, exr _, h0 w1 g1⟩, ?_⟩
  rintro i m σ' H ⟨rfl, hi, w', rfl, x1, hI⟩
  obtain ⟨j1, j2⟩ := hJ w' x1 i
  by_cases hlt : i < l.length
  · have hget : l[i]? = some l[i] := by simp [hlt]
    obtain ⟨hgo, hy⟩ := j1 _ hget
    refine .inr ⟨hgo, Nxt (I (i + 1)) w', fun σ2 H2 hN => ?_, fun x H' hx => ?_⟩
    · obtain ⟨w3, e3, x3, i3⟩ := hN
      exact ⟨l.length - (i + 1), by omega, rfl, hlt, w3, e3, x1.trans x3, i3⟩
    · obtain ⟨w4, rfl, g4, hr⟩ := hy x H' hx
      exact hs i _ x σ' w' w4 hget (g1.s.trans x1) hI g4 hr
  · have e0 : i = l.length := by omega
    subst e0
    exact .inl ⟨j2 (Nat.le_refl _), hd σ' w' (g1.s.trans x1) hI⟩
end
end WK

/-! WK, part 3: promises of defs by what their values stand for; loops of names. -/
namespace WK
open PySem PySem.Spec PyProof.Rows L2
def spD0 {γ : Type} (K : PySem.W.Frag)  (pre : Prop) (rc : Rep γ) (f : γ) : Sp := fun vs H Q _ => ∃ (wd : Wd), wd.H = H ∧ vs = [] ∧ pre ∧ (∀ v w', Gr wd w' → rc.r K w'.S v f → Q v w'.H)
theorem ev_call0 {γ : Type}  {pre : Prop} {rc : Rep γ} {f : γ}  {σ : L2.St} {w : Wd} {K : PySem.W.Frag} {E : XK}  (hp : pre) : EvD K (tCall (spD0 K  pre rc f) [] E tNil) σ w rc f := fun w1 g Q q =>
  ⟨w1, rfl, rfl, hp, fun v w' g' x => q v w' ((Gr.refl _).trans g') x⟩
theorem okD0 {γ : Type}  {pre : Prop} {rc : Rep γ} {f : γ} {P : Program} {w : World} {K : PySem.W.Frag} {mg : Str → Option Value} {base : Heap} {x qual : Str} {params : Arguments} {body : List Stmt} {scope : Scope} {dvs : List V} {kws : List (Str × V)} {fa : Addr} {fd : FuncData} {CX : CXT} {N ps : List Str} {k : Nat}
    (F : FunD K x qual params body scope dvs kws fa fd) (S : FnScope N ps scope) (hl : ps.length = 0)
    (hb : ∀ (cdv : Value) (A : Around) (outer : List Env) (s : Shared) (H : Hp) (E : XK), Room k (A.deeper (envOfC qual scope s.heap.objs.size fa cdv)) → ∃ t, PSs (cxOf CX P w K mg base N qual scope fa cdv A outer s H E).nox body t ∧
      ∀ (wd : Wd) (Q : VK), pre → (∀ v w', Gr wd w' → rc.r K w'.S v f → Q v w'.H) → t { nx := fun _ H' => Q .non H', rt := Q } (start N []) wd.H) : FnOk P w K mg base CX (k + 1) fa fd ps (spD0 K  pre rc f) :=
  FunD.ok F S (fun vs H Q E h => by obtain ⟨wd, hw, hv, _⟩ := h; rw [hl, hv] <;> rfl) fun cdv A outer s H vs Q E hr h => by
    obtain ⟨t, ht, hq⟩ := hb cdv A outer s H E hr
    obtain ⟨wd, hw, hv, hp, q⟩ := h
    subst hv; subst hw
    exact ⟨t, PSs.nox ht, hq wd Q hp q⟩
def spN0 {γ : Type} (K : PySem.W.Frag)  (pre : Prop) (rc : Rep γ) (f : List γ) : Sp := fun vs H Q _ => ∃ (wd : Wd), wd.H = H ∧ vs = [] ∧ pre ∧ (∀ p w', Gr wd w' → wd.H p = none → OwnL K w' p rc f → Q (.ref p) w'.H)
theorem en_call0 {γ : Type}  {pre : Prop} {rc : Rep γ} {f : List γ}  {σ : L2.St} {w : Wd} {K : PySem.W.Frag} {E : XK}  (hp : pre) : EvN K (tCall (spN0 K  pre rc f) [] E tNil) σ w rc f := fun w1 g Q q =>
  ⟨w1, rfl, rfl, hp, fun p w' g' n x => q p w' ((Gr.refl _).trans g') (fr_back (Gr.refl _) n) x⟩
theorem okN0 {γ : Type}  {pre : Prop} {rc : Rep γ} {f : List γ} {P : Program} {w : World} {K : PySem.W.Frag} {mg : Str → Option Value} {base : Heap} {x qual : Str} {params : Arguments} {body : List Stmt} {scope : Scope} {dvs : List V} {kws : List (Str × V)} {fa : Addr} {fd : FuncData} {CX : CXT} {N ps : List Str} {k : Nat}
    (F : FunD K x qual params body scope dvs kws fa fd) (S : FnScope N ps scope) (hl : ps.length = 0)
    (hb : ∀ (cdv : Value) (A : Around) (outer : List Env) (s : Shared) (H : Hp) (E : XK), Room k (A.deeper (envOfC qual scope s.heap.objs.size fa cdv)) → ∃ t, PSs (cxOf CX P w K mg base N qual scope fa cdv A outer s H E).nox body t ∧
      ∀ (wd : Wd) (Q : VK), pre → (∀ p w', Gr wd w' → wd.H p = none → OwnL K w' p rc f → Q (.ref p) w'.H) → t { nx := fun _ H' => Q .non H', rt := Q } (start N []) wd.H) : FnOk P w K mg base CX (k + 1) fa fd ps (spN0 K  pre rc f) :=
  FunD.ok F S (fun vs H Q E h => by obtain ⟨wd, hw, hv, _⟩ := h; rw [hl, hv] <;> rfl) fun cdv A outer s H vs Q E hr h => by
    obtain ⟨t, ht, hq⟩ := hb cdv A outer s H E hr
    obtain ⟨wd, hw, hv, hp, q⟩ := h
    subst hv; subst hw
    exact ⟨t, PSs.nox ht, hq wd Q hp q⟩
def spD1 {α0 γ : Type} (K : PySem.W.Frag) (r0 : Rep α0) (pre : α0 → Prop) (rc : Rep γ) (f : α0 → γ) : Sp := fun vs H Q _ => ∃ (wd : Wd) (x0 : V) (a0 : α0), wd.H = H ∧ vs = [x0] ∧ r0.r K wd.S x0 a0 ∧ pre a0 ∧ (∀ v w', Gr wd w' → rc.r K w'.S v (f a0) → Q v w'.H)
theorem ev_call1 {α0 γ : Type} {r0 : Rep α0} {pre : α0 → Prop} {rc : Rep γ} {f : α0 → γ} {a0 : α0} {t0 : TE} {σ : L2.St} {w : Wd} {K : PySem.W.Frag} {E : XK} (h0 : EvD K t0 σ w r0 a0) (hp : pre a0) : EvD K (tCall (spD1 K r0 pre rc f) [] E (tCons t0 tNil)) σ w rc (f a0) := fun w1 g Q q =>
  h0 w1 (g) _ fun v0 u0 k0 z0 => ⟨u0, _, _, rfl, rfl, z0, hp, fun v w' g' x => q v w' ((k0).trans g') x⟩
theorem okD1 {α0 γ : Type} {r0 : Rep α0} {pre : α0 → Prop} {rc : Rep γ} {f : α0 → γ} {P : Program} {w : World} {K : PySem.W.Frag} {mg : Str → Option Value} {base : Heap} {x qual : Str} {params : Arguments} {body : List Stmt} {scope : Scope} {dvs : List V} {kws : List (Str × V)} {fa : Addr} {fd : FuncData} {CX : CXT} {N ps : List Str} {k : Nat}
    (F : FunD K x qual params body scope dvs kws fa fd) (S : FnScope N ps scope) (hl : ps.length = 1)
    (hb : ∀ (cdv : Value) (A : Around) (outer : List Env) (s : Shared) (H : Hp) (E : XK), Room k (A.deeper (envOfC qual scope s.heap.objs.size fa cdv)) → ∃ t, PSs (cxOf CX P w K mg base N qual scope fa cdv A outer s H E).nox body t ∧
      ∀ (wd : Wd) (x0 : V) (a0 : α0) (Q : VK), r0.r K wd.S x0 a0 → pre a0 → (∀ v w', Gr wd w' → rc.r K w'.S v (f a0) → Q v w'.H) → t { nx := fun _ H' => Q .non H', rt := Q } (start N [x0]) wd.H) : FnOk P w K mg base CX (k + 1) fa fd ps (spD1 K r0 pre rc f) :=
  FunD.ok F S (fun vs H Q E h => by obtain ⟨wd, x0, a0, hw, hv, _⟩ := h; rw [hl, hv] <;> rfl) fun cdv A outer s H vs Q E hr h => by
    obtain ⟨t, ht, hq⟩ := hb cdv A outer s H E hr
    obtain ⟨wd, x0, a0, hw, hv, q0, hp, q⟩ := h
    subst hv; subst hw
    exact ⟨t, PSs.nox ht, hq wd x0 a0 Q q0 hp q⟩
def spN1 {α0 γ : Type} (K : PySem.W.Frag) (r0 : Rep α0) (pre : α0 → Prop) (rc : Rep γ) (f : α0 → List γ) : Sp := fun vs H Q _ => ∃ (wd : Wd) (x0 : V) (a0 : α0), wd.H = H ∧ vs = [x0] ∧ r0.r K wd.S x0 a0 ∧ pre a0 ∧ (∀ p w', Gr wd w' → wd.H p = none → OwnL K w' p rc (f a0) → Q (.ref p) w'.H)
theorem en_call1 {α0 γ : Type} {r0 : Rep α0} {pre : α0 → Prop} {rc : Rep γ} {f : α0 → List γ} {a0 : α0} {t0 : TE} {σ : L2.St} {w : Wd} {K : PySem.W.Frag} {E : XK} (h0 : EvD K t0 σ w r0 a0) (hp : pre a0) : EvN K (tCall (spN1 K r0 pre rc f) [] E (tCons t0 tNil)) σ w rc (f a0) := fun w1 g Q q =>
  h0 w1 (g) _ fun v0 u0 k0 z0 => ⟨u0, _, _, rfl, rfl, z0, hp, fun p w' g' n x => q p w' ((k0).trans g') (fr_back (k0) n) x⟩
theorem okN1 {α0 γ : Type} {r0 : Rep α0} {pre : α0 → Prop} {rc : Rep γ} {f : α0 → List γ} {P : Program} {w : World} {K : PySem.W.Frag} {mg : Str → Option Value} {base : Heap} {x qual : Str} {params : Arguments} {body : List Stmt} {scope : Scope} {dvs : List V} {kws : List (Str × V)} {fa : Addr} {fd : FuncData} {CX : CXT} {N ps : List Str} {k : Nat}
    (F : FunD K x qual params body scope dvs kws fa fd) (S : FnScope N ps scope) (hl : ps.length = 1)
    (hb : ∀ (cdv : Value) (A : Around) (outer : List Env) (s : Shared) (H : Hp) (E : XK), Room k (A.deeper (envOfC qual scope s.heap.objs.size fa cdv)) → ∃ t, PSs (cxOf CX P w K mg base N qual scope fa cdv A outer s H E).nox body t ∧
      ∀ (wd : Wd) (x0 : V) (a0 : α0) (Q : VK), r0.r K wd.S x0 a0 → pre a0 → (∀ p w', Gr wd w' → wd.H p = none → OwnL K w' p rc (f a0) → Q (.ref p) w'.H) → t { nx := fun _ H' => Q .non H', rt := Q } (start N [x0]) wd.H) : FnOk P w K mg base CX (k + 1) fa fd ps (spN1 K r0 pre rc f) :=
  FunD.ok F S (fun vs H Q E h => by obtain ⟨wd, x0, a0, hw, hv, _⟩ := h; rw [hl, hv] <;> rfl) fun cdv A outer s H vs Q E hr h => by
    obtain ⟨t, ht, hq⟩ := hb cdv A outer s H E hr
    obtain ⟨wd, x0, a0, hw, hv, q0, hp, q⟩ := h
    subst hv; subst hw
    exact ⟨t, PSs.nox ht, hq wd x0 a0 Q q0 hp q⟩
def spD2 {α0 α1 γ : Type} (K : PySem.W.Frag) (r0 : Rep α0) (r1 : Rep α1) (pre : α0 → α1 → Prop) (rc : Rep γ) (f : α0 → α1 → γ) : Sp := fun vs H Q _ => ∃ (wd : Wd) (x0 x1 : V) (a0 : α0) (a1 : α1), wd.H = H ∧ vs = [x0, x1] ∧ r0.r K wd.S x0 a0 ∧ r1.r K wd.S x1 a1 ∧ pre a0 a1 ∧ (∀ v w', Gr wd w' → rc.r K w'.S v (f a0 a1) → Q v w'.H)
theorem ev_call2 {α0 α1 γ : Type} {r0 : Rep α0} {r1 : Rep α1} {pre : α0 → α1 → Prop} {rc : Rep γ} {f : α0 → α1 → γ} {a0 : α0} {a1 : α1} {t0 t1 : TE} {σ : L2.St} {w : Wd} {K : PySem.W.Frag} {E : XK} (h0 : EvD K t0 σ w r0 a0) (h1 : EvD K t1 σ w r1 a1) (hp : pre a0 a1) : EvD K (tCall (spD2 K r0 r1 pre rc f) [] E (tCons t0 (tCons t1 tNil))) σ w rc (f a0 a1) := fun w1 g Q q =>
  h0 w1 (g) _ fun v0 u0 k0 z0 => h1 u0 (g.trans k0) _ fun v1 u1 k1 z1 => ⟨u1, _, _, _, _, rfl, rfl, r0.m (k1.s) z0, z1, hp, fun v w' g' x => q v w' (((k0).trans k1).trans g') x⟩
theorem okD2 {α0 α1 γ : Type} {r0 : Rep α0} {r1 : Rep α1} {pre : α0 → α1 → Prop} {rc : Rep γ} {f : α0 → α1 → γ} {P : Program} {w : World} {K : PySem.W.Frag} {mg : Str → Option Value} {base : Heap} {x qual : Str} {params : Arguments} {body : List Stmt} {scope : Scope} {dvs : List V} {kws : List (Str × V)} {fa : Addr} {fd : FuncData} {CX : CXT} {N ps : List Str} {k : Nat}
    (F : FunD K x qual params body scope dvs kws fa fd) (S : FnScope N ps scope) (hl : ps.length = 2)
    (hb : ∀ (cdv : Value) (A : Around) (outer : List Env) (s : Shared) (H : Hp) (E : XK), Room k (A.deeper (envOfC qual scope s.heap.objs.size fa cdv)) → ∃ t, PSs (cxOf CX P w K mg base N qual scope fa cdv A outer s H E).nox body t ∧
      ∀ (wd : Wd) (x0 : V) (x1 : V) (a0 : α0) (a1 : α1) (Q : VK), r0.r K wd.S x0 a0 → r1.r K wd.S x1 a1 → pre a0 a1 → (∀ v w', Gr wd w' → rc.r K w'.S v (f a0 a1) → Q v w'.H) → t { nx := fun _ H' => Q .non H', rt := Q } (start N [x0, x1]) wd.H) : FnOk P w K mg base CX (k + 1) fa fd ps (spD2 K r0 r1 pre rc f) :=
  FunD.ok F S (fun vs H Q E h => by obtain ⟨wd, x0, x1, a0, a1, hw, hv, _⟩ := h; rw [hl, hv] <;> rfl) fun cdv A outer s H vs Q E hr h => by
    obtain ⟨t, ht, hq⟩ := hb cdv A outer s H E hr
    obtain ⟨wd, x0, x1, a0, a1, hw, hv, q0, q1, hp, q⟩ := h
    subst hv; subst hw
    exact ⟨t, PSs.nox ht, hq wd x0 x1 a0 a1 Q q0 q1 hp q⟩
def spN2 {α0 α1 γ : Type} (K : PySem.W.Frag) (r0 : Rep α0) (r1 : Rep α1) (pre : α0 → α1 → Prop) (rc : Rep γ) (f : α0 → α1 → List γ) : Sp := fun vs H Q _ => ∃ (wd : Wd) (x0 x1 : V) (a0 : α0) (a1 : α1), wd.H = H ∧ vs = [x0, x1] ∧ r0.r K wd.S x0 a0 ∧ r1.r K wd.S x1 a1 ∧ pre a0 a1 ∧ (∀ p w', Gr wd w' → wd.H p = none → OwnL K w' p rc (f a0 a1) → Q (.ref p) w'.H)
theorem en_call2 {α0 α1 γ : Type} {r0 : Rep α0} {r1 : Rep α1} {pre : α0 → α1 → Prop} {rc : Rep γ} {f : α0 → α1 → List γ} {a0 : α0} {a1 : α1} {t0 t1 : TE} {σ : L2.St} {w : Wd} {K : PySem.W.Frag} {E : XK} (h0 : EvD K t0 σ w r0 a0) (h1 : EvD K t1 σ w r1 a1) (hp : pre a0 a1) : EvN K (tCall (spN2 K r0 r1 pre rc f) [] E (tCons t0 (tCons t1 tNil))) σ w rc (f a0 a1) := fun w1 g Q q =>
  h0 w1 (g) _ fun v0 u0 k0 z0 => h1 u0 (g.trans k0) _ fun v1 u1 k1 z1 => ⟨u1, _, _, _, _, rfl, rfl, r0.m (k1.s) z0, z1, hp, fun p w' g' n x => q p w' (((k0).trans k1).trans g') (fr_back ((k0).trans k1) n) x⟩
theorem okN2 {α0 α1 γ : Type} {r0 : Rep α0} {r1 : Rep α1} {pre : α0 → α1 → Prop} {rc : Rep γ} {f : α0 → α1 → List γ} {P : Program} {w : World} {K : PySem.W.Frag} {mg : Str → Option Value} {base : Heap} {x qual : Str} {params : Arguments} {body : List Stmt} {scope : Scope} {dvs : List V} {kws : List (Str × V)} {fa : Addr} {fd : FuncData} {CX : CXT} {N ps : List Str} {k : Nat}
    (F : FunD K x qual params body scope dvs kws fa fd) (S : FnScope N ps scope) (hl : ps.length = 2)
    (hb : ∀ (cdv : Value) (A : Around) (outer : List Env) (s : Shared) (H : Hp) (E : XK), Room k (A.deeper (envOfC qual scope s.heap.objs.size fa cdv)) → ∃ t, PSs (cxOf CX P w K mg base N qual scope fa cdv A outer s H E).nox body t ∧
      ∀ (wd : Wd) (x0 : V) (x1 : V) (a0 : α0) (a1 : α1) (Q : VK), r0.r K wd.S x0 a0 → r1.r K wd.S x1 a1 → pre a0 a1 → (∀ p w', Gr wd w' → wd.H p = none → OwnL K w' p rc (f a0 a1) → Q (.ref p) w'.H) → t { nx := fun _ H' => Q .non H', rt := Q } (start N [x0, x1]) wd.H) : FnOk P w K mg base CX (k + 1) fa fd ps (spN2 K r0 r1 pre rc f) :=
  FunD.ok F S (fun vs H Q E h => by obtain ⟨wd, x0, x1, a0, a1, hw, hv, _⟩ := h; rw [hl, hv] <;> rfl) fun cdv A outer s H vs Q E hr h => by
    obtain ⟨t, ht, hq⟩ := hb cdv A outer s H E hr
    obtain ⟨wd, x0, x1, a0, a1, hw, hv, q0, q1, hp, q⟩ := h
    subst hv; subst hw
    exact ⟨t, PSs.nox ht, hq wd x0 x1 a0 a1 Q q0 q1 hp q⟩
def spD3 {α0 α1 α2 γ : Type} (K : PySem.W.Frag) (r0 : Rep α0) (r1 : Rep α1) (r2 : Rep α2) (pre : α0 → α1 → α2 → Prop) (rc : Rep γ) (f : α0 → α1 → α2 → γ) : Sp := fun vs H Q _ => ∃ (wd : Wd) (x0 x1 x2 : V) (a0 : α0) (a1 : α1) (a2 : α2), wd.H = H ∧ vs = [x0, x1, x2] ∧ r0.r K wd.S x0 a0 ∧ r1.r K wd.S x1 a1 ∧ r2.r K wd.S x2 a2 ∧ pre a0 a1 a2 ∧ (∀ v w', Gr wd w' → rc.r K w'.S v (f a0 a1 a2) → Q v w'.H)
theorem ev_call3 {α0 α1 α2 γ : Type} {r0 : Rep α0} {r1 : Rep α1} {r2 : Rep α2} {pre : α0 → α1 → α2 → Prop} {rc : Rep γ} {f : α0 → α1 → α2 → γ} {a0 : α0} {a1 : α1} {a2 : α2} {t0 t1 t2 : TE} {σ : L2.St} {w : Wd} {K : PySem.W.Frag} {E : XK} (h0 : EvD K t0 σ w r0 a0) (h1 : EvD K t1 σ w r1 a1) (h2 : EvD K t2 σ w r2 a2) (hp : pre a0 a1 a2) : EvD K (tCall (spD3 K r0 r1 r2 pre rc f) [] E (tCons t0 (tCons t1 (tCons t2 tNil)))) σ w rc (f a0 a1 a2) := fun w1 g Q q =>
  h0 w1 (g) _ fun v0 u0 k0 z0 => h1 u0 (g.trans k0) _ fun v1 u1 k1 z1 => h2 u1 ((g.trans k0).trans k1) _ fun v2 u2 k2 z2 => ⟨u2, _, _, _, _, _, _, rfl, rfl, r0.m ((k1.s).trans k2.s) z0, r1.m (k2.s) z1, z2, hp, fun v w' g' x => q v w' ((((k0).trans k1).trans k2).trans g') x⟩
theorem okD3 {α0 α1 α2 γ : Type} {r0 : Rep α0} {r1 : Rep α1} {r2 : Rep α2} {pre : α0 → α1 → α2 → Prop} {rc : Rep γ} {f : α0 → α1 → α2 → γ} {P : Program} {w : World} {K : PySem.W.Frag} {mg : Str → Option Value} {base : Heap} {x qual : Str} {params : Arguments} {body : List Stmt} {scope : Scope} {dvs : List V} {kws : List (Str × V)} {fa : Addr} {fd : FuncData} {CX : CXT} {N ps : List Str} {k : Nat}
    (F : FunD K x qual params body scope dvs kws fa fd) (S : FnScope N ps scope) (hl : ps.length = 3)
    (hb : ∀ (cdv : Value) (A : Around) (outer : List Env) (s : Shared) (H : Hp) (E : XK), Room k (A.deeper (envOfC qual scope s.heap.objs.size fa cdv)) → ∃ t, PSs (cxOf CX P w K mg base N qual scope fa cdv A outer s H E).nox body t ∧
      ∀ (wd : Wd) (x0 : V) (x1 : V) (x2 : V) (a0 : α0) (a1 : α1) (a2 : α2) (Q : VK), r0.r K wd.S x0 a0 → r1.r K wd.S x1 a1 → r2.r K wd.S x2 a2 → pre a0 a1 a2 → (∀ v w', Gr wd w' → rc.r K w'.S v (f a0 a1 a2) → Q v w'.H) → t { nx := fun _ H' => Q .non H', rt := Q } (start N [x0, x1, x2]) wd.H) : FnOk P w K mg base CX (k + 1) fa fd ps (spD3 K r0 r1 r2 pre rc f) :=
  FunD.ok F S (fun vs H Q E h => by obtain ⟨wd, x0, x1, x2, a0, a1, a2, hw, hv, _⟩ := h; rw [hl, hv] <;> rfl) fun cdv A outer s H vs Q E hr h => by
    obtain ⟨t, ht, hq⟩ := hb cdv A outer s H E hr
    obtain ⟨wd, x0, x1, x2, a0, a1, a2, hw, hv, q0, q1, q2, hp, q⟩ := h
    subst hv; subst hw
    exact ⟨t, PSs.nox ht, hq wd x0 x1 x2 a0 a1 a2 Q q0 q1 q2 hp q⟩
def spN3 {α0 α1 α2 γ : Type} (K : PySem.W.Frag) (r0 : Rep α0) (r1 : Rep α1) (r2 : Rep α2) (pre : α0 → α1 → α2 → Prop) (rc : Rep γ) (f : α0 → α1 → α2 → List γ) : Sp := fun vs H Q _ => ∃ (wd : Wd) (x0 x1 x2 : V) (a0 : α0) (a1 : α1) (a2 : α2), wd.H = H ∧ vs = [x0, x1, x2] ∧ r0.r K wd.S x0 a0 ∧ r1.r K wd.S x1 a1 ∧ r2.r K wd.S x2 a2 ∧ pre a0 a1 a2 ∧ (∀ p w', Gr wd w' → wd.H p = none → OwnL K w' p rc (f a0 a1 a2) → Q (.ref p) w'.H)
theorem en_call3 {α0 α1 α2 γ : Type} {r0 : Rep α0} {r1 : Rep α1} {r2 : Rep α2} {pre : α0 → α1 → α2 → Prop} {rc : Rep γ} {f : α0 → α1 → α2 → List γ} {a0 : α0} {a1 : α1} {a2 : α2} {t0 t1 t2 : TE} {σ : L2.St} {w : Wd} {K : PySem.W.Frag} {E : XK} (h0 : EvD K t0 σ w r0 a0) (h1 : EvD K t1 σ w r1 a1) (h2 : EvD K t2 σ w r2 a2) (hp : pre a0 a1 a2) : EvN K (tCall (spN3 K r0 r1 r2 pre rc f) [] E (tCons t0 (tCons t1 (tCons t2 tNil)))) σ w rc (f a0 a1 a2) := fun w1 g Q q =>
  h0 w1 (g) _ fun v0 u0 k0 z0 => h1 u0 (g.trans k0) _ fun v1 u1 k1 z1 => h2 u1 ((g.trans k0).trans k1) _ fun v2 u2 k2 z2 => ⟨u2, _, _, _, _, _, _, rfl, rfl, r0.m ((k1.s).trans k2.s) z0, r1.m (k2.s) z1, z2, hp, fun p w' g' n x => q p w' ((((k0).trans k1).trans k2).trans g') (fr_back (((k0).trans k1).trans k2) n) x⟩
theorem okN3 {α0 α1 α2 γ : Type} {r0 : Rep α0} {r1 : Rep α1} {r2 : Rep α2} {pre : α0 → α1 → α2 → Prop} {rc : Rep γ} {f : α0 → α1 → α2 → List γ} {P : Program} {w : World} {K : PySem.W.Frag} {mg : Str → Option Value} {base : Heap} {x qual : Str} {params : Arguments} {body : List Stmt} {scope : Scope} {dvs : List V} {kws : List (Str × V)} {fa : Addr} {fd : FuncData} {CX : CXT} {N ps : List Str} {k : Nat}
    (F : FunD K x qual params body scope dvs kws fa fd) (S : FnScope N ps scope) (hl : ps.length = 3)
    (hb : ∀ (cdv : Value) (A : Around) (outer : List Env) (s : Shared) (H : Hp) (E : XK), Room k (A.deeper (envOfC qual scope s.heap.objs.size fa cdv)) → ∃ t, PSs (cxOf CX P w K mg base N qual scope fa cdv A outer s H E).nox body t ∧
      ∀ (wd : Wd) (x0 : V) (x1 : V) (x2 : V) (a0 : α0) (a1 : α1) (a2 : α2) (Q : VK), r0.r K wd.S x0 a0 → r1.r K wd.S x1 a1 → r2.r K wd.S x2 a2 → pre a0 a1 a2 → (∀ p w', Gr wd w' → wd.H p = none → OwnL K w' p rc (f a0 a1 a2) → Q (.ref p) w'.H) → t { nx := fun _ H' => Q .non H', rt := Q } (start N [x0, x1, x2]) wd.H) : FnOk P w K mg base CX (k + 1) fa fd ps (spN3 K r0 r1 r2 pre rc f) :=
  FunD.ok F S (fun vs H Q E h => by obtain ⟨wd, x0, x1, x2, a0, a1, a2, hw, hv, _⟩ := h; rw [hl, hv] <;> rfl) fun cdv A outer s H vs Q E hr h => by
    obtain ⟨t, ht, hq⟩ := hb cdv A outer s H E hr
    obtain ⟨wd, x0, x1, x2, a0, a1, a2, hw, hv, q0, q1, q2, hp, q⟩ := h
    subst hv; subst hw
    exact ⟨t, PSs.nox ht, hq wd x0 x1 x2 a0 a1 a2 Q q0 q1 q2 hp q⟩
def spD4 {α0 α1 α2 α3 γ : Type} (K : PySem.W.Frag) (r0 : Rep α0) (r1 : Rep α1) (r2 : Rep α2) (r3 : Rep α3) (pre : α0 → α1 → α2 → α3 → Prop) (rc : Rep γ) (f : α0 → α1 → α2 → α3 → γ) : Sp := fun vs H Q _ => ∃ (wd : Wd) (x0 x1 x2 x3 : V) (a0 : α0) (a1 : α1) (a2 : α2) (a3 : α3), wd.H = H ∧ vs = [x0, x1, x2, x3] ∧ r0.r K wd.S x0 a0 ∧ r1.r K wd.S x1 a1 ∧ r2.r K wd.S x2 a2 ∧ r3.r K wd.S x3 a3 ∧ pre a0 a1 a2 a3 ∧ (∀ v w', Gr wd w' → rc.r K w'.S v (f a0 a1 a2 a3) → Q v w'.H)
theorem ev_call4 {α0 α1 α2 α3 γ : Type} {r0 : Rep α0} {r1 : Rep α1} {r2 : Rep α2} {r3 : Rep α3} {pre : α0 → α1 → α2 → α3 → Prop} {rc : Rep γ} {f : α0 → α1 → α2 → α3 → γ} {a0 : α0} {a1 : α1} {a2 : α2} {a3 : α3} {t0 t1 t2 t3 : TE} {σ : L2.St} {w : Wd} {K : PySem.W.Frag} {E : XK} (h0 : EvD K t0 σ w r0 a0) (h1 : EvD K t1 σ w r1 a1) (h2 : EvD K t2 σ w r2 a2) (h3 : EvD K t3 σ w r3 a3) (hp : pre a0 a1 a2 a3) : EvD K (tCall (spD4 K r0 r1 r2 r3 pre rc f) [] E (tCons t0 (tCons t1 (tCons t2 (tCons t3 tNil))))) σ w rc (f a0 a1 a2 a3) := fun w1 g Q q =>
  h0 w1 (g) _ fun v0 u0 k0 z0 => h1 u0 (g.trans k0) _ fun v1 u1 k1 z1 => h2 u1 ((g.trans k0).trans k1) _ fun v2 u2 k2 z2 => h3 u2 (((g.trans k0).trans k1).trans k2) _ fun v3 u3 k3 z3 => ⟨u3, _, _, _, _, _, _, _, _, rfl, rfl, r0.m (((k1.s).trans k2.s).trans k3.s) z0, r1.m ((k2.s).trans k3.s) z1, r2.m (k3.s) z2, z3, hp, fun v w' g' x => q v w' (((((k0).trans k1).trans k2).trans k3).trans g') x⟩
theorem okD4 {α0 α1 α2 α3 γ : Type} {r0 : Rep α0} {r1 : Rep α1} {r2 : Rep α2} {r3 : Rep α3} {pre : α0 → α1 → α2 → α3 → Prop} {rc : Rep γ} {f : α0 → α1 → α2 → α3 → γ} {P : Program} {w : World} {K : PySem.W.Frag} {mg : Str → Option Value} {base : Heap} {x qual : Str} {params : Arguments} {body : List Stmt} {scope : Scope} {dvs : List V} {kws : List (Str × V)} {fa : Addr} {fd : FuncData} {CX : CXT} {N ps : List Str} {k : Nat}
    (F : FunD K x qual params body scope dvs kws fa fd) (S : FnScope N ps scope) (hl : ps.length = 4)
    (hb : ∀ (cdv : Value) (A : Around) (outer : List Env) (s : Shared) (H : Hp) (E : XK), Room k (A.deeper (envOfC qual scope s.heap.objs.size fa cdv)) → ∃ t, PSs (cxOf CX P w K mg base N qual scope fa cdv A outer s H E).nox body t ∧
      ∀ (wd : Wd) (x0 : V) (x1 : V) (x2 : V) (x3 : V) (a0 : α0) (a1 : α1) (a2 : α2) (a3 : α3) (Q : VK), r0.r K wd.S x0 a0 → r1.r K wd.S x1 a1 → r2.r K wd.S x2 a2 → r3.r K wd.S x3 a3 → pre a0 a1 a2 a3 → (∀ v w', Gr wd w' → rc.r K w'.S v (f a0 a1 a2 a3) → Q v w'.H) → t { nx := fun _ H' => Q .non H', rt := Q } (start N [x0, x1, x2, x3]) wd.H) : FnOk P w K mg base CX (k + 1) fa fd ps (spD4 K r0 r1 r2 r3 pre rc f) :=
  FunD.ok F S (fun vs H Q E h => by obtain ⟨wd, x0, x1, x2, x3, a0, a1, a2, a3, hw, hv, _⟩ := h; rw [hl, hv] <;> rfl) fun cdv A outer s H vs Q E hr h => by
    obtain ⟨t, ht, hq⟩ := hb cdv A outer s H E hr
    obtain ⟨wd, x0, x1, x2, x3, a0, a1, a2, a3, hw, hv, q0, q1, q2, q3, hp, q⟩ := h
    subst hv; subst hw
    exact ⟨t, PSs.nox ht, hq wd x0 x1 x2 x3 a0 a1 a2 a3 Q q0 q1 q2 q3 hp q⟩
def spN4 {α0 α1 α2 α3 γ : Type} (K : PySem.W.Frag) (r0 : Rep α0) (r1 : Rep α1) (r2 : Rep α2) (r3 : Rep α3) (pre : α0 → α1 → α2 → α3 → Prop) (rc : Rep γ) (f : α0 → α1 → α2 → α3 → List γ) : Sp := fun vs H Q _ => ∃ (wd : Wd) (x0 x1 x2 x3 : V) (a0 : α0) (a1 : α1) (a2 : α2) (a3 : α3), wd.H = H ∧ vs = [x0, x1, x2, x3] ∧ r0.r K wd.S x0 a0 ∧ r1.r K wd.S x1 a1 ∧ r2.r K wd.S x2 a2 ∧ r3.r K wd.S x3 a3 ∧ pre a0 a1 a2 a3 ∧ (∀ p w', Gr wd w' → wd.H p = none → OwnL K w' p rc (f a0 a1 a2 a3) → Q (.ref p) w'.H)
theorem en_call4 {α0 α1 α2 α3 γ : Type} {r0 : Rep α0} {r1 : Rep α1} {r2 : Rep α2} {r3 : Rep α3} {pre : α0 → α1 → α2 → α3 → Prop} {rc : Rep γ} {f : α0 → α1 → α2 → α3 → List γ} {a0 : α0} {a1 : α1} {a2 : α2} {a3 : α3} {t0 t1 t2 t3 : TE} {σ : L2.St} {w : Wd} {K : PySem.W.Frag} {E : XK} (h0 : EvD K t0 σ w r0 a0) (h1 : EvD K t1 σ w r1 a1) (h2 : EvD K t2 σ w r2 a2) (h3 : EvD K t3 σ w r3 a3) (hp : pre a0 a1 a2 a3) : EvN K (tCall (spN4 K r0 r1 r2 r3 pre rc f) [] E (tCons t0 (tCons t1 (tCons t2 (tCons t3 tNil))))) σ w rc (f a0 a1 a2 a3) := fun w1 g Q q =>
  h0 w1 (g) _ fun v0 u0 k0 z0 => h1 u0 (g.trans k0) _ fun v1 u1 k1 z1 => h2 u1 ((g.trans k0).trans k1) _ fun v2 u2 k2 z2 => h3 u2 (((g.trans k0).trans k1).trans k2) _ fun v3 u3 k3 z3 => ⟨u3, _, _, _, _, _, _, _, _, rfl, rfl, r0.m (((k1.s).trans k2.s).trans k3.s) z0, r1.m ((k2.s).trans k3.s) z1, r2.m (k3.s) z2, z3, hp, fun p w' g' n x => q p w' (((((k0).trans k1).trans k2).trans k3).trans g') (fr_back ((((k0).trans k1).trans k2).trans k3) n) x⟩
theorem okN4 {α0 α1 α2 α3 γ : Type} {r0 : Rep α0} {r1 : Rep α1} {r2 : Rep α2} {r3 : Rep α3} {pre : α0 → α1 → α2 → α3 → Prop} {rc : Rep γ} {f : α0 → α1 → α2 → α3 → List γ} {P : Program} {w : World} {K : PySem.W.Frag} {mg : Str → Option Value} {base : Heap} {x qual : Str} {params : Arguments} {body : List Stmt} {scope : Scope} {dvs : List V} {kws : List (Str × V)} {fa : Addr} {fd : FuncData} {CX : CXT} {N ps : List Str} {k : Nat}
    (F : FunD K x qual params body scope dvs kws fa fd) (S : FnScope N ps scope) (hl : ps.length = 4)
    (hb : ∀ (cdv : Value) (A : Around) (outer : List Env) (s : Shared) (H : Hp) (E : XK), Room k (A.deeper (envOfC qual scope s.heap.objs.size fa cdv)) → ∃ t, PSs (cxOf CX P w K mg base N qual scope fa cdv A outer s H E).nox body t ∧
      ∀ (wd : Wd) (x0 : V) (x1 : V) (x2 : V) (x3 : V) (a0 : α0) (a1 : α1) (a2 : α2) (a3 : α3) (Q : VK), r0.r K wd.S x0 a0 → r1.r K wd.S x1 a1 → r2.r K wd.S x2 a2 → r3.r K wd.S x3 a3 → pre a0 a1 a2 a3 → (∀ p w', Gr wd w' → wd.H p = none → OwnL K w' p rc (f a0 a1 a2 a3) → Q (.ref p) w'.H) → t { nx := fun _ H' => Q .non H', rt := Q } (start N [x0, x1, x2, x3]) wd.H) : FnOk P w K mg base CX (k + 1) fa fd ps (spN4 K r0 r1 r2 r3 pre rc f) :=
  FunD.ok F S (fun vs H Q E h => by obtain ⟨wd, x0, x1, x2, x3, a0, a1, a2, a3, hw, hv, _⟩ := h; rw [hl, hv] <;> rfl) fun cdv A outer s H vs Q E hr h => by
    obtain ⟨t, ht, hq⟩ := hb cdv A outer s H E hr
    obtain ⟨wd, x0, x1, x2, x3, a0, a1, a2, a3, hw, hv, q0, q1, q2, q3, hp, q⟩ := h
    subst hv; subst hw
    exact ⟨t, PSs.nox ht, hq wd x0 x1 x2 x3 a0 a1 a2 a3 Q q0 q1 q2 q3 hp q⟩
def spD5 {α0 α1 α2 α3 α4 γ : Type} (K : PySem.W.Frag) (r0 : Rep α0) (r1 : Rep α1) (r2 : Rep α2) (r3 : Rep α3) (r4 : Rep α4) (pre : α0 → α1 → α2 → α3 → α4 → Prop) (rc : Rep γ) (f : α0 → α1 → α2 → α3 → α4 → γ) : Sp := fun vs H Q _ => ∃ (wd : Wd) (x0 x1 x2 x3 x4 : V) (a0 : α0) (a1 : α1) (a2 : α2) (a3 : α3) (a4 : α4), wd.H = H ∧ vs = [x0, x1, x2, x3, x4] ∧ r0.r K wd.S x0 a0 ∧ r1.r K wd.S x1 a1 ∧ r2.r K wd.S x2 a2 ∧ r3.r K wd.S x3 a3 ∧ r4.r K wd.S x4 a4 ∧ pre a0 a1 a2 a3 a4 ∧ (∀ v w', Gr wd w' → rc.r K w'.S v (f a0 a1 a2 a3 a4) → Q v w'.H)
theorem ev_call5 {α0 α1 α2 α3 α4 γ : Type} {r0 : Rep α0} {r1 : Rep α1} {r2 : Rep α2} {r3 : Rep α3} {r4 : Rep α4} {pre : α0 → α1 → α2 → α3 → α4 → Prop} {rc : Rep γ} {f : α0 → α1 → α2 → α3 → α4 → γ} {a0 : α0} {a1 : α1} {a2 : α2} {a3 : α3} {a4 : α4} {t0 t1 t2 t3 t4 : TE} {σ : L2.St} {w : Wd} {K : PySem.W.Frag} {E : XK} (h0 : EvD K t0 σ w r0 a0) (h1 : EvD K t1 σ w r1 a1) (h2 : EvD K t2 σ w r2 a2) (h3 : EvD K t3 σ w r3 a3) (h4 : EvD K t4 σ w r4 a4) (hp : pre a0 a1 a2 a3 a4) : EvD K (tCall (spD5 K r0 r1 r2 r3 r4 pre rc f) [] E (tCons t0 (tCons t1 (tCons t2 (tCons t3 (tCons t4 tNil)))))) σ w rc (f a0 a1 a2 a3 a4) := fun w1 g Q q =>
  h0 w1 (g) _ fun v0 u0 k0 z0 => h1 u0 (g.trans k0) _ fun v1 u1 k1 z1 => h2 u1 ((g.trans k0).trans k1) _ fun v2 u2 k2 z2 => h3 u2 (((g.trans k0).trans k1).trans k2) _ fun v3 u3 k3 z3 => h4 u3 ((((g.trans k0).trans k1).trans k2).trans k3) _ fun v4 u4 k4 z4 => ⟨u4, _, _, _, _, _, _, _, _, _, _, rfl, rfl, r0.m ((((k1.s).trans k2.s).trans k3.s).trans k4.s) z0, r1.m (((k2.s).trans k3.s).trans k4.s) z1, r2.m ((k3.s).trans k4.s) z2, r3.m (k4.s) z3, z4, hp, fun v w' g' x => q v w' ((((((k0).trans k1).trans k2).trans k3).trans k4).trans g') x⟩
theorem okD5 {α0 α1 α2 α3 α4 γ : Type} {r0 : Rep α0} {r1 : Rep α1} {r2 : Rep α2} {r3 : Rep α3} {r4 : Rep α4} {pre : α0 → α1 → α2 → α3 → α4 → Prop} {rc : Rep γ} {f : α0 → α1 → α2 → α3 → α4 → γ} {P : Program} {w : World} {K : PySem.W.Frag} {mg : Str → Option Value} {base : Heap} {x qual : Str} {params : Arguments} {body : List Stmt} {scope : Scope} {dvs : List V} {kws : List (Str × V)} {fa : Addr} {fd : FuncData} {CX : CXT} {N ps : List Str} {k : Nat}
    (F : FunD K x qual params body scope dvs kws fa fd) (S : FnScope N ps scope) (hl : ps.length = 5)
    (hb : ∀ (cdv : Value) (A : Around) (outer : List Env) (s : Shared) (H : Hp) (E : XK), Room k (A.deeper (envOfC qual scope s.heap.objs.size fa cdv)) → ∃ t, PSs (cxOf CX P w K mg base N qual scope fa cdv A outer s H E).nox body t ∧
      ∀ (wd : Wd) (x0 : V) (x1 : V) (x2 : V) (x3 : V) (x4 : V) (a0 : α0) (a1 : α1) (a2 : α2) (a3 : α3) (a4 : α4) (Q : VK), r0.r K wd.S x0 a0 → r1.r K wd.S x1 a1 → r2.r K wd.S x2 a2 → r3.r K wd.S x3 a3 → r4.r K wd.S x4 a4 → pre a0 a1 a2 a3 a4 → (∀ v w', Gr wd w' → rc.r K w'.S v (f a0 a1 a2 a3 a4) → Q v w'.H) → t { nx := fun _ H' => Q .non H', rt := Q } (start N [x0, x1, x2, x3, x4]) wd.H) : FnOk P w K mg base CX (k + 1) fa fd ps (spD5 K r0 r1 r2 r3 r4 pre rc f) :=
  FunD.ok F S (fun vs H Q E h => by obtain ⟨wd, x0, x1, x2, x3, x4, a0, a1, a2, a3, a4, hw, hv, _⟩ := h; rw [hl, hv] <;> rfl) fun cdv A outer s H vs Q E hr h => by
    obtain ⟨t, ht, hq⟩ := hb cdv A outer s H E hr
    obtain ⟨wd, x0, x1, x2, x3, x4, a0, a1, a2, a3, a4, hw, hv, q0, q1, q2, q3, q4, hp, q⟩ := h
    subst hv; subst hw
    exact ⟨t, PSs.nox ht, hq wd x0 x1 x2 x3 x4 a0 a1 a2 a3 a4 Q q0 q1 q2 q3 q4 hp q⟩
def spN5 {α0 α1 α2 α3 α4 γ : Type} (K : PySem.W.Frag) (r0 : Rep α0) (r1 : Rep α1) (r2 : Rep α2) (r3 : Rep α3) (r4 : Rep α4) (pre : α0 → α1 → α2 → α3 → α4 → Prop) (rc : Rep γ) (f : α0 → α1 → α2 → α3 → α4 → List γ) : Sp := fun vs H Q _ => ∃ (wd : Wd) (x0 x1 x2 x3 x4 : V) (a0 : α0) (a1 : α1) (a2 : α2) (a3 : α3) (a4 : α4), wd.H = H ∧ vs = [x0, x1, x2, x3, x4] ∧ r0.r K wd.S x0 a0 ∧ r1.r K wd.S x1 a1 ∧ r2.r K wd.S x2 a2 ∧ r3.r K wd.S x3 a3 ∧ r4.r K wd.S x4 a4 ∧ pre a0 a1 a2 a3 a4 ∧ (∀ p w', Gr wd w' → wd.H p = none → OwnL K w' p rc (f a0 a1 a2 a3 a4) → Q (.ref p) w'.H)
theorem en_call5 {α0 α1 α2 α3 α4 γ : Type} {r0 : Rep α0} {r1 : Rep α1} {r2 : Rep α2} {r3 : Rep α3} {r4 : Rep α4} {pre : α0 → α1 → α2 → α3 → α4 → Prop} {rc : Rep γ} {f : α0 → α1 → α2 → α3 → α4 → List γ} {a0 : α0} {a1 : α1} {a2 : α2} {a3 : α3} {a4 : α4} {t0 t1 t2 t3 t4 : TE} {σ : L2.St} {w : Wd} {K : PySem.W.Frag} {E : XK} (h0 : EvD K t0 σ w r0 a0) (h1 : EvD K t1 σ w r1 a1) (h2 : EvD K t2 σ w r2 a2) (h3 : EvD K t3 σ w r3 a3) (h4 : EvD K t4 σ w r4 a4) (hp : pre a0 a1 a2 a3 a4) : EvN K (tCall (spN5 K r0 r1 r2 r3 r4 pre rc f) [] E (tCons t0 (tCons t1 (tCons t2 (tCons t3 (tCons t4 tNil)))))) σ w rc (f a0 a1 a2 a3 a4) := fun w1 g Q q =>
  h0 w1 (g) _ fun v0 u0 k0 z0 => h1 u0 (g.trans k0) _ fun v1 u1 k1 z1 => h2 u1 ((g.trans k0).trans k1) _ fun v2 u2 k2 z2 => h3 u2 (((g.trans k0).trans k1).trans k2) _ fun v3 u3 k3 z3 => h4 u3 ((((g.trans k0).trans k1).trans k2).trans k3) _ fun v4 u4 k4 z4 => ⟨u4, _, _, _, _, _, _, _, _, _, _, rfl, rfl, r0.m ((((k1.s).trans k2.s).trans k3.s).trans k4.s) z0, r1.m (((k2.s).trans k3.s).trans k4.s) z1, r2.m ((k3.s).trans k4.s) z2, r3.m (k4.s) z3, z4, hp, fun p w' g' n x => q p w' ((((((k0).trans k1).trans k2).trans k3).trans k4).trans g') (fr_back (((((k0).trans k1).trans k2).trans k3).trans k4) n) x⟩
theorem okN5 {α0 α1 α2 α3 α4 γ : Type} {r0 : Rep α0} {r1 : Rep α1} {r2 : Rep α2} {r3 : Rep α3} {r4 : Rep α4} {pre : α0 → α1 → α2 → α3 → α4 → Prop} {rc : Rep γ} {f : α0 → α1 → α2 → α3 → α4 → List γ} {P : Program} {w : World} {K : PySem.W.Frag} {mg : Str → Option Value} {base : Heap} {x qual : Str} {params : Arguments} {body : List Stmt} {scope : Scope} {dvs : List V} {kws : List (Str × V)} {fa : Addr} {fd : FuncData} {CX : CXT} {N ps : List Str} {k : Nat}
    (F : FunD K x qual params body scope dvs kws fa fd) (S : FnScope N ps scope) (hl : ps.length = 5)
    (hb : ∀ (cdv : Value) (A : Around) (outer : List Env) (s : Shared) (H : Hp) (E : XK), Room k (A.deeper (envOfC qual scope s.heap.objs.size fa cdv)) → ∃ t, PSs (cxOf CX P w K mg base N qual scope fa cdv A outer s H E).nox body t ∧
      ∀ (wd : Wd) (x0 : V) (x1 : V) (x2 : V) (x3 : V) (x4 : V) (a0 : α0) (a1 : α1) (a2 : α2) (a3 : α3) (a4 : α4) (Q : VK), r0.r K wd.S x0 a0 → r1.r K wd.S x1 a1 → r2.r K wd.S x2 a2 → r3.r K wd.S x3 a3 → r4.r K wd.S x4 a4 → pre a0 a1 a2 a3 a4 → (∀ p w', Gr wd w' → wd.H p = none → OwnL K w' p rc (f a0 a1 a2 a3 a4) → Q (.ref p) w'.H) → t { nx := fun _ H' => Q .non H', rt := Q } (start N [x0, x1, x2, x3, x4]) wd.H) : FnOk P w K mg base CX (k + 1) fa fd ps (spN5 K r0 r1 r2 r3 r4 pre rc f) :=
  FunD.ok F S (fun vs H Q E h => by obtain ⟨wd, x0, x1, x2, x3, x4, a0, a1, a2, a3, a4, hw, hv, _⟩ := h; rw [hl, hv] <;> rfl) fun cdv A outer s H vs Q E hr h => by
    obtain ⟨t, ht, hq⟩ := hb cdv A outer s H E hr
    obtain ⟨wd, x0, x1, x2, x3, x4, a0, a1, a2, a3, a4, hw, hv, q0, q1, q2, q3, q4, hp, q⟩ := h
    subst hv; subst hw
    exact ⟨t, PSs.nox ht, hq wd x0 x1 x2 x3 x4 a0 a1 a2 a3 a4 Q q0 q1 q2 q3 q4 hp q⟩
def spD6 {α0 α1 α2 α3 α4 α5 γ : Type} (K : PySem.W.Frag) (r0 : Rep α0) (r1 : Rep α1) (r2 : Rep α2) (r3 : Rep α3) (r4 : Rep α4) (r5 : Rep α5) (pre : α0 → α1 → α2 → α3 → α4 → α5 → Prop) (rc : Rep γ) (f : α0 → α1 → α2 → α3 → α4 → α5 → γ) : Sp := fun vs H Q _ => ∃ (wd : Wd) (x0 x1 x2 x3 x4 x5 : V) (a0 : α0) (a1 : α1) (a2 : α2) (a3 : α3) (a4 : α4) (a5 : α5), wd.H = H ∧ vs = [x0, x1, x2, x3, x4, x5] ∧ r0.r K wd.S x0 a0 ∧ r1.r K wd.S x1 a1 ∧ r2.r K wd.S x2 a2 ∧ r3.r K wd.S x3 a3 ∧ r4.r K wd.S x4 a4 ∧ r5.r K wd.S x5 a5 ∧ pre a0 a1 a2 a3 a4 a5 ∧ (∀ v w', Gr wd w' → rc.r K w'.S v (f a0 a1 a2 a3 a4 a5) → Q v w'.H)
theorem ev_call6 {α0 α1 α2 α3 α4 α5 γ : Type} {r0 : Rep α0} {r1 : Rep α1} {r2 : Rep α2} {r3 : Rep α3} {r4 : Rep α4} {r5 : Rep α5} {pre : α0 → α1 → α2 → α3 → α4 → α5 → Prop} {rc : Rep γ} {f : α0 → α1 → α2 → α3 → α4 → α5 → γ} {a0 : α0} {a1 : α1} {a2 : α2} {a3 : α3} {a4 : α4} {a5 : α5} {t0 t1 t2 t3 t4 t5 : TE} {σ : L2.St} {w : Wd} {K : PySem.W.Frag} {E : XK} (h0 : EvD K t0 σ w r0 a0) (h1 : EvD K t1 σ w r1 a1) (h2 : EvD K t2 σ w r2 a2) (h3 : EvD K t3 σ w r3 a3) (h4 : EvD K t4 σ w r4 a4) (h5 : EvD K t5 σ w r5 a5) (hp : pre a0 a1 a2 a3 a4 a5) : EvD K (tCall (spD6 K r0 r1 r2 r3 r4 r5 pre rc f) [] E (tCons t0 (tCons t1 (tCons t2 (tCons t3 (tCons t4 (tCons t5 tNil))))))) σ w rc (f a0 a1 a2 a3 a4 a5) := fun w1 g Q q =>
  h0 w1 (g) _ fun v0 u0 k0 z0 => h1 u0 (g.trans k0) _ fun v1 u1 k1 z1 => h2 u1 ((g.trans k0).trans k1) _ fun v2 u2 k2 z2 => h3 u2 (((g.trans k0).trans k1).trans k2) _ fun v3 u3 k3 z3 => h4 u3 ((((g.trans k0).trans k1).trans k2).trans k3) _ fun v4 u4 k4 z4 => h5 u4 (((((g.trans k0).trans k1).trans k2).trans k3).trans k4) _ fun v5 u5 k5 z5 => ⟨u5, _, _, _, _, _, _, _, _, _, _, _, _, rfl, rfl, r0.m (((((k1.s).trans k2.s).trans k3.s).trans k4.s).trans k5.s) z0, r1.m ((((k2.s).trans k3.s).trans k4.s).trans k5.s) z1, r2.m (((k3.s).trans k4.s).trans k5.s) z2, r3.m ((k4.s).trans k5.s) z3, r4.m (k5.s) z4, z5, hp, fun v w' g' x => q v w' (((((((k0).trans k1).trans k2).trans k3).trans k4).trans k5).trans g') x⟩
theorem okD6 {α0 α1 α2 α3 α4 α5 γ : Type} {r0 : Rep α0} {r1 : Rep α1} {r2 : Rep α2} {r3 : Rep α3} {r4 : Rep α4} {r5 : Rep α5} {pre : α0 → α1 → α2 → α3 → α4 → α5 → Prop} {rc : Rep γ} {f : α0 → α1 → α2 → α3 → α4 → α5 → γ} {P : Program} {w : World} {K : PySem.W.Frag} {mg : Str → Option Value} {base : Heap} {x qual : Str} {params : Arguments} {body : List Stmt} {scope : Scope} {dvs : List V} {kws : List (Str × V)} {fa : Addr} {fd : FuncData} {CX : CXT} {N ps : List Str} {k : Nat}
    (F : FunD K x qual params body scope dvs kws fa fd) (S : FnScope N ps scope) (hl : ps.length = 6)
    (hb : ∀ (cdv : Value) (A : Around) (outer : List Env) (s : Shared) (H : Hp) (E : XK), Room k (A.deeper (envOfC qual scope s.heap.objs.size fa cdv)) → ∃ t, PSs (cxOf CX P w K mg base N qual scope fa cdv A outer s H E).nox body t ∧
      ∀ (wd : Wd) (x0 : V) (x1 : V) (x2 : V) (x3 : V) (x4 : V) (x5 : V) (a0 : α0) (a1 : α1) (a2 : α2) (a3 : α3) (a4 : α4) (a5 : α5) (Q : VK), r0.r K wd.S x0 a0 → r1.r K wd.S x1 a1 → r2.r K wd.S x2 a2 → r3.r K wd.S x3 a3 → r4.r K wd.S x4 a4 → r5.r K wd.S x5 a5 → pre a0 a1 a2 a3 a4 a5 → (∀ v w', Gr wd w' → rc.r K w'.S v (f a0 a1 a2 a3 a4 a5) → Q v w'.H) → t { nx := fun _ H' => Q .non H', rt := Q } (start N [x0, x1, x2, x3, x4, x5]) wd.H) : FnOk P w K mg base CX (k + 1) fa fd ps (spD6 K r0 r1 r2 r3 r4 r5 pre rc f) :=
  FunD.ok F S (fun vs H Q E h => by obtain ⟨wd, x0, x1, x2, x3, x4, x5, a0, a1, a2, a3, a4, a5, hw, hv, _⟩ := h; rw [hl, hv] <;> rfl) fun cdv A outer s H vs Q E hr h => by
    obtain ⟨t, ht, hq⟩ := hb cdv A outer s H E hr
    obtain ⟨wd, x0, x1, x2, x3, x4, x5, a0, a1, a2, a3, a4, a5, hw, hv, q0, q1, q2, q3, q4, q5, hp, q⟩ := h
    subst hv; subst hw
    exact ⟨t, PSs.nox ht, hq wd x0 x1 x2 x3 x4 x5 a0 a1 a2 a3 a4 a5 Q q0 q1 q2 q3 q4 q5 hp q⟩
def spN6 {α0 α1 α2 α3 α4 α5 γ : Type} (K : PySem.W.Frag) (r0 : Rep α0) (r1 : Rep α1) (r2 : Rep α2) (r3 : Rep α3) (r4 : Rep α4) (r5 : Rep α5) (pre : α0 → α1 → α2 → α3 → α4 → α5 → Prop) (rc : Rep γ) (f : α0 → α1 → α2 → α3 → α4 → α5 → List γ) : Sp := fun vs H Q _ => ∃ (wd : Wd) (x0 x1 x2 x3 x4 x5 : V) (a0 : α0) (a1 : α1) (a2 : α2) (a3 : α3) (a4 : α4) (a5 : α5), wd.H = H ∧ vs = [x0, x1, x2, x3, x4, x5] ∧ r0.r K wd.S x0 a0 ∧ r1.r K wd.S x1 a1 ∧ r2.r K wd.S x2 a2 ∧ r3.r K wd.S x3 a3 ∧ r4.r K wd.S x4 a4 ∧ r5.r K wd.S x5 a5 ∧ pre a0 a1 a2 a3 a4 a5 ∧ (∀ p w', Gr wd w' → wd.H p = none → OwnL K w' p rc (f a0 a1 a2 a3 a4 a5) → Q (.ref p) w'.H)
theorem en_call6 {α0 α1 α2 α3 α4 α5 γ : Type} {r0 : Rep α0} {r1 : Rep α1} {r2 : Rep α2} {r3 : Rep α3} {r4 : Rep α4} {r5 : Rep α5} {pre : α0 → α1 → α2 → α3 → α4 → α5 → Prop} {rc : Rep γ} {f : α0 → α1 → α2 → α3 → α4 → α5 → List γ} {a0 : α0} {a1 : α1} {a2 : α2} {a3 : α3} {a4 : α4} {a5 : α5} {t0 t1 t2 t3 t4 t5 : TE} {σ : L2.St} {w : Wd} {K : PySem.W.Frag} {E : XK} (h0 : EvD K t0 σ w r0 a0) (h1 : EvD K t1 σ w r1 a1) (h2 : EvD K t2 σ w r2 a2) (h3 : EvD K t3 σ w r3 a3) (h4 : EvD K t4 σ w r4 a4) (h5 : EvD K t5 σ w r5 a5) (hp : pre a0 a1 a2 a3 a4 a5) : EvN K (tCall (spN6 K r0 r1 r2 r3 r4 r5 pre rc f) [] E (tCons t0 (tCons t1 (tCons t2 (tCons t3 (tCons t4 (tCons t5 tNil))))))) σ w rc (f a0 a1 a2 a3 a4 a5) := fun w1 g Q q =>
  h0 w1 (g) _ fun v0 u0 k0 z0 => h1 u0 (g.trans k0) _ fun v1 u1 k1 z1 => h2 u1 ((g.trans k0).trans k1) _ fun v2 u2 k2 z2 => h3 u2 (((g.trans k0).trans k1).trans k2) _ fun v3 u3 k3 z3 => h4 u3 ((((g.trans k0).trans k1).trans k2).trans k3) _ fun v4 u4 k4 z4 => h5 u4 (((((g.trans k0).trans k1).trans k2).trans k3).trans k4) _ fun v5 u5 k5 z5 => ⟨u5, _, _, _, _, _, _, _, _, _, _, _, _, rfl, rfl, r0.m (((((k1.s).trans k2.s).trans k3.s).trans k4.s).trans k5.s) z0, r1.m ((((k2.s).trans k3.s).trans k4.s).trans k5.s) z1, r2.m (((k3.s).trans k4.s).trans k5.s) z2, r3.m ((k4.s).trans k5.s) z3, r4.m (k5.s) z4, z5, hp, fun p w' g' n x => q p w' (((((((k0).trans k1).trans k2).trans k3).trans k4).trans k5).trans g') (fr_back ((((((k0).trans k1).trans k2).trans k3).trans k4).trans k5) n) x⟩
theorem okN6 {α0 α1 α2 α3 α4 α5 γ : Type} {r0 : Rep α0} {r1 : Rep α1} {r2 : Rep α2} {r3 : Rep α3} {r4 : Rep α4} {r5 : Rep α5} {pre : α0 → α1 → α2 → α3 → α4 → α5 → Prop} {rc : Rep γ} {f : α0 → α1 → α2 → α3 → α4 → α5 → List γ} {P : Program} {w : World} {K : PySem.W.Frag} {mg : Str → Option Value} {base : Heap} {x qual : Str} {params : Arguments} {body : List Stmt} {scope : Scope} {dvs : List V} {kws : List (Str × V)} {fa : Addr} {fd : FuncData} {CX : CXT} {N ps : List Str} {k : Nat}
    (F : FunD K x qual params body scope dvs kws fa fd) (S : FnScope N ps scope) (hl : ps.length = 6)
    (hb : ∀ (cdv : Value) (A : Around) (outer : List Env) (s : Shared) (H : Hp) (E : XK), Room k (A.deeper (envOfC qual scope s.heap.objs.size fa cdv)) → ∃ t, PSs (cxOf CX P w K mg base N qual scope fa cdv A outer s H E).nox body t ∧
      ∀ (wd : Wd) (x0 : V) (x1 : V) (x2 : V) (x3 : V) (x4 : V) (x5 : V) (a0 : α0) (a1 : α1) (a2 : α2) (a3 : α3) (a4 : α4) (a5 : α5) (Q : VK), r0.r K wd.S x0 a0 → r1.r K wd.S x1 a1 → r2.r K wd.S x2 a2 → r3.r K wd.S x3 a3 → r4.r K wd.S x4 a4 → r5.r K wd.S x5 a5 → pre a0 a1 a2 a3 a4 a5 → (∀ p w', Gr wd w' → wd.H p = none → OwnL K w' p rc (f a0 a1 a2 a3 a4 a5) → Q (.ref p) w'.H) → t { nx := fun _ H' => Q .non H', rt := Q } (start N [x0, x1, x2, x3, x4, x5]) wd.H) : FnOk P w K mg base CX (k + 1) fa fd ps (spN6 K r0 r1 r2 r3 r4 r5 pre rc f) :=
  FunD.ok F S (fun vs H Q E h => by obtain ⟨wd, x0, x1, x2, x3, x4, x5, a0, a1, a2, a3, a4, a5, hw, hv, _⟩ := h; rw [hl, hv] <;> rfl) fun cdv A outer s H vs Q E hr h => by
    obtain ⟨t, ht, hq⟩ := hb cdv A outer s H E hr
    obtain ⟨wd, x0, x1, x2, x3, x4, x5, a0, a1, a2, a3, a4, a5, hw, hv, q0, q1, q2, q3, q4, q5, hp, q⟩ := h
    subst hv; subst hw
    exact ⟨t, PSs.nox ht, hq wd x0 x1 x2 x3 x4 x5 a0 a1 a2 a3 a4 a5 Q q0 q1 q2 q3 q4 q5 hp q⟩
section
variable {K : PySem.W.Frag} {σ : L2.St} {w w' : Wd} {ta tb tc te tl : TE} {t u : TT} {α β γ δ : Type} {r : Rep α} {rb : Rep β} {rc : Rep γ} {a : α} {e : Rep α} {l : List α} {D : Ends} {tu tw tz tb : TS} {g : TG}
/-! loops whose target is a name, is a pair of names -/
theorem s_for {wi : TI} {j : Nat} (h : EvI K wi σ w e l) (I : Nat → L2.St → Wd → Prop) (h0 : ∀ w1, Gr w w1 → I 0 σ w1)
    (hs : ∀ i a v σ' w' w2, l[i]? = some a → Ex w.S w'.S → I i σ' w' → Gr w' w2 → e.r K w2.S v a → tb { D with nx := Nxt (I (i + 1)) w', ct := Nxt (I (i + 1)) w', bk := D.nx } (σ'.set j (some v)) w2.H)
    (hd : ∀ σ' w', Ex w.S w'.S → I l.length σ' w' → D.nx σ' w'.H) : tFor wi (gName j) tb D σ w.H := for_core h I h0 hs hd
theorem q_for {wi : TI} {j : Nat} (h : EvI K wi σ w e l) (I : Nat → L2.St → Wd → Prop) (h0 : ∀ w1, Gr w w1 → I 0 σ w1)
    (hs : ∀ i a v σ' w' w2, l[i]? = some a → Ex w.S w'.S → I i σ' w' → Gr w' w2 → e.r K w2.S v a → tb { D with nx := Nxt (I (i + 1)) w', ct := Nxt (I (i + 1)) w', bk := tz D } (σ'.set j (some v)) w2.H)
    (hd : ∀ σ' w', Ex w.S w'.S → I l.length σ' w' → tz D σ' w'.H) : tSeq (tFor wi (gName j) tb) tz D σ w.H := for_core (D := { D with nx := tz D }) h I h0 hs hd
theorem s_for2 {wi : TI} {i j n : Nat} {l : List (α × β)} (h : EvI K wi σ w (Rep.pair e rb) l) (hn : n = 2) (I : Nat → L2.St → Wd → Prop) (h0 : ∀ w1, Gr w w1 → I 0 σ w1)
    (hs : ∀ m a v v' σ' w' w2, l[m]? = some a → Ex w.S w'.S → I m σ' w' → Gr w' w2 → e.r K w2.S v a.1 → rb.r K w2.S v' a.2 → tb { D with nx := Nxt (I (m + 1)) w', ct := Nxt (I (m + 1)) w', bk := D.nx } ((σ'.set i (some v)).set j (some v')) w2.H)
    (hd : ∀ σ' w', Ex w.S w'.S → I l.length σ' w' → D.nx σ' w'.H) : tFor wi (gTup K n (gCons (gName i) (gCons (gName j) gNil))) tb D σ w.H :=
  for_core h I h0 (fun m a v σ' w' w2 x1 x2 x3 x4 x5 => g_pair x5 hn fun v1 v2 y1 y2 => hs m a v1 v2 σ' w' w2 x1 x2 x3 x4 y1 y2) hd
theorem q_for2 {wi : TI} {i j n : Nat} {l : List (α × β)} (h : EvI K wi σ w (Rep.pair e rb) l) (hn : n = 2) (I : Nat → L2.St → Wd → Prop) (h0 : ∀ w1, Gr w w1 → I 0 σ w1)
    (hs : ∀ m a v v' σ' w' w2, l[m]? = some a → Ex w.S w'.S → I m σ' w' → Gr w' w2 → e.r K w2.S v a.1 → rb.r K w2.S v' a.2 → tb { D with nx := Nxt (I (m + 1)) w', ct := Nxt (I (m + 1)) w', bk := tz D } ((σ'.set i (some v)).set j (some v')) w2.H)
    (hd : ∀ σ' w', Ex w.S w'.S → I l.length σ' w' → tz D σ' w'.H) : tSeq (tFor wi (gTup K n (gCons (gName i) (gCons (gName j) gNil))) tb) tz D σ w.H :=
  s_for2 (D := { D with nx := tz D }) h hn I h0 hs hd
/-- while, by a word and a number that falls -/
def Wht (I : Nat → L2.St → Wd → Prop) (m : Nat) : L2.St → Hp → Prop := fun σ H => ∃ w' : Wd, w'.H = H ∧ ∃ m', m' < m ∧ I m' σ w'
theorem s_while (I : Nat → L2.St → Wd → Prop) (m0 : Nat) (h0 : I m0 σ w)
    (hs : ∀ m σ' w', I m σ' w' → ∃ b, EvT K t σ' w' b ∧ (b = true → ∀ w1, Gr w' w1 → tb { D with nx := Wht I m, ct := Wht I m, bk := D.nx } σ' w1.H) ∧ (b = false → ∀ w1, Gr w' w1 → D.nx σ' w1.H)) : tWhile t tb D σ w.H :=
  ⟨fun m σ H => ∃ w' : Wd, w'.H = H ∧ I m σ w', ⟨m0, w, rfl, h0⟩, fun m σ' H hw => by
    obtain ⟨w', rfl, hI⟩ := hw
    obtain ⟨b, hb, h1, h2⟩ := hs m σ' w' hI
    refine hb.run fun w1 g1 => ?_
    cases b with
    | true => exact ⟨Wht I m, fun σ2 H2 hN => by obtain ⟨w2, e2, m', lt, i2⟩ := hN; exact ⟨m', lt, w2, e2, i2⟩, h1 rfl w1 g1⟩
    | false => exact h2 rfl w1 g1⟩
theorem q_while (I : Nat → L2.St → Wd → Prop) (m0 : Nat) (h0 : I m0 σ w)
    (hs : ∀ m σ' w', I m σ' w' → ∃ b, EvT K t σ' w' b ∧ (b = true → ∀ w1, Gr w' w1 → tb { D with nx := Wht I m, ct := Wht I m, bk := tz D } σ' w1.H) ∧ (b = false → ∀ w1, Gr w' w1 → tz D σ' w1.H)) : tSeq (tWhile t tb) tz D σ w.H :=
  s_while (D := { D with nx := tz D }) I m0 h0 hs
theorem nxt {I : L2.St → Wd → Prop} {w w' : Wd} {σ : L2.St} (e : Ex w.S w'.S) (h : I σ w') : Nxt I w σ w'.H := ⟨w', rfl, e, h⟩
theorem wht {I : Nat → L2.St → Wd → Prop} {m m' : Nat} {w' : Wd} {σ : L2.St} (e : m' < m) (h : I m' σ w') : Wht I m σ w'.H := ⟨w', rfl, m', e, h⟩
end
end WK

/-! WK, part 4: rules that the layer lacks: powers of great ints, slices by a step, xs[i] op= e, keywords alone, repr, isinstance of plain values; equality of data. -/
namespace WK
open PySem PySem.Spec PyProof.Rows L2
section
variable {X : Cx}
/-- a power of a great int -/
def CPowW (i j : Int) : Prop := 0 ≤ j ∧ ((Builtin.Int.intBits i : Nat) : Int) * j ≤ 134217728
theorem op_powW : OpR X (binaryOp .Pow) (rI CPowW fun i j => .int (i ^ j.toNat)) :=
  opI fun i j t u s Q E hc q => pow_int hc.1 (Int.le_trans hc.2 (by decide)) q
theorem pow_ok {i j : Int} {n : Nat} (h0 : 0 ≤ j) (hb : i.natAbs < 2 ^ n) (hn : 0 < n) (hj : ((n : Nat) : Int) * j ≤ 134217728) : CPowW i j := by
  refine ⟨h0, Int.le_trans ?_ hj⟩
  refine Int.mul_le_mul_of_nonneg_right ?_ h0
  have h1 := PySem.Flt.log2_lt_of hn hb
  unfold Builtin.Int.intBits
  split <;> omega
/-- a[i], by values -/
theorem get_list : PGet X (rIxL X.K) := by
  intro pins s σ H o i ov iv Q I ro ri h
  obtain ⟨p, xs, k, v, rfl, rfl, hs, hv, q⟩ := h
  cases ro
  obtain ⟨t, rfl⟩ := ri
  obtain ⟨its, rr, pl, hz⟩ := I.list hs
  obtain ⟨j, j1, j2, j3, j4, j5⟩ := atI_get hv
  obtain ⟨u, hu, ru⟩ := rr.get j2
  have hl := rr.length
  have hn := line63
  have fin : EP X pins σ Q u s := ⟨v, H, I, ru, q⟩
  by_cases h0 : 0 ≤ k
  · have hj : k.toNat = j := by
      rw [seqIndex_of h0 j5] at j1
      exact Option.some.inj j1
    exact wpAny_getItem_list pl.isList h0 (by omega) (by rw [hj]; simpa using hu) fin
  · have hj : (k + (its.toArray.size : Int)).toNat = j := by
      rw [seqIndex_neg (by omega) j4] at j1
      rw [List.size_toArray, ← hl]
      exact Option.some.inj j1
    exact wpAny_getItem_list_neg pl.isList (by omega) (by rw [List.size_toArray] <;> omega) (by omega) (by rw [hj]; simpa using hu) fin
/-- what of a list stands at lo, lo + c, .. -/
def stepV {α : Type} (l : List α) (lo c : Nat) : List α := ((List.range l.length).map fun k => lo + c * k).filterMap (l[·]?)
theorem filterMap_cut {α : Type} (l : List α) (lo c : Nat) (hc : 0 < c) : ∀ n, (l.length + c - 1 - lo) / c ≤ n → ((List.range n).map fun k => lo + c * k).filterMap (l[·]?) = ((List.range ((l.length + c - 1 - lo) / c)).map fun k => lo + c * k).filterMap (l[·]?) := by
  intro n hn
  induction n with
  | zero => rw [Nat.le_zero.mp hn]
  | succ n ih =>
    by_cases h : (l.length + c - 1 - lo) / c ≤ n
    · rw [List.range_succ, List.map_append, List.filterMap_append, ih h]
      have : l.length ≤ lo + c * n := by
        have h1 : l.length + c - 1 - lo < c * (n + 1) := by
          have := Nat.lt_mul_div_succ (l.length + c - 1 - lo) hc
          exact Nat.lt_of_lt_of_le this (Nat.mul_le_mul_left _ (by omega))
        rw [Nat.mul_add] at h1
        omega
      simp [List.getElem?_eq_none this]
    · have : (l.length + c - 1 - lo) / c = n + 1 := by omega
      rw [this]
theorem paired_filterMap {α : Type} {F : V → α → Prop} {xs : List V} {l : List α} (h : Paired F xs l) : ∀ ns : List Nat, Paired F (ns.filterMap (xs[·]?)) (ns.filterMap (l[·]?))
  | [] => .nil
  | n :: ns => by
    have ih := paired_filterMap h ns
    cases q : l[n]? with
    | none =>
      have q2 : xs[n]? = none := List.getElem?_eq_none (by rw [paired_len h]; exact List.getElem?_eq_none_iff.mp q)
      rw [List.filterMap_cons, List.filterMap_cons, q, q2]; exact ih
    | some a =>
      obtain ⟨v, q2, r⟩ := paired_get h q
      rw [List.filterMap_cons, List.filterMap_cons, q, q2]; exact .cons r ih
theorem vals_filterMap {xs : List V} {us : List Value} (h : Vals xs us) : ∀ ns : List Nat, Vals (ns.filterMap (xs[·]?)) (ns.filterMap (us[·]?))
  | [] => .nil
  | n :: ns => by
    have ih := vals_filterMap h ns
    cases q : xs[n]? with
    | none => rw [List.filterMap_cons, List.filterMap_cons, q, h.none_of q]; exact ih
    | some a =>
      obtain ⟨v, q2, r⟩ := h.get q
      rw [List.filterMap_cons, List.filterMap_cons, q, q2]; exact .cons r ih
theorem stepV_len {α : Type} (l : List α) (lo c : Nat) : (stepV l lo c).length ≤ l.length := by
  unfold stepV
  refine Nat.le_trans (List.length_filterMap_le _ _) ?_
  simp
def tStep (K : PySem.W.Frag) (te : TE) (tl ts : TO) : TE := fun σ H Q => te σ H fun x H1 => tl σ H1 fun l H2 => ts σ H2 fun o H3 =>
  ∃ a xs, ∃ lo c : Nat, x = .ref a ∧ l = some (lo : Int) ∧ o = some (c : Int) ∧ 0 < c ∧ c < 1000000 ∧ lo ≤ xs.length ∧ SqL K H3 a xs ∧ ∀ p, H3 p = none → Q (.ref p) (upd H3 p (.lst (stepV xs lo c)))
theorem pick_step {us : List Value} {lo c : Nat} (hc : 0 < c) (hlo : lo ≤ us.length) : (slicePick us.toArray (some (lo : Int)) none (some (c : Int))) = (stepV us lo c).toArray := by
  unfold slicePick
  congr 1
  have e1 : (sliceBounds (some (lo : Int)) none (some (c : Int)) us.toArray.size) = ((lo : Int), (us.length : Int), (c : Int)) := by
    unfold sliceBounds
    simp only [Option.getD_some, List.size_toArray]
    rw [if_pos (show (c : Int) > 0 by omega), if_pos (show (c : Int) > 0 by omega)]
    have : ¬ ((lo : Int) < 0) := by omega
    simp only [this, if_false]
    congr 1
    omega
  rw [e1]
  have e2 : sliceRange (lo : Int) (us.length : Int) (c : Int) = (List.range ((us.length + c - 1 - lo) / c)).map fun k => lo + c * k := by
    unfold sliceRange
    simp only []
    rw [if_pos (show (c : Int) > 0 by omega)]
    have e3 : (if (lo : Int) < (us.length : Int) then ((us.length : Int) - (lo : Int) + (c : Int) - 1) / (c : Int) else 0).toNat = (us.length + c - 1 - lo) / c := by
      by_cases h : (lo : Int) < (us.length : Int)
      · rw [if_pos h]
        have : ((us.length : Int) - (lo : Int) + (c : Int) - 1) = ((us.length + c - 1 - lo : Nat) : Int) := by omega
        rw [this, ← Int.natCast_ediv, Int.toNat_natCast]
      · rw [if_neg h]
        have : us.length + c - 1 - lo = c - 1 := by omega
        rw [this, Nat.div_eq_of_lt (by omega)]; rfl
    rw [e3]
    refine List.map_congr_left fun k _ => ?_
    have : (lo : Int) + (c : Int) * (k : Int) = ((lo + c * k : Nat) : Int) := by simp
    rw [this, Int.toNat_natCast]
  rw [e2]
  unfold stepV
  rw [filterMap_cut us lo c hc us.length (by
    rcases Nat.eq_zero_or_pos us.length with h | h
    · rw [h, Nat.div_eq_of_lt (by omega)]; exact Nat.zero_le _
    · refine Nat.div_le_of_le_mul ?_
      have h2 : (c - 1) * (us.length - 1) + us.length + c - 1 = c * us.length := by
        obtain ⟨c', rfl⟩ : ∃ c', c = c' + 1 := ⟨c - 1, by omega⟩
        obtain ⟨n', hn'⟩ : ∃ n', us.length = n' + 1 := ⟨us.length - 1, by omega⟩
        rw [hn']
        simp only [Nat.add_sub_cancel, Nat.add_mul, Nat.mul_add, Nat.one_mul, Nat.mul_one]
        omega
      omega)]
  refine congrArg (fun f => List.filterMap f _) (funext fun i => ?_)
  simp
/-- xs[lo::c] -/
theorem pe_step {e a b : Expr} {te : TE} {tl ts : TO} {p2 pos : Pos} (he : PE X e te) (ha : PO X (some a) tl) (hb : PO X (some b) ts)
    (hsub : ∀ (x y : Value), subscripted (.Slice (some a) none (some b) p2) false x y = operate [x, y] (getItem x y) := by intros; rfl) : PE X (.Subscript e (.Slice (some a) none (some b) p2) pos) (tStep X.K te tl ts) := by
  refine ⟨fun pins s σ H Q I h => ?_⟩
  refine Subscript_ (thn (he.run pins s σ H _ I h) fun v s1 ⟨x, H1, I1, r1, q1⟩ => ?_)
  refine wpAny_Slice (thn (ha.run pins s1 σ H1 _ I1 q1) fun vl s2 ⟨l, H2, I2, pl, q2⟩ => ?_)
  refine thn (po_none.run pins s2 σ H2 (fun o H3 => o = none ∧ H3 = H2) I2 ⟨rfl, rfl⟩) fun vu s3 ⟨u, H3, I3, pu, eu, e3⟩ => ?_
  subst eu; subst e3
  refine thn (hb.run pins s3 σ H3 _ I3 q2) fun vs s4 ⟨o, H4, I4, ps, q4⟩ => ?_
  obtain ⟨p, xs, lo, c, ex, el, eo, hc, hc2, hlo, hx, q⟩ := q4
  subst ex; subst el; subst eo
  cases r1
  have I5 : Inv X pins σ H4 { s4 with heap := s4.heap.push { cls := .type "slice", data := .fields #[vl, vu, vs] } } := I4.kept (t' := s4.toks) fun b ob q => Heap.get?_push_of_some _ q
  obtain ⟨its, r, ht, hz⟩ := I5.list hx
  have hlen := r.length
  refine tail_any (ops := [.ref p, .ref s4.heap.objs.size]) ht.isList.typeIs (PySem.slot_list_getitem.lookup) ?_ (hsub _ _)
  refine wpAny_getItem_list_slice ht.isList (Heap.IsSliceOf.new _ vl vu vs) pl pu ps (by intro z; have := Option.some.inj z; omega) ?_ (by rw [List.size_toArray]; omega)
  rw [pick_step hc (by omega)]
  refine ⟨.ref _, _, I5.laid (t' := s4.toks) (o := .lst (stepV xs lo c)) (fun b ob q => Heap.get?_push_of_some _ q) (Nat.le_refl _) ?_, rfl, q _ (I5.hok.fresh (Nat.le_refl _))⟩
  refine ⟨Nat.le_trans (stepV_len xs lo c) hz, stepV its lo c, 0, ?_, Heap.get?_push_size _ rfl⟩
  unfold stepV
  rw [hlen]
  exact vals_filterMap r _
end
end WK

/-! WK, part 5: defs that lean on what runs around them (repr asks whether it runs within itself): their promise, their call, the law's own call; keywords alone; repr; isinstance. -/
namespace WK
open PySem PySem.Spec PyProof.Rows L2

/-- a def's promise where no repr runs around -/
structure FnG (P : Program) (w : World) (K : PySem.W.Frag) (mg : Str → Option Value) (base : Heap) (CX : CXT) (k : Nat) (f : Addr) (fd : FuncData) (ps : List Str) (sp : Sp) : Prop where
  len : ∀ vs H Q E, sp vs H Q E → vs.length = ps.length
  go : ∀ (A : Around) (out : List Env) (s : Shared) (H : Hp) (args : Args) (us : List Value) (vs : List V) (Q : VK) (E : XK), Room k A → A.guards = some [] →
    Env0 P w K mg base A out s H → BindsTo s fd args (ps.zip us) → Vals vs us → sp vs H Q E → codeAny (model P w) A (.call (.ref f) args) (CR CX out P w H s Q E) s
theorem FnG.of {P : Program} {w : World} {K : PySem.W.Frag} {mg : Str → Option Value} {base : Heap} {CX : CXT} {k : Nat} {f : Addr} {fd : FuncData} {ps : List Str} {sp : Sp}
    (F : FnOk P w K mg base CX k f fd ps sp) : FnG P w K mg base CX k f fd ps sp := ⟨F.len, fun A out s H args us vs Q E hr _ => F.run A out s H args us vs Q E hr⟩
section
variable {P : Program} {w : World} {K : PySem.W.Frag} {mg : Str → Option Value} {base : Heap} {x qual : Str} {params : Arguments} {body : List Stmt} {scope : Scope} {dvs : List V} {kws : List (Str × V)} {f : Addr} {fd : FuncData}
theorem okG {CX : CXT} {N ps : List Str} {k : Nat} {sp : Sp} (F : FunD K x qual params body scope dvs kws f fd) (S : FnScope N ps scope) (len : ∀ vs H Q E, sp vs H Q E → vs.length = ps.length)
    (hb : ∀ (cdv : Value) (A : Around) (out : List Env) (s : Shared) (H : Hp) (vs : List V) (Q : VK) (E : XK), Room k (A.deeper (envOfC qual scope s.heap.objs.size f cdv)) → A.guards = some [] → sp vs H Q E →
      ∃ t, PSs (cxOf CX P w K mg base N qual scope f cdv A out s H E) body t ∧ t { nx := fun _ H' => Q .non H', rt := Q } (start N vs) H) : FnG P w K mg base CX (k + 1) f fd ps sp := by
  obtain ⟨oc, od, dV, kV, doc, pm, an, cdv, ct, osl, rfl, lk, hcd, _, _⟩ := F.ex
  refine ⟨len, fun A out s H args us vs Q E hr hg e0 hbd r hsp => ?_⟩
  have kept : ∀ b o, base.get? b = some o → s.heap.get? b = some o := fun b o e => (e0.bs b o e).1
  have KX := e0.mod.kin.keeps kept
  have how : ∀ y ∈ ps.zip us, scope.names.lookup y.1 = some .local ∨ (scope.names.lookup y.1 = some .cell ∧ ((cellsFrom (s.heap.objs.size + 1) scope.names []).lookup y.1).isSome = true) := by
    intro y hy
    cases S.par y.1 (List.of_mem_zip (a := y.1) (b := y.2) hy).1 with
    | inl q => exact Or.inl q
    | inr q => exact Or.inr ⟨q, PySem.W.cellsFrom_some _ _ _ (Or.inl q)⟩
  refine codeAny_call_function hr.depth (KX _ _ lk) rfl S.co S.gen rfl (PySem.W.codeRec_of KX hcd) (hbd _ _ _ _ (wpAny_newFunctionEnv_cells S.kind how fun env he s1 y => ?_))
  subst he
  refine ⟨(e0.mod.nolimit.keeps kept).keeps y.toInCall.keep, codeAny_func ?_⟩
  obtain ⟨t, ht, hq⟩ := hb cdv A out s H vs Q E (hr.deeper _) hg hsp
  have I := inv_start (CX := CX) (E := E) (N := N) S hr.hd e0 (len _ _ _ _ hsp) r y
  refine wpAny_mono (ht.run [] s1 (start N vs) H _ I hq) (fun fl s' hs => ?_) fun _ _ hs => hs
  cases fl with
  | ret u =>
    obtain ⟨v, _, H', J, rv, q⟩ := hs
    exact ⟨v, H', J.os, J.bare, J.base, J.hok, rv, q⟩
  | next =>
    obtain ⟨_, H', J, q⟩ := hs
    exact ⟨V.non, H', J.os, J.bare, J.base, J.hok, rfl, q⟩
  | brk => obtain ⟨_, _, _, q⟩ := hs; exact q.elim
  | cont => obtain ⟨_, _, _, q⟩ := hs; exact q.elim
end
section
variable {X : Cx} {CX : CXT} {k : Nat} {f : Addr} {fd : FuncData} {ps : List Str} {sp : Sp} {dvs : List V} {ds : List Value} {E : XK} {x : Str} {p pos : Pos} {e : Expr} {es : List Expr} {t : TA}
theorem pe_callG (F : FnG X.prog X.w X.K X.mg X.base CX k f fd ps sp) (hgd : X.A.guards = some []) (hr : Room k X.A) (hg : Gl X x) (hm : X.mg x = some (.ref f)) (hk : PySem.W.keepIn X.K (.ref f) = true) (hb : Binds X.K fd ps ds) (hd : Vals dvs ds) (hx : Passes CX X E)
    (ha : PA X (e :: es) t) (hdb : (x == ("__debug__" : Str)) = false := by decide) (he : starEach (e :: es) X.env = (false, eval e X.env) :: starEach es X.env := by rfl)
    (hpl : (backTo pos (starEach es X.env)).any (·.1) = false := by rfl) : PE X (.Call (.Name x p) (e :: es) [] pos) (tCall sp dvs E t) := by
  refine ⟨fun pins s σ H Q I h => wpAny_Call_Name_kw (ld_glob I hg hm ?_ hdb)⟩
  refine PySem.W.callWith_K (h₀ := X.base) I.ok.mod.kin hk (thn (ha.run pos pins s σ H _ I h) fun us s1 ⟨vs, H1, I1, r, q⟩ => ⟨I1.kIn, ?_⟩) he hpl
  have r2 : Vals (vs ++ dvs) (us ++ ds) := r.append hd
  have hl : (us ++ ds).length = ps.length := r2.length.symm.trans (F.len _ _ _ _ q)
  refine wpAny_call (codeAny_mono (F.go X.A X.stack s1 H1 ⟨us, []⟩ (us ++ ds) (vs ++ dvs) Q E hr hgd I1.env0 (hb s1 us I1.kIn hl) r2 q) fun rr s' hq => ?_)
  cases rr with
  | error e => exact hx pins σ H1 s1 e s' I1 hq
  | ok fl => cases fl with
    | ret u => exact I1.after hq
    | _ => exact hq.elim
end
/-- the law's own call, where the promise leans on what runs around -/
theorem law_callG {P : Program} {w : World} {K : PySem.W.Frag} {mg mb : Str → Option Value} {CX : CXT} {k : Nat} {fa a : Addr} {fd : FuncData} {x : Str} {sp : Sp} {s : Shared} {vs : List Value} {ns : List Int}
    (KX : K.In s.heap) (hns : s.heap.Ns mainGlobals mg) (hb : s.heap.Ns builtinsNs mb) (hbb : ∀ x : Str, x ≠ "__name__" → mb x = bootBuiltins x) (hlim : s.heap.NoLimit) (hg : s.gens = #[])
    (ha : s.heap.get? a = some { cls := .type "list", data := .seq vs.toArray }) (hi : IntsAre vs ns) (hl : ns.length ≤ sizeLine) (hr : Room k callerA)
    (F : ∀ base : Heap, K.In base → base.Ns mainGlobals mg → FnG P w K mg base CX k fa fd [x] sp) (hbind : ∀ (s : Shared) (u : Value), BindsTo s fd ⟨[u], []⟩ [(x, u)])
    (hsp : ∀ H : Hp, Only H → SqL K H a (ns.map V.int) → sp [.ref a] H (fun v _ => v = .bl true) fun _ _ _ => False)
    (hCX : ∀ H e s', CX [] H s (fun _ _ _ => False) e s' → False) :
    codeAny (model P w) callerA (.call (.ref fa) ⟨[.ref a], []⟩) (fun r s' => r = .ok (.ret (.bool true)) ∧ OldK s.heap s'.heap ∧ s'.os = s.os ∧ AllBare s'.gens) s := by
  have rv := vals_ints hi
  have hlen := hi.length
  -- H tracks nothing, or the script alone
  have main : ∀ H : Hp, Only H → SqL K H a (ns.map V.int) → HOk P w H s.heap → (∀ b o, s.heap.get? b = some o → (∃ es ep, o.data = .dict es ep) → H b = none) → (∀ b o, K.lookup b = some o → H b = none) →
      codeAny (model P w) callerA (.call (.ref fa) ⟨[.ref a], []⟩) (fun r s' => r = .ok (.ret (.bool true)) ∧ OldK s.heap s'.heap ∧ s'.os = s.os ∧ AllBare s'.gens) s := by
    intro H hO hS hok hD hK
    have ns_of : ∀ {b : Addr} {m : Str → Option Value}, s.heap.Ns b m → (hidT s.heap H).Ns b m := by
      intro b m h
      obtain ⟨o, es, ep, e, d, r⟩ := h
      exact ⟨o, es, ep, hidT_get e (hD b o e ⟨es, ep, d⟩), d, r⟩
    have hKb : K.In (hidT s.heap H) := fun b o e => hidT_get (KX b o e) (hK b o e)
    obtain ⟨mc, l1, l2⟩ := hlim
    have hM : Mod K mg (hidT s.heap H) := { kin := hKb, glob := ns_of hns, blt := ⟨mb, ns_of hb, hbb⟩, nolimit := ⟨mc, ns_of l1, l2⟩ }
    have e0 : Env0 P w K mg (hidT s.heap H) callerA [] s H :=
      { frames := rfl, mod := hM, bs := fun b o e => of_hidT e, bsz := Nat.le_of_eq (hidT_size _ _), funs := trivial, frf := fun b hb => absurd hb (List.not_mem_nil), hok := hok, bare := .of_eq hg }
    refine codeAny_mono ((F _ hKb (ns_of hns)).go callerA [] s H ⟨[.ref a], []⟩ [.ref a] [.ref a] _ _ hr rfl e0 (hbind s (.ref a)) (.cons rfl .nil) (hsp H hO hS)) fun r s' h => ?_
    cases r with
    | error e => exact (hCX H e s' h).elim
    | ok fl => cases fl with
      | ret u =>
        obtain ⟨v, H', os, bare, un, hok', r', q⟩ := h
        cases (show v = .bl true from q)
        cases (show u = Value.bool true from r')
        refine ⟨rfl, OldK.of_keep fun b o e => ?_, os, bare⟩
        rcases hO b with z | ⟨ob, xs, z⟩
        · exact un.keep b o e z List.not_mem_nil List.not_mem_nil
        · have q1 := (hok b _ z).1
          have q2 := (hok' b _ (un.frzs b ob _ z)).1
          rw [e] at q1
          cases q1
          exact q2
      | _ => exact h.elim
  cases hk : K.lookup a with
  | some o =>
    have e := KX a o hk
    rw [ha] at e
    cases e
    exact main (fun _ => none) (fun _ => Or.inl rfl) (Or.inr ⟨_, vs.toArray, _, hk, rfl, rfl, rfl, by rw [List.size_toArray, hlen]; exact hl, by simpa using rv⟩) (fun b u z => nomatch (show (none : Option HO) = some u from z)) (fun _ _ _ _ => rfl) fun _ _ _ => rfl
  | none =>
    have hin : ∀ b, b ≠ a → (if b = a then some (HO.frz { cls := .type "list", data := .seq vs.toArray } (.lst (ns.map V.int))) else none) = none := fun b hb => if_neg hb
    refine main (fun b => if b = a then some (.frz { cls := .type "list", data := .seq vs.toArray } (.lst (ns.map V.int))) else none) (fun b => ?_) (Or.inl (Or.inr ⟨_, if_pos rfl⟩)) (fun b u z => ?_) (fun b o e hd => ?_) fun b o e => ?_
    · by_cases q : b = a
      · exact Or.inr ⟨_, _, if_pos q⟩
      · exact Or.inl (hin b q)
    · by_cases q : b = a
      · have z2 := (if_pos q).symm.trans z
        cases z2
        subst q
        exact ⟨ha, by rw [List.length_map]; exact hl, vs, _, rv, ha⟩
      · have z2 := (hin b q).symm.trans z
        cases z2
    · refine hin b fun q => ?_
      subst q
      obtain ⟨es, ep, d⟩ := hd
      rw [ha] at e
      cases e
      cases d
    · refine hin b fun q => ?_
      subst q
      rw [hk] at e
      cases e
/-- a law over a head by facts, the script's bits told -/
theorem walk_G {l : PySem.W.OpenLaw} {n k : Nat} {q : Program} {loose : List Str} {XP : (Str → Option Value) → Heap → Prop} {YP : World → Heap → Prop} {d : DefRec} {CX : CXT} {x : Str}
    (hn : l.most = some n) (hn2 : n ≤ sizeLine) (hdf : d.params.defaults = []) (hr : Room k callerA)
    (F : ∀ (w : World) (mg : Str → Option Value) (fa : Addr) (h : Heap), YP w h → h.Ns mainGlobals mg → mg d.name = some (.ref fa) →
      ∃ (K : PySem.W.Frag) (fd : FuncData) (sp : Sp), K.In h ∧ (∀ (s : Shared) (u : Value), BindsTo s fd ⟨[u], []⟩ [(x, u)]) ∧
        (∀ (H : Hp) (a : Addr) (ns : List Int), ns.length ≤ n → (∀ z ∈ ns, Builtin.Int.intBits z ≤ 1048576) → Only H → SqL K H a (ns.map V.int) → sp [.ref a] H (fun v _ => v = .bl true) fun _ _ _ => False) ∧
        ∀ base : Heap, K.In base → base.Ns mainGlobals mg → FnG l.prog w K mg base CX k fa fd [x] sp)
    (hCX : ∀ (H : Hp) (s : Shared) (e : Value) (s' : Shared), CX [] H s (fun _ _ _ => False) e s' → False) :
    PySem.W.WalkO q loose XP YP l.row.toRowW d [] (fun f vs => PySem.call f vs) := by
  refine Att.attach_callB hn hdf fun w s₀ s₁ mg mb fa o pm cd doc a vs ns G Y ho hd hcd hmg hobj hints hlen hbits hg => ?_
  obtain ⟨K, fd, sp, KX, hb, hsp, hF⟩ := F w mg fa _ Y G.T.g hmg
  exact law_callG KX G.T.g G.T.b G.T.builtins G.T.nolimit hg hobj hints (Nat.le_trans hlen hn2) hr hF hb (fun H hO hS => hsp H a ns hlen hbits hO hS) fun H e s' => hCX H s₁ e s'
/-! ### keywords alone, in the opposite sequence of the parameters -/
theorem vals_rev : ∀ {vs : List V} {us : List Value}, Vals vs us → Vals vs.reverse us.reverse
  | _, _, .nil => .nil
  | _, _, .cons r t => by rw [List.reverse_cons, List.reverse_cons]; exact (vals_rev t).append (.cons r .nil)
def KRev (fd : FuncData) (ps : List Str) : Prop := ∀ (s : Shared) (ws : List Value), ws.length = ps.length → BindsTo s fd ⟨[], ps.reverse.zip ws⟩ (ps.zip ws.reverse)
def tCallR (sp : Sp) (E : XK) (t : TA) : TE := fun σ H Q => t σ H fun zs H1 => sp zs.reverse H1 Q E
section
variable {X : Cx} {CX : CXT} {k : Nat} {f : Addr} {fd : FuncData} {ps : List Str} {sp : Sp} {E : XK} {x : Str} {p pos : Pos} {kws : List Keyword} {t : TA}
theorem pe_callR (F : FnOk X.prog X.w X.K X.mg X.base CX k f fd ps sp) (hr : Room k X.A) (hg : Gl X x) (hm : X.mg x = some (.ref f)) (hk : PySem.W.keepIn X.K (.ref f) = true) (hb : KRev fd ps) (hx : Passes CX X E)
    (hkw : PK X kws t) (hall : (backToKw pos (keywordEach kws X.env)).all (·.1.isSome) = true := by rfl) (hks : (backToKw pos (keywordEach kws X.env)).filterMap (·.1) = ps.reverse := by rfl)
    (hdb : (x == ("__debug__" : Str)) = false := by decide) (hpl : ((backTo pos (starEach [] X.env)).any (·.1) || (backToKw pos (keywordEach kws X.env)).any (·.1.isNone)) = false := by rfl) :
    PE X (.Call (.Name x p) [] kws pos) (tCallR sp E t) := by
  refine ⟨fun pins s σ H Q I h => wpAny_Call_Name_kw (ld_glob I hg hm ?_ hdb)⟩
  refine PySem.W.callWith_KW0 (h₀ := X.base) I.ok.mod.kin hk hall (thn (hkw.run pos pins s σ H _ I h) fun ws s1 ⟨zs, H1, I1, rz, q⟩ => ⟨I1.kIn, ?_⟩) hpl
  rw [hks]
  have r2 := vals_rev rz
  have hl : ws.length = ps.length := by
    have := (F.len _ _ _ _ q)
    rw [List.length_reverse] at this
    rw [← rz.length, this]
  refine wpAny_call (codeAny_mono (F.run X.A X.stack s1 H1 ⟨[], _⟩ ws.reverse zs.reverse Q E hr I1.env0 (hb s1 ws hl) r2 q) fun rr s' hq => ?_)
  cases rr with
  | error e => exact hx pins σ H1 s1 e s' I1 hq
  | ok fl => cases fl with
    | ret u => exact I1.after hq
    | _ => exact hq.elim
end
theorem callR_eq {sp : Sp} {E : XK} {t0 t1 t2 : TE} {σ : L2.St} {H : Hp} {Q : VK} : tCallR sp E (tCons t0 (tCons t1 (tCons t2 tNil))) σ H Q = (t0 σ H fun a H1 => t1 σ H1 fun b H2 => t2 σ H2 fun c H3 => sp [c, b, a] H3 Q E) := rfl
/-! ### data -/
/-- a kind of value as plain data: what it is, its depth; equal data are equal values -/
structure RD {α : Type} (e : Rep α) (f : α → PyData) (n : Nat) : Prop where
  dp : ∀ K H v a, e.r K H v a → Dp K H v (f a)
  can : ∀ a, (f a).canLay0 = true
  dep : ∀ a, (f a).depth ≤ n
  eq : ∀ a b, PyData.eqv (f a) (f b) = true → a = b
  re : ∀ a, PyData.eqv (f a) (f a) = true
  nd : ∀ a, (f a).hasDict = false
theorem rd_int : RD Rep.int PyData.int 0 := ⟨fun K H v a h => by cases h; exact .int a, fun _ => rfl, fun _ => Nat.le_refl _, fun a b h => by simpa [PyData.eqv] using h, fun a => by simp [PyData.eqv], fun _ => rfl⟩
theorem rd_bl : RD Rep.bl PyData.bool 0 := ⟨fun K H v a h => by cases h; exact .bl a, fun _ => rfl, fun _ => Nat.le_refl _, fun a b h => by simpa [PyData.eqv] using h, fun a => by simp [PyData.eqv], fun _ => rfl⟩
theorem rd_non : RD Rep.non (fun _ => PyData.none) 0 := ⟨fun K H v a h => by cases h; exact .non, fun _ => rfl, fun _ => Nat.le_refl _, fun a b h => rfl, fun a => by simp [PyData.eqv], fun _ => rfl⟩
theorem dpAll_of {α : Type} {e : Rep α} {f : α → PyData} {n : Nat} (h : RD e f n) {K : PySem.W.Frag} {H : Hp} : ∀ {xs : List V} {l : List α}, Paired (e.r K H) xs l → DpAll K H xs (l.map f)
  | _, _, .nil => .nil
  | _, _, .cons r t => .cons (h.dp _ _ _ _ r) (dpAll_of h t)
theorem rd_list {α : Type} {e : Rep α} {f : α → PyData} {n : Nat} (h : RD e f n) : RD (Rep.list e) (fun l => PyData.list (l.map f)) (n + 1) where
  dp := fun K H v l q => by obtain ⟨a, xs, rfl, hs, hp⟩ := q; exact .lst hs (dpAll_of h hp)
  can := fun l => by
    show PyData.canLayAll0 (l.map f) = true
    induction l with
    | nil => rfl
    | cons a r ih => show (PyData.canLay0 (f a) && _) = true; rw [h.can a, ih]; rfl
  dep := fun l => by
    show PyData.depthAll (l.map f) + 1 ≤ n + 1
    refine Nat.succ_le_succ ?_
    induction l with
    | nil => exact Nat.zero_le _
    | cons a r ih => exact Nat.max_le.mpr ⟨h.dep a, ih⟩
  eq := fun l m q => by
    have q' : PyData.eqvAll (l.map f) (m.map f) = true := by simpa only [PyData.eqv] using q
    clear q
    induction l generalizing m with
    | nil => cases m with
      | nil => rfl
      | cons b s => simp [PyData.eqvAll] at q'
    | cons a r ih => cases m with
      | nil => simp [PyData.eqvAll] at q'
      | cons b s =>
        simp only [List.map_cons, PyData.eqvAll, Bool.and_eq_true] at q'
        rw [h.eq a b q'.1, ih s q'.2]
  re := fun l => by
    have : PyData.eqvAll (l.map f) (l.map f) = true := by
      induction l with
      | nil => simp [PyData.eqvAll]
      | cons a r ih => simp only [List.map_cons, PyData.eqvAll, h.re a, ih, Bool.and_self]
    simpa only [PyData.eqv] using this
  nd := fun l => by
    show PyData.hasDictAll (l.map f) = false
    induction l with
    | nil => rfl
    | cons a r ih => show (PyData.hasDict (f a) || _) = false; rw [h.nd a, ih]; rfl
theorem rd_pair {α β : Type} {e : Rep α} {e2 : Rep β} {f : α → PyData} {g : β → PyData} {n m : Nat} (h : RD e f n) (h2 : RD e2 g m) : RD (Rep.pair e e2) (fun x => PyData.tuple [f x.1, g x.2]) (max n m + 1) where
  dp := fun K H v l q => by obtain ⟨a, x, y, rfl, hs, h3, h4⟩ := q; exact .tup hs (.cons (h.dp _ _ _ _ h3) (.cons (h2.dp _ _ _ _ h4) .nil))
  can := fun x => by show (PyData.canLay0 (f x.1) && (PyData.canLay0 (g x.2) && true)) = true; rw [h.can, h2.can]; rfl
  dep := fun x => by
    show max (f x.1).depth (max (g x.2).depth 0) + 1 ≤ _
    have := h.dep x.1
    have := h2.dep x.2
    omega
  eq := fun x y q => by
    simp only [PyData.eqv, PyData.eqvAll, Bool.and_true, Bool.and_eq_true] at q
    exact Prod.ext (h.eq _ _ q.1) (h2.eq _ _ q.2)
  re := fun x => by simp only [PyData.eqv, PyData.eqvAll, h.re, h2.re, Bool.and_self]
  nd := fun x => by show (PyData.hasDict (f x.1) || (PyData.hasDict (g x.2) || false)) = false; rw [h.nd, h2.nd]; rfl
theorem RD.eqv {α : Type} [DecidableEq α] {e : Rep α} {f : α → PyData} {n : Nat} (h : RD e f n) (a b : α) : PyData.eqv (f a) (f b) = decide (a = b) := by
  by_cases q : a = b
  · subst q; rw [h.re]; simp
  · rw [decide_eq_false q]
    cases z : PyData.eqv (f a) (f b) with
    | false => rfl
    | true => exact absurd (h.eq a b z) q
theorem RD.shaped {α : Type} {e : Rep α} {f : α → PyData} {n : Nat} (h : RD e f n) (hn : n ≤ 64) (a : α) : SeqAt.shaped (f a) = true := by
  unfold SeqAt.shaped
  rw [h.can a, decide_eq_true (Nat.le_trans (h.dep a) hn)]; rfl
section
variable {K : PySem.W.Frag} {σ : L2.St} {w : Wd} {ta tb : TE} {α : Type} [DecidableEq α] {e : Rep α} {a b : α} {f : α → PyData} {n : Nat}
theorem ev_eqD (h : RD e f n) (ha : EvD K ta σ w e a) (hb : EvD K tb σ w e b) (hn : n ≤ 64 := by decide) : EvD K (tOp (rEqD K) ta tb) σ w Rep.bl (decide (a = b)) := fun w1 g Q q =>
  ha w1 g _ fun v w2 g2 x => hb w2 (g.trans g2) _ fun v' w3 g3 y => ⟨f a, f b, (h.dp _ _ _ _ (e.m (g3.s.trans w3.ex) x)), h.dp _ _ _ _ (e.m w3.ex y), h.shaped hn _, h.shaped hn _, q _ w3 (g2.trans g3) (by rw [h.eqv]; rfl)⟩
theorem ev_neD (h : RD e f n) (ha : EvD K ta σ w e a) (hb : EvD K tb σ w e b) (hn : n ≤ 64 := by decide) : EvD K (tOp (rNeD K) ta tb) σ w Rep.bl (!decide (a = b)) := fun w1 g Q q =>
  ha w1 g _ fun v w2 g2 x => hb w2 (g.trans g2) _ fun v' w3 g3 y => ⟨f a, f b, (h.dp _ _ _ _ (e.m (g3.s.trans w3.ex) x)), h.dp _ _ _ _ (e.m w3.ex y), h.shaped hn _, h.shaped hn _, q _ w3 (g2.trans g3) (by rw [h.eqv]; rfl)⟩
end
/-! ### repr of lists, tuples -/
def rRepr (K : PySem.W.Frag) : List V → Hp → VK → Prop := fun xs H Q => ∃ (p : Addr) (d : PyData), xs = [.ref p] ∧ Dp K H (.ref p) d ∧ d.hasDict = false ∧ d.showable = true ∧ d.depth ≤ 64 ∧ d.shown.length ≤ sizeLine ∧ Q (.str d.shown) H
theorem call_repr {X : Cx} {k : Nat} (hg : X.A.guards = some []) (hr : Room k X.A) : CallR X (.builtin "repr") (rRepr X.K) := by
  intro pins s σ H xs us Q I r h
  obtain ⟨p, d, rfl, hd, hnd, hs, hdep, hsz, q⟩ := h
  obtain ⟨u, rfl, rx⟩ := vals1 r
  obtain ⟨as, rr⟩ := Dp.reads I d _ u hd rx
  cases (show u = Value.ref p from rx)
  have hu := hr.un
  exact repr_of_reads' rr hs (fun z => by rw [hnd] at z; cases z) hg (by omega) (fun _ _ z => z) (fun h' t tk hk => ⟨.str d.shown, H, I.kept hk, ⟨t, rfl⟩, q⟩) hsz
theorem ev_repr {K : PySem.W.Frag} {σ : L2.St} {w : Wd} {ta : TE} {α : Type} {e : Rep α} {a : α} {f : α → PyData} {n : Nat} (h : RD e f n) (ha : EvD K ta σ w e a) (hv : ∀ K H v a, e.r K H v a → ∃ p, v = .ref p) (hs : (f a).showable = true) (hz : (f a).shown.length ≤ sizeLine) (hn : n ≤ 64 := by decide) :
    EvD K (tCB (rRepr K) (tCons ta tNil)) σ w Rep.str (f a).shown := fun w1 g Q q => ha w1 g _ fun v w2 g2 x => by
  obtain ⟨p, rfl⟩ := hv _ _ _ _ x
  exact ⟨p, f a, rfl, h.dp _ _ _ _ (e.m w2.ex x), h.nd a, hs, Nat.le_trans (h.dep a) hn, hz, q _ w2 g2 rfl⟩
theorem ref_list {α : Type} {e : Rep α} : ∀ K H v (a : List α), (Rep.list e).r K H v a → ∃ p, v = .ref p := fun _ _ _ _ h => by obtain ⟨p, _, rfl, _⟩ := h; exact ⟨p, rfl⟩
theorem ref_pair {α β : Type} {e : Rep α} {e2 : Rep β} : ∀ K H v (a : α × β), (Rep.pair e e2).r K H v a → ∃ p, v = .ref p := fun _ _ _ _ h => by obtain ⟨p, _, _, rfl, _⟩ := h; exact ⟨p, rfl⟩
end WK
namespace WK
open PySem PySem.Spec PyProof.Rows L2
theorem FunD.revN {K : PySem.W.Frag} {x qual : Str} {params : Arguments} {body : List Stmt} {scope : Scope} {kws : List (Str × V)} {f : Addr} {fd : FuncData} {ps : List Str} (F : FunD K x qual params body scope [] kws f fd)
    (h : ∀ (kV doc pm : Value) (an : Option Addr) (cdv ct : Value) (us : List Value), us.length = ps.length → bindArgs (PySem.W.fnOf x qual params body scope .none kV doc pm an cdv ct) ⟨[], ps.reverse.zip us⟩ = pure (ps.zip us.reverse)) : KRev fd ps := by
  obtain ⟨oc, od, dV, kV, doc, pm, an, cdv, ct, osl, rfl, lk, hcd, hD, hK⟩ := F.ex
  rcases hD with ⟨_, rfl⟩ | ⟨e, _⟩
  · exact fun s us hl => .of_eq (h kV doc pm an cdv ct us hl)
  · exact absurd rfl e
end WK

/-! WK, part 6: short words for the walks; growth from a def's entry. -/
namespace WK
open PySem PySem.Spec PyProof.Rows L2
section
variable {K : PySem.W.Frag} {σ : L2.St} {w w' w0 : Wd} {ta tb tc te tl : TE} {t u : TT} {α β γ δ : Type} {r : Rep α} {rb : Rep β} {rc : Rep γ} {a : α} {e : Rep α} {l : List α} {v : V} {p : Addr}
theorem rp_gr (g : Gr w w') (h : r.r K w.S v a) : r.r K w'.S v a := r.m g.s h
theorem rp_mt (g : Mt p w w') (h : r.r K w.S v a) : r.r K w'.S v a := r.m g.s h
theorem rp_ex (g : Ex w.S w'.S) (h : r.r K w.S v a) : r.r K w'.S v a := r.m g h
/-- growth from the entry -/
structure GrC (w0 w : Wd) : Prop where
  g : Gr w0 w
theorem gc_refl : GrC w0 w0 := ⟨Gr.refl _⟩
theorem gc_gr (c : GrC w0 w) (g : Gr w w') : GrC w0 w' := ⟨c.g.trans g⟩
theorem gc_mt (c : GrC w0 w) (m : Mt p w w') (h : w0.H p = none) : GrC w0 w' := ⟨m.gr w0 c.g h⟩
theorem gc_new (c : GrC w0 w) (h : w.H p = none) : w0.H p = none := fr_back c.g h
theorem ev_varI {i : Nat} {x : Int} (h : σ[i]? = some (some (.int x))) : EvD K (tVar i) σ w Rep.int x := ev_var h rfl
theorem ev_varB {i : Nat} {x : Bool} (h : σ[i]? = some (some (.bl x))) : EvD K (tVar i) σ w Rep.bl x := ev_var h rfl
theorem ev_varS {i : Nat} {x : Str} (h : σ[i]? = some (some (.str x))) : EvD K (tVar i) σ w Rep.str x := ev_var h rfl
theorem ev_gt {x y : Int} (ha : EvD K ta σ w Rep.int x) (hb : EvD K tb σ w Rep.int y) : EvD K (tOp (rI0 fun i j => .bl (decide (j < i))) ta tb) σ w Rep.bl (decide (y < x)) := ev_I0 ha hb fun _ => rfl
theorem ev_ge {x y : Int} (ha : EvD K ta σ w Rep.int x) (hb : EvD K tb σ w Rep.int y) : EvD K (tOp (rI0 fun i j => .bl (decide (j ≤ i))) ta tb) σ w Rep.bl (decide (y ≤ x)) := ev_I0 ha hb fun _ => rfl
theorem ev_mod {x y : Int} (ha : EvD K ta σ w Rep.int x) (hb : EvD K tb σ w Rep.int y) (h : 0 < y) : EvD K (tOp (rI (fun _ j => 0 < j) fun i j => .int (i % j)) ta tb) σ w Rep.int (x % y) := ev_I ha hb h fun _ => rfl
theorem ev_div {x y : Int} (ha : EvD K ta σ w Rep.int x) (hb : EvD K tb σ w Rep.int y) (h : CDivW x y) : EvD K (tOp (rI CDivW fun i j => .int (i / j)) ta tb) σ w Rep.int (x / y) := ev_I ha hb h fun _ => rfl
theorem ev_mul {x y : Int} (ha : EvD K ta σ w Rep.int x) (hb : EvD K tb σ w Rep.int y) (h : CMulW x y) : EvD K (tOp (rI CMulW fun i j => .int (i * j)) ta tb) σ w Rep.int (x * y) := ev_I ha hb h fun _ => rfl
theorem ev_pow {x y : Int} (ha : EvD K ta σ w Rep.int x) (hb : EvD K tb σ w Rep.int y) (h : CPowW x y) : EvD K (tOp (rI CPowW fun i j => .int (i ^ j.toNat)) ta tb) σ w Rep.int (x ^ y.toNat) := ev_I ha hb h fun _ => rfl
theorem ev_leLe {x y z : Int} (ha : EvD K ta σ w Rep.int x) (hb : EvD K tb σ w Rep.int y) (hc : EvD K tc σ w Rep.int z) : EvD K (tChain (rI0 fun i j => .bl (decide (i ≤ j))) (rI0 fun i j => .bl (decide (i ≤ j))) ta tb tc) σ w Rep.bl (decide (x ≤ y) && decide (y ≤ z)) :=
  ev_chain ha hb hc (fun _ _ q => ⟨_, _, rfl, rfl, q⟩) fun _ _ q => ⟨_, _, rfl, rfl, q⟩
theorem ev_leLt {x y z : Int} (ha : EvD K ta σ w Rep.int x) (hb : EvD K tb σ w Rep.int y) (hc : EvD K tc σ w Rep.int z) : EvD K (tChain (rI0 fun i j => .bl (decide (i ≤ j))) (rI0 fun i j => .bl (decide (i < j))) ta tb tc) σ w Rep.bl (decide (x ≤ y) && decide (y < z)) :=
  ev_chain ha hb hc (fun _ _ q => ⟨_, _, rfl, rfl, q⟩) fun _ _ q => ⟨_, _, rfl, rfl, q⟩
/-- what is read of an own list of which the place is known -/
theorem ev_lenO {i : Nat} {p : Addr} (o : OwnL K w p e l) (hi : σ[i]? = some (some (.ref p))) : EvD K (tCB (Evl.rLenS K) (tCons (tVar i) tNil)) σ w Rep.int (l.length : Int) := fun w1 g Q q => by
  obtain ⟨xs, ow, hp⟩ := o.gr g
  exact ⟨_, hi, p, xs, rfl, .inl (SqL.of ow.h), q _ w1 (Gr.refl _) (by rw [paired_len hp]; rfl)⟩
/-- isinstance of plain values -/
def V.tyn : V → Option String
  | .non => some "NoneType" | .bl _ => some "bool" | .int _ => some "int" | .str _ => some "str" | _ => none
theorem rel_ty (n : String) : RelV (.ty n) (.type n) := rfl
theorem isi_run {x : V} {t : Value} {n : String} {b : Bool} {H : Hp} {Q : VK} (hx : TyX K H x t) (hk : PySem.W.kitOne K t (.type n) = some b) (q : Q (.bl b) H) : rIsi K [x, .ty n] H Q := ⟨x, .ty n, t, .type n, b, rfl, .ty n, hx, hk, q⟩
theorem list_ty {S : Hp} {H : Hp} (x : Ex S H) {v : V} {l : List α} (h : (Rep.list e).r K S v l) : TyX K H v (.type "list") := by
  obtain ⟨a, xs, rfl, hs, _⟩ := h
  rcases hs with (h | ⟨o, h⟩) | ⟨o, its, n, h, hc, _⟩
  · exact .base (.lst (x _ _ h))
  · exact .base (.frz (x _ _ h))
  · exact .kList h hc
theorem ev_isi {n : String} {te : TE} {b : Bool} (h : ∀ w1, Gr w w1 → ∀ Q : VK, (∀ v w2, Gr w1 w2 → (∃ t, TyX K w2.H v t ∧ PySem.W.kitOne K t (.type n) = some b) → Q v w2.H) → te σ w1.H Q) : EvD K (tCB (rIsi K) (tCons te (tCons (tC (.ty n)) tNil))) σ w Rep.bl b := fun w1 g Q q =>
  h w1 g _ fun v w2 g2 ⟨t, h1, h2⟩ => isi_run h1 h2 (q _ w2 g2 rfl)
theorem ev_isiL {te : TE} (h : EvD K te σ w (Rep.list e) l) {n : String} {b : Bool} (hk : kitB "list" n = some b) : EvD K (tCB (rIsi K) (tCons te (tCons (tC (.ty n)) tNil))) σ w Rep.bl b :=
  ev_isi fun w1 g Q q => h w1 g Q fun v w2 g2 x => q v w2 g2 ⟨_, list_ty w2.ex x, kit_ty hk⟩
theorem ev_isiI {te : TE} {x : Int} (h : EvD K te σ w Rep.int x) {n : String} {b : Bool} (hk : kitB "int" n = some b) : EvD K (tCB (rIsi K) (tCons te (tCons (tC (.ty n)) tNil))) σ w Rep.bl b :=
  ev_isi fun w1 g Q q => h w1 g Q fun v w2 g2 x => q v w2 g2 ⟨_, by cases x; exact .base (.int _), kit_ty hk⟩
theorem ev_isiB {te : TE} {x : Bool} (h : EvD K te σ w Rep.bl x) {n : String} {b : Bool} (hk : kitB "bool" n = some b) : EvD K (tCB (rIsi K) (tCons te (tCons (tC (.ty n)) tNil))) σ w Rep.bl b :=
  ev_isi fun w1 g Q q => h w1 g Q fun v w2 g2 x => q v w2 g2 ⟨_, by cases x; exact .base (.bl _), kit_ty hk⟩
/-- list(range(..)) -/
theorem en_rg1 {n : Int} (h : EvD K te σ w Rep.int n) (hn : 0 ≤ n ∧ n ≤ 100000) : EvN K (tLstRg (tRg1 te)) σ w Rep.int (irange 0 n) := fun w1 g Q q =>
  h w1 g _ fun v w2 g2 x => ⟨n, x, ⟨by omega, by omega, by omega, by omega, by omega⟩, fun p np => q p (w2.new p _ np) (g2.trans (gr_new np)) (fr_back g2 np) ⟨_, own_new np, by
    have : rgV 0 n = (irange 0 n).map V.int := by unfold rgV irange; rw [List.map_map]; rfl
    rw [this]; exact ints_paired _⟩⟩
theorem en_rg2 {lo n : Int} (h : EvD K ta σ w Rep.int lo) (h2 : EvD K tb σ w Rep.int n) (hn : 0 ≤ lo ∧ lo ≤ 100000 ∧ 0 ≤ n ∧ n ≤ 100000) : EvN K (tLstRg (tRg2 ta tb)) σ w Rep.int (irange lo n) := fun w1 g Q q =>
  h w1 g _ fun v w2 g2 x => h2 w2 (g.trans g2) _ fun v' w3 g3 x' => ⟨lo, n, x, x', ⟨by omega, by omega, by omega, by omega, by omega⟩, fun p np => q p (w3.new p _ np) ((g2.trans g3).trans (gr_new np)) (fr_back (g2.trans g3) np) ⟨_, own_new np, by
    have : rgV lo n = (irange lo n).map V.int := by unfold rgV irange; rw [List.map_map]; rfl
    rw [this]; exact ints_paired _⟩⟩
/-- sorted of ints -/
theorem perm_sorted_uniq {l m : List Int} (h : l.Perm m) (h1 : l.Pairwise (· ≤ ·)) (h2 : m.Pairwise (· ≤ ·)) : l = m := by
  refine List.Perm.eq_of_pairwise (le := (· ≤ ·)) ?_ h1 h2 h
  intro a b _ _ h1 h2
  exact Int.le_antisymm h1 h2
end
end WK

/-! WK, part 7: own dicts with ints as keys, tuples walked, raw items. -/
namespace WK
open PySem PySem.Spec PyProof.Rows L2
/-! ### tables -/
section
variable {β : Type}
def getI (m : List (Int × β)) (n : Int) : Option β := (m.find? fun p => decide (p.1 = n)).map (·.2)
def putI (m : List (Int × β)) (n : Int) (b : β) : List (Int × β) :=
  if (m.any fun p => decide (p.1 = n)) = true then m.map (fun p => if p.1 = n then (p.1, b) else p) else m ++ [(n, b)]
theorem getI_nil {n : Int} : getI ([] : List (Int × β)) n = none := rfl
theorem getI_cons {p : Int × β} {r : List (Int × β)} {n : Int} : getI (p :: r) n = if p.1 = n then some p.2 else getI r n := by
  unfold getI
  rw [List.find?_cons]
  by_cases e : p.1 = n
  · simp [e]
  · simp [e]
theorem getI_any {n : Int} : ∀ m : List (Int × β), (m.any fun p => decide (p.1 = n)) = (getI m n).isSome
  | [] => rfl
  | p :: r => by
    rw [List.any_cons, getI_cons, getI_any r]
    by_cases e : p.1 = n
    · simp [e]
    · simp [e]
theorem getI_app {n : Int} (m k : List (Int × β)) : getI (m ++ k) n = (getI m n).or (getI k n) := by
  induction m with
  | nil => simp [getI_nil]
  | cons p r ih =>
    rw [List.cons_append, getI_cons, getI_cons, ih]
    split <;> simp
theorem getI_map {n j : Int} {b : β} : ∀ m : List (Int × β), getI (m.map fun p => if p.1 = n then (p.1, b) else p) j = (getI m j).map fun x => if j = n then b else x
  | [] => rfl
  | p :: r => by
    rw [List.map_cons, getI_cons, getI_cons, getI_map r]
    by_cases e : p.1 = n
    · simp only [e, if_true]
      by_cases e2 : n = j
      · subst e2; simp
      · have : ¬ j = n := fun z => e2 z.symm
        simp [e2, this]
    · simp only [e, if_false]
      by_cases e2 : p.1 = j
      · subst e2; simp [e]
      · simp [e2]
theorem getI_put {m : List (Int × β)} {n j : Int} {b : β} : getI (putI m n b) j = if j = n then some b else getI m j := by
  unfold putI
  by_cases h : (m.any fun p => decide (p.1 = n)) = true
  · rw [if_pos h, getI_map]
    rw [getI_any] at h
    by_cases e : j = n
    · subst e
      obtain ⟨x, hx⟩ := Option.isSome_iff_exists.mp h
      rw [hx]; simp
    · simp [e]
  · rw [if_neg h, getI_app]
    rw [getI_any] at h
    by_cases e : j = n
    · subst e
      have : getI m j = none := by cases q : getI m j with
        | none => rfl
        | some x => rw [q] at h; exact absurd rfl h
      rw [this, getI_cons]; simp
    · rw [getI_cons, getI_nil, if_neg (fun z => e z.symm), if_neg e]; simp
theorem putI_len {m : List (Int × β)} {n : Int} {b : β} : (putI m n b).length ≤ m.length + 1 := by
  unfold putI; split <;> simp
end
/-! ### an own dict -/
def PD {β : Type} (K : PySem.W.Frag) (S : Hp) (rv : Rep β) : (Key × V) → (Int × β) → Prop := fun kv p => kv.1 = Sum.inl p.1 ∧ rv.r K S kv.2 p.2
def OwnD {β : Type} (K : PySem.W.Frag) (w : Wd) (d : Addr) (rv : Rep β) (m : List (Int × β)) : Prop := ∃ kvs, Own w d (.dK kvs) ∧ Paired (PD K w.S rv) kvs m
section
variable {K : PySem.W.Frag} {σ : L2.St} {w w' : Wd} {ta tb tc te : TE} {α β : Type} {rv : Rep β} {m : List (Int × β)} {d : Addr} {D : Ends} {tz : TS}
theorem pd_len {S : Hp} {kvs : List (Key × V)} (h : Paired (PD K S rv) kvs m) : kvs.length = m.length := Paired.length h
theorem OwnD.gr (h : OwnD K w d rv m) (g : Gr w w') : OwnD K w' d rv m := by obtain ⟨kvs, a, b⟩ := h; exact ⟨kvs, a.gr g, Paired.mapP b fun _ _ q => ⟨q.1, rv.m g.s q.2⟩⟩
theorem OwnD.mt {p : Addr} (h : OwnD K w d rv m) (g : Mt p w w') (ne : d ≠ p) : OwnD K w' d rv m := by obtain ⟨kvs, a, b⟩ := h; exact ⟨kvs, g.own _ _ ne a, Paired.mapP b fun _ _ q => ⟨q.1, rv.m g.s q.2⟩⟩
theorem OwnD.ne (h : OwnD K w d rv m) : w.H d ≠ none := by obtain ⟨kvs, a, b⟩ := h; exact a.ne
theorem OwnD.apart {p : Addr} (h : OwnD K w d rv m) (z : w.H p = none) : p ≠ d := fun x => h.ne (x ▸ z)
theorem pd_get {S : Hp} {n : Int} : ∀ {kvs : List (Key × V)} {m : List (Int × β)}, Paired (PD K S rv) kvs m → (getI m n = none ∧ valV kvs (Sum.inl n) = none) ∨ ∃ b v, getI m n = some b ∧ valV kvs (Sum.inl n) = some v ∧ rv.r K S v b
  | _, _, .nil => .inl ⟨rfl, rfl⟩
  | kv :: kvs, p :: r, .cons h t => by
    by_cases e : p.1 = n
    · refine .inr ⟨p.2, kv.2, by rw [getI_cons, if_pos e], valV_pos (by rw [h.1, e]), h.2⟩
    · have ne : ¬ kv.1 = Sum.inl n := by rw [h.1]; exact fun z => e (Sum.inl.inj z)
      rw [getI_cons, if_neg e, valV_neg ne]
      exact pd_get t
theorem pd_any {S : Hp} {n : Int} {kvs : List (Key × V)} {m : List (Int × β)} (h : Paired (PD K S rv) kvs m) : (kvs.any fun kv => decide (kv.1 = (Sum.inl n : Key))) = (m.any fun p => decide (p.1 = n)) := by
  rw [valV_any, getI_any]
  rcases pd_get (n := n) h with ⟨a, b⟩ | ⟨b, v, a, c, _⟩
  · rw [a, b]; rfl
  · rw [a, c]; rfl
theorem pd_put {S : Hp} {n : Int} {v : V} {b : β} (hr : rv.r K S v b) {kvs : List (Key × V)} {m : List (Int × β)} (h : Paired (PD K S rv) kvs m) : Paired (PD K S rv) (putK kvs (Sum.inl n) v) (putI m n b) := by
  unfold putK putI
  rw [pd_any h]
  split
  · induction h with
    | nil => exact .nil
    | @cons kv p kvs r h1 t ih =>
      rw [List.map_cons, List.map_cons]
      refine .cons ?_ (by
        rename_i hx
        have : ∀ (kvs : List (Key × V)) (m : List (Int × β)), Paired (PD K S rv) kvs m → Paired (PD K S rv) (kvs.map fun kv => if kv.1 = Sum.inl n then (kv.1, v) else kv) (m.map fun p => if p.1 = n then (p.1, b) else p) := by
          intro kvs m h
          induction h with
          | nil => exact .nil
          | @cons kv p kvs r h1 t ih =>
            rw [List.map_cons, List.map_cons]
            refine .cons ?_ ih
            by_cases e : p.1 = n
            · rw [if_pos e, if_pos (by rw [h1.1, e])]; exact ⟨h1.1, hr⟩
            · rw [if_neg e, if_neg (by rw [h1.1]; exact fun z => e (Sum.inl.inj z))]; exact h1
        exact this _ _ t)
      by_cases e : p.1 = n
      · rw [if_pos e, if_pos (by rw [h1.1, e])]; exact ⟨h1.1, hr⟩
      · rw [if_neg e, if_neg (by rw [h1.1]; exact fun z => e (Sum.inl.inj z))]; exact h1
  · have : ∀ (kvs : List (Key × V)) (m : List (Int × β)), Paired (PD K S rv) kvs m → Paired (PD K S rv) (kvs ++ [(Sum.inl n, v)]) (m ++ [(n, b)]) := by
      intro kvs m h
      induction h with
      | nil => exact .cons ⟨rfl, hr⟩ .nil
      | cons h1 t ih => exact .cons h1 ih
    exact this _ _ h
theorem ev_dnotin {i : Nat} {n : Int} (o : OwnD K w d rv m) (hi : σ[i]? = some (some (.ref d))) (h : EvD K te σ w Rep.int n) : EvD K (tDNotIn te (tVar i)) σ w Rep.bl (!(getI m n).isSome) := fun w1 g Q q =>
  h w1 g _ fun v w2 g2 x => ⟨_, hi, by
    cases x
    obtain ⟨kvs, ow, hp⟩ := (o.gr g).gr g2
    refine ⟨d, valV kvs (Sum.inl n), rfl, DGet.k (k := Sum.inl n) ow.h, q _ w2 g2 ?_⟩
    rcases pd_get (n := n) hp with ⟨a, b⟩ | ⟨b, v, a, c, _⟩
    · rw [a, b]; rfl
    · rw [a, c]; rfl⟩
theorem ev_din {i : Nat} {n : Int} (o : OwnD K w d rv m) (hi : σ[i]? = some (some (.ref d))) (h : EvD K te σ w Rep.int n) : EvD K (tDIn te (tVar i)) σ w Rep.bl (getI m n).isSome := fun w1 g Q q =>
  h w1 g _ fun v w2 g2 x => ⟨_, hi, by
    cases x
    obtain ⟨kvs, ow, hp⟩ := (o.gr g).gr g2
    refine ⟨d, valV kvs (Sum.inl n), rfl, DGet.k (k := Sum.inl n) ow.h, q _ w2 g2 ?_⟩
    rcases pd_get (n := n) hp with ⟨a, b⟩ | ⟨b, v, a, c, _⟩
    · rw [a, b]; rfl
    · rw [a, c]; rfl⟩
theorem ev_dget {i : Nat} {n : Int} {b : β} (o : OwnD K w d rv m) (hi : σ[i]? = some (some (.ref d))) (h : EvD K te σ w Rep.int n) (hb : getI m n = some b) : EvD K (tDGet (tVar i) te) σ w rv b := fun w1 g Q q => ⟨_, hi,
  h w1 g _ fun v w2 g2 x => by
    cases x
    obtain ⟨kvs, ow, hp⟩ := (o.gr g).gr g2
    rcases pd_get (n := n) hp with ⟨a, _⟩ | ⟨b', v, a, c, hr⟩
    · rw [a] at hb; cases hb
    · rw [a] at hb; cases hb
      exact ⟨d, v, rfl, by have := DGet.k (k := Sum.inl n) ow.h; rw [c] at this; exact this, q v w2 g2 hr⟩⟩
theorem dput_run {i : Nat} {n : Int} {b : β} {Q : L2.St → Hp → Prop} (o : OwnD K w d rv m) (hi : σ[i]? = some (some (.ref d))) (hv : EvD K te σ w rv b) (h : EvD K tb σ w Rep.int n) (hz : m.length < 100000)
    (k : ∀ w', Mt d w w' → OwnD K w' d rv (putI m n b) → Q σ w'.H) : te σ w.H fun v H1 => tVar i σ H1 fun x H2 => tb σ H2 fun y H3 => ∃ a H4, x = .ref a ∧ DPut H3 a y v H4 ∧ Q σ H4 :=
  hv.run fun v w2 g2 r2 => ⟨_, hi, (h.gr g2).run fun y w3 g3 r3 => by
    cases r3
    obtain ⟨kvs, ow, hp⟩ := (o.gr g2).gr g3
    exact ⟨d, _, rfl, DPut.k (k := Sum.inl n) ow.h (by rw [pd_len hp]; exact sz5' hz), k (w3.set d _ ow.s) (((g2.trans g3).mt o.ne).trans (mt_set ow.s)) ⟨_, own_set ow.s, pd_put (rv.m g3.s r2) hp⟩⟩⟩
theorem q_dput {i : Nat} {n : Int} {b : β} (o : OwnD K w d rv m) (hi : σ[i]? = some (some (.ref d))) (hv : EvD K te σ w rv b) (h : EvD K tb σ w Rep.int n) (hz : m.length < 100000)
    (k : ∀ w', Mt d w w' → OwnD K w' d rv (putI m n b) → tz D σ w'.H) : tSeq (sDPut (tVar i) tb te) tz D σ w.H := dput_run (Q := tz D) o hi hv h hz k
theorem s_dput {i : Nat} {n : Int} {b : β} (o : OwnD K w d rv m) (hi : σ[i]? = some (some (.ref d))) (hv : EvD K te σ w rv b) (h : EvD K tb σ w Rep.int n) (hz : m.length < 100000)
    (k : ∀ w', Mt d w w' → OwnD K w' d rv (putI m n b) → D.nx σ w'.H) : sDPut (tVar i) tb te D σ w.H := dput_run (Q := D.nx) o hi hv h hz k
/-- {} -/
theorem dnew_run {Q : VK} (rv : Rep β) (k : ∀ p w', Gr w w' → w.H p = none → OwnD K w' p rv [] → Q (.ref p) w'.H) : tDNewK σ w.H Q := fun p hp => k p (w.new p _ hp) (gr_new hp) hp ⟨[], own_new hp, .nil⟩
/-! ### tuples walked -/
theorem ei_tup {r : Rep α} {l : List α} {tr : TA} (h : EvL K tr σ w r l) (hz : l.length ≤ 100000 := by first | decide | simp) : EvI K (iTup K (tTup tr)) σ w r l := fun w1 g R q =>
  h w1 g _ fun vs w2 g2 x => ⟨by rw [paired_len x]; exact sz5 hz, fun p hp => by
    have hs : ∀ w' : Wd, Ex (w2.put p (.tup vs)).S w'.S → SqT K w'.H p vs := fun w' e => Evl.ex_t w'.ex (SqT.of (e _ _ put_s))
    refine ⟨p, rfl, ⟨vs, SqT.of upd_same⟩, q (Itt K p) (w2.put p _) (g2.trans (gr_put hp)) fun w3 x3 i => ⟨fun b hb => ?_, fun hi => ⟨vs, hs w3 x3, by rw [paired_len x]; exact hi⟩⟩⟩
    obtain ⟨v, hv, hr⟩ := paired_get x hb
    refine ⟨⟨vs, v, hs w3 x3, hv⟩, fun y H' hy => ?_⟩
    obtain ⟨rfl, f⟩ := hy
    have := f vs (hs w3 x3)
    rw [hv] at this
    cases this
    exact ⟨w3, rfl, Gr.refl _, r.m ((gr_put hp).s.trans x3) hr⟩⟩
/-- values as they are -/
def Rep.raw : Rep V := ⟨fun _ _ v a => v = a, fun _ h => h⟩
theorem raw_paired {S : Hp} {xs l : List V} (h : Paired (Rep.raw.r K S) xs l) : xs = l := by
  induction h with
  | nil => rfl
  | cons r _ ih => rw [show _ = _ from r, ih]
theorem paired_raw {S : Hp} (l : List V) : Paired (Rep.raw.r K S) l l := by
  induction l with
  | nil => exact .nil
  | cons a r ih => exact .cons rfl ih
end
end WK
namespace WK
open PySem PySem.Spec PyProof.Rows L2
section
variable {K : PySem.W.Frag} {σ : L2.St} {w w' : Wd} {ta tb tc te : TE} {α β : Type} {e r : Rep α} {rb : Rep β} {l : List α} {D : Ends} {tz : TS} {a : α} {b : β}
/-- a, b = e, e' where the tuple is made and taken apart -/
theorem tup_run {i j n : Nat} {x y : V} {Q : L2.St → Hp → Prop} (hn : n = 2) (k : ∀ w', Gr w w' → Q ((σ.set i (some x)).set j (some y)) w'.H) :
    [x, y].length ≤ sizeLine ∧ ∀ p, w.H p = none → gTup K n (gCons (gName i) (gCons (gName j) gNil)) (.ref p) σ (upd w.H p (.tup [x, y])) Q :=
  ⟨by show 2 ≤ sizeLine; decide, fun p hp => ⟨p, [x, y], rfl, SqT.of upd_same, hn.symm, x, [y], rfl, y, [], rfl, rfl, k (w.put p _) (gr_put hp)⟩⟩
theorem q_tupVV {i j n : Nat} (h : EvD K ta σ w r a) (h2 : EvD K tb σ w rb b) (hn : n = 2) (k : ∀ v v' w', Gr w w' → r.r K w'.S v a → rb.r K w'.S v' b → tz D ((σ.set i (some v)).set j (some v')) w'.H) :
    tSeq (tAsg (tTup (tCons ta (tCons tb tNil))) (gTup K n (gCons (gName i) (gCons (gName j) gNil)))) tz D σ w.H :=
  h w (Gr.refl _) _ fun v w2 g2 x => h2 w2 g2 _ fun v' w3 g3 y => tup_run (Q := tz D) hn fun w4 g4 => k v v' w4 ((g2.trans g3).trans g4) (r.m (g3.trans g4).s x) (rb.m g4.s y)
theorem q_tupNV {i j n : Nat} (h : EvN K ta σ w e l) (h2 : EvD K tb σ w rb b) (hn : n = 2) (k : ∀ p v' w', Gr w w' → w.H p = none → OwnL K w' p e l → rb.r K w'.S v' b → tz D ((σ.set i (some (.ref p))).set j (some v')) w'.H) :
    tSeq (tAsg (tTup (tCons ta (tCons tb tNil))) (gTup K n (gCons (gName i) (gCons (gName j) gNil)))) tz D σ w.H :=
  h w (Gr.refl _) _ fun p w2 g2 n2 o2 => h2 w2 g2 _ fun v' w3 g3 y => tup_run (Q := tz D) hn fun w4 g4 => k p v' w4 ((g2.trans g3).trans g4) n2 (o2.gr (g3.trans g4)) (rb.m g4.s y)
theorem q_tupVN {i j n : Nat} (h : EvD K ta σ w rb b) (h2 : EvN K tb σ w e l) (hn : n = 2) (k : ∀ v p w', Gr w w' → rb.r K w'.S v b → w.H p = none → OwnL K w' p e l → tz D ((σ.set i (some v)).set j (some (.ref p))) w'.H) :
    tSeq (tAsg (tTup (tCons ta (tCons tb tNil))) (gTup K n (gCons (gName i) (gCons (gName j) gNil)))) tz D σ w.H :=
  h w (Gr.refl _) _ fun v w2 g2 x => h2 w2 g2 _ fun p w3 g3 n3 o3 => tup_run (Q := tz D) hn fun w4 g4 => k v p w4 ((g2.trans g3).trans g4) (rb.m (g3.trans g4).s x) (fr_back g2 n3) (o3.gr g4)
/-- what is opened: two values side by side, an operator, a call of two built-in arguments -/
theorem par2x {i j : Nat} {t1 t2 : TE} {H : Hp} (h : t1 σ H fun x H1 => t2 σ H1 fun y H2 => ∃ u v, [x, y] = [u, v] ∧ tz D ((σ.set i (some u)).set j (some v)) H2) : tSeq (tPar i j (tCons t1 (tCons t2 tNil))) tz D σ H := h
theorem add_run {t1 t2 : TE} {H : Hp} {Q : VK} (h : t1 σ H fun x H1 => t2 σ H1 fun y H2 => ∃ i j, x = .int i ∧ y = .int j ∧ Q (.int (i + j)) H2) : tOp (rI0 fun i j => .int (i + j)) t1 t2 σ H Q := h
end
end WK
namespace WK
open PySem PySem.Spec PyProof.Rows L2
section
variable {K : PySem.W.Frag} {σ : L2.St} {w w' : Wd} {ta tb tc te : TE} {α β : Type} {e r : Rep α} {rb : Rep β} {l : List α} {D : Ends} {tz : TS} {a : α} {b : β}
theorem s_par {i j : Nat} (h : EvD K ta σ w r a) (h2 : EvD K tb σ w rb b) (k : ∀ v v' w', Gr w w' → r.r K w'.S v a → rb.r K w'.S v' b → D.nx ((σ.set i (some v)).set j (some v')) w'.H) : tPar i j (tCons ta (tCons tb tNil)) D σ w.H :=
  h w (Gr.refl _) _ fun v w2 g2 x => h2 w2 g2 _ fun v' w3 g3 y => ⟨v, v', rfl, k v v' w3 (g2.trans g3) (r.m g3.s x) y⟩
end
end WK

/-! WK, part 8: several own objects read as if they were settled; loops over own lists. -/
namespace WK
open PySem PySem.Spec PyProof.Rows L2
/-- the objects at X settled -/
def Wd.fixs (w : Wd) (X : List Addr) : Wd := ⟨fun a => if a ∈ X then w.H a else w.S a, w.H, fun a u e => by
  have e : (if a ∈ X then w.H a else w.S a) = some u := e
  by_cases h : a ∈ X
  · rw [if_pos h] at e; exact e
  · rw [if_neg h] at e; exact w.ex a u e⟩
def Wd.offs (w : Wd) (X : List Addr) : Wd := ⟨fun a => if a ∈ X then none else w.S a, w.H, fun a u e => by
  have e : (if a ∈ X then none else w.S a) = some u := e
  by_cases h : a ∈ X
  · rw [if_pos h] at e; cases e
  · rw [if_neg h] at e; exact w.ex a u e⟩
theorem fixs_ex {w : Wd} {X : List Addr} : Ex w.S (w.fixs X).S := fun a u e => by
  show (if a ∈ X then w.H a else w.S a) = some u
  by_cases h : a ∈ X
  · rw [if_pos h]; exact w.ex a u e
  · rw [if_neg h]; exact e
theorem fixs_at {w : Wd} {X : List Addr} {a : Addr} (h : a ∈ X) : (w.fixs X).S a = w.H a := if_pos h
theorem fixs_gr {w w1 : Wd} {X : List Addr} (hX : ∀ a ∈ X, w.H a ≠ none) (g : Gr w w1) : Gr (w.fixs X) (w1.fixs X) :=
  ⟨fun a u e => by
    have e : (if a ∈ X then w.H a else w.S a) = some u := e
    show (if a ∈ X then w1.H a else w1.S a) = some u
    by_cases h : a ∈ X
    · rw [if_pos h] at e ⊢; exact g.h a u e
    · rw [if_neg h] at e ⊢; exact g.s a u e, g.h, fun p hp hn => by
    have hn : (if p ∈ X then w.H p else w.S p) = none := hn
    show (if p ∈ X then w1.H p else w1.S p) = none
    by_cases h : p ∈ X
    · rw [if_pos h] at hn; exact absurd hn hp
    · rw [if_neg h] at hn ⊢; exact g.n p hp hn⟩
theorem offs_gr {w1 w2 : Wd} {X : List Addr} (hX : ∀ a ∈ X, w1.S a = none) (g : Gr (w1.fixs X) w2) : Gr w1 (w2.offs X) :=
  ⟨fun a u e => by
    show (if a ∈ X then none else w2.S a) = some u
    have h : a ∉ X := fun z => by rw [hX a z] at e; cases e
    rw [if_neg h]
    refine g.s a u ?_
    show (if a ∈ X then w1.H a else w1.S a) = some u
    rw [if_neg h]; exact e, g.h, fun p hp hn => by
    show (if p ∈ X then none else w2.S p) = none
    by_cases h : p ∈ X
    · rw [if_pos h]
    · rw [if_neg h]
      refine g.n p hp ?_
      show (if p ∈ X then w1.H p else w1.S p) = none
      rw [if_neg h]; exact hn⟩
/-- settled for good, from where they were not yet -/
theorem fixs_from {w0 w : Wd} {X : List Addr} (g : Gr w0 w) (h : ∀ a ∈ X, w0.H a = none) : Gr w0 (w.fixs X) :=
  ⟨g.s.trans fixs_ex, g.h, fun p hp hn => by
    show (if p ∈ X then w.H p else w.S p) = none
    rw [if_neg fun z => hp (h p z)]
    exact g.n p hp hn⟩
def Owns (w : Wd) (X : List Addr) : Prop := ∀ a ∈ X, w.S a = none ∧ w.H a ≠ none
theorem Owns.gr {w w' : Wd} {X : List Addr} (h : Owns w X) (g : Gr w w') : Owns w' X := fun a ha => ⟨g.n a (h a ha).2 (h a ha).1, ex_ne g.h (h a ha).2⟩
section
variable {K : PySem.W.Frag} {σ : L2.St} {w w' : Wd} {te tl : TE} {t : TT} {α β : Type} {e : Rep α} {r : Rep β} {l : List α} {b : β} {X : List Addr}
theorem ev_peeks (hX : Owns w X) (hf : r.Flat) (h : EvD K te σ (w.fixs X) r b) : EvD K te σ w r b := fun w1 g Q q =>
  h (w1.fixs X) (fixs_gr (fun a ha => (hX a ha).2) g) Q fun v w2 g2 x => q v (w2.offs X) (offs_gr (fun a ha => ((hX.gr g) a ha).1) g2) (hf _ _ _ _ _ x)
theorem et_peeks {c : Bool} (hX : Owns w X) (h : EvT K t σ (w.fixs X) c) : EvT K t σ w c := fun w1 g Q q =>
  h (w1.fixs X) (fixs_gr (fun a ha => (hX a ha).2) g) Q fun w2 g2 => q (w2.offs X) (offs_gr (fun a ha => ((hX.gr g) a ha).1) g2)
theorem OwnL.owns {p : Addr} (h : OwnL K w p e l) : w.S p = none ∧ w.H p ≠ none := by obtain ⟨xs, o, _⟩ := h; exact ⟨o.s, o.ne⟩
theorem OwnL.in_fixs {p : Addr} (h : OwnL K w p e l) (hp : p ∈ X) : (Rep.list e).r K (w.fixs X).S (.ref p) l := by
  obtain ⟨xs, o, hx⟩ := h
  exact ⟨p, xs, rfl, SqL.of (by rw [fixs_at hp]; exact o.h), paired_mono hx fun _ _ q => e.m fixs_ex q⟩
/-! loops over an own list that stands still -/
def WalksP (K : PySem.W.Frag) (J : It) (G : Wd → Prop) (e : Rep α) (l : List α) : Prop := ∀ w', G w' → ∀ i,
  (∀ a, l[i]? = some a → J.go i w'.H ∧ ∀ x H', J.yld i w'.H x H' → ∃ w2 : Wd, w2.H = H' ∧ Gr w' w2 ∧ e.r K w2.S x a) ∧ (l.length ≤ i → J.stop i w'.H)
def EvIP (K : PySem.W.Frag) (wi : TI) (σ : L2.St) (w : Wd) (G : Wd → Prop) (e : Rep α) (l : List α) : Prop := ∀ w1, Gr w w1 → ∀ R : It → Hp → Prop, (∀ J w2, Gr w1 w2 → WalksP K J G e l → R J w2.H) → wi σ w1.H R
theorem own_walk {p : Addr} : WalksP K (Itl K p) (fun w' => OwnL K w' p e l) e l := fun w3 o i => by
  obtain ⟨xs, ow, hp⟩ := o
  refine ⟨fun b hb => ?_, fun hi => ⟨xs, SqL.of ow.h, by rw [paired_len hp]; exact hi⟩⟩
  obtain ⟨v, hv, hr⟩ := paired_get hp hb
  refine ⟨⟨xs, v, SqL.of ow.h, hv⟩, fun x H' hy => ?_⟩
  obtain ⟨rfl, f⟩ := hy
  have := f xs (SqL.of ow.h)
  rw [hv] at this
  cases this
  exact ⟨w3, rfl, Gr.refl _, hr⟩
theorem ei_listO {p : Addr} {i : Nat} (o : OwnL K w p e l) (hi : σ[i]? = some (some (.ref p))) : EvIP K (iList K (tVar i)) σ w (fun w' => OwnL K w' p e l) e l := fun w1 g R q => by
  obtain ⟨xs, ow, hp⟩ := o.gr g
  exact ⟨_, hi, p, rfl, ⟨xs, SqL.of ow.h⟩, q _ w1 (Gr.refl _) own_walk⟩
theorem ei_enumO {p : Addr} {i : Nat} (o : OwnL K w p e l) (hi : σ[i]? = some (some (.ref p))) : EvIP K (iEnum K (tCons (tVar i) tNil)) σ w (fun w' => OwnL K w' p e l) (Rep.pair Rep.int e) (enumI l) := fun w1 g R q => by
  obtain ⟨xs, ow, hp⟩ := o.gr g
  refine ⟨_, hi, p, xs, rfl, SqL.of ow.h, q _ w1 (Gr.refl _) fun w3 o3 i => ?_⟩
  obtain ⟨ys, oy, hy⟩ := o3
  refine ⟨fun b hb => ?_, fun hi => ⟨ys, SqL.of oy.h, by rw [paired_len hy]; rw [enumI_len] at hi; exact hi⟩⟩
  rw [enumI_get] at hb
  cases hl : l[i]? with
  | none => rw [hl] at hb; cases hb
  | some c =>
    rw [hl] at hb
    cases hb
    obtain ⟨v, hv, hr⟩ := paired_get hy hl
    refine ⟨⟨ys, v, SqL.of oy.h, hv⟩, fun x H' hx => ?_⟩
    obtain ⟨T, y, rfl, nT, rfl, f⟩ := hx
    have := f ys (SqL.of oy.h)
    rw [hv] at this
    cases this
    exact ⟨w3.put T _, rfl, gr_put nT, T, _, _, rfl, SqT.of put_s, rfl, e.m (gr_put nT).s hr⟩
variable {D : Ends} {tb tz : TS} {g : TG}
theorem for_coreP {wi : TI} {G : Wd → Prop} (h : EvIP K wi σ w G e l) (I : Nat → L2.St → Wd → Prop) (h0 : ∀ w1, Gr w w1 → I 0 σ w1) (hG : ∀ i σ' w', I i σ' w' → G w')
    (hs : ∀ i a v σ' w' w2, l[i]? = some a → I i σ' w' → Gr w' w2 → e.r K w2.S v a → g v σ' w2.H fun σ2 H2 => tb { D with nx := Nxt (I (i + 1)) w', ct := Nxt (I (i + 1)) w', bk := D.nx } σ2 H2)
    (hd : ∀ σ' w', I l.length σ' w' → D.nx σ' w'.H) : tFor wi g tb D σ w.H := h w (Gr.refl _) _ fun J w1 g1 hJ => by
  refine ⟨fun i m σ H => m = l.length - i ∧ i ≤ l.length ∧ ∃ w' : Wd, w'.H = H ∧ I i σ w', ⟨l.length, by simp, Nat.zero_le _, w1, rfl, h0 w1 g1⟩, ?_⟩
  rintro i m σ' H ⟨rfl, hi, w', rfl, hI⟩
  obtain ⟨j1, j2⟩ := hJ w' (hG _ _ _ hI) i
  by_cases hlt : i < l.length
  · have hget : l[i]? = some l[i] := by simp [hlt]
    obtain ⟨hgo, hy⟩ := j1 _ hget
    refine .inr ⟨hgo, Nxt (I (i + 1)) w', fun σ2 H2 hN => ?_, fun x H' hx => ?_⟩
    · obtain ⟨w3, e3, x3, i3⟩ := hN
      exact ⟨l.length - (i + 1), by omega, rfl, hlt, w3, e3, i3⟩
    · obtain ⟨w4, rfl, g4, hr⟩ := hy x H' hx
      exact hs i _ x σ' w' w4 hget hI g4 hr
  · have e0 : i = l.length := by omega
    subst e0
    exact .inl ⟨j2 (Nat.le_refl _), hd σ' w' hI⟩
theorem q_for2P {wi : TI} {G : Wd → Prop} {i j n : Nat} {l : List (α × β)} (h : EvIP K wi σ w G (Rep.pair e r) l) (hn : n = 2) (I : Nat → L2.St → Wd → Prop) (h0 : ∀ w1, Gr w w1 → I 0 σ w1) (hG : ∀ i σ' w', I i σ' w' → G w')
    (hs : ∀ m a v v' σ' w' w2, l[m]? = some a → I m σ' w' → Gr w' w2 → e.r K w2.S v a.1 → r.r K w2.S v' a.2 → tb { D with nx := Nxt (I (m + 1)) w', ct := Nxt (I (m + 1)) w', bk := tz D } ((σ'.set i (some v)).set j (some v')) w2.H)
    (hd : ∀ σ' w', I l.length σ' w' → tz D σ' w'.H) : tSeq (tFor wi (gTup K n (gCons (gName i) (gCons (gName j) gNil))) tb) tz D σ w.H :=
  for_coreP (D := { D with nx := tz D }) h I h0 hG (fun m a v σ' w' w2 x1 x2 x3 x4 => g_pair x4 hn fun v1 v2 y1 y2 => hs m a v1 v2 σ' w' w2 x1 x2 x3 y1 y2) hd
theorem cut_init {l : List α} : cut l none (some (-1)) = l.dropLast := by
  unfold cut
  rw [HT.sIx_none]
  have : HT.sIx l.length l.length (some (-1)) = l.length - 1 := by
    unfold HT.sIx
    simp only []
    split <;> omega
  rw [this, List.dropLast_eq_take]; simp
end
end WK
namespace WK
open PySem PySem.Spec PyProof.Rows L2
theorem asgX {te : TE} {i : Nat} {tz : TS} {D : Ends} {σ : L2.St} {H : Hp} (h : te σ H fun x H1 => tz D (σ.set i (some x)) H1) : tSeq (tAsg te (gName i)) tz D σ H := h
end WK

/-! WK, part 9: how long the texts of lists are. -/
namespace WK
open PySem PySem.Spec PyProof.Rows L2
theorem int_show {i : Int} {k : Nat} (hk : 0 < k) (h : i.natAbs < 10 ^ k) : (PyData.int i).shown.length ≤ k + 1 := by
  show (Str.ofString (toString i)).length ≤ k + 1
  have := int_text_length_le10 hk h
  rw [PySem.ofString_length]
  exact this
theorem text_len : ∀ ts : List Str, (listText ts).length ≤ piled ts + 2
  | [] => by decide
  | t :: r => by
    show (textFrom 0 "[" (t :: r) ++ ("]" : Str)).length ≤ _
    have e : textFrom 0 "[" (t :: r) = textFrom 1 (("[" : Str) ++ ("" : String) ++ t) r := rfl
    rw [e]
    have h1 := textFrom_length_pos r 1 (("[" : Str) ++ ("" : String) ++ t) (by decide)
    have h2 : ((("[" : Str) ++ ("" : String) ++ t) : Str).length = 1 + t.length := by
      show (("[" : Str) ++ (Str.ofString "") ++ t).length = 1 + t.length
      simp [Str.length_append]
      rfl
    rw [piled_cons]
    have h3 : ∀ a b : Str, (a ++ b).length = a.length + b.length := fun a b => by simp [Str.length_append]
    rw [h3, h1, h2]
    show 1 + t.length + piled r + 1 ≤ _
    omega
theorem tup_len (ts : List Str) : (tupleText ts).length ≤ piled ts + 4 := by
  have h3 : ∀ a b : Str, (a ++ b).length = a.length + b.length := fun a b => by simp [Str.length_append]
  unfold tupleText
  rw [h3, h3]
  have h4 : (Str.join ", " ts).length ≤ piled ts := by
    by_cases e : ts = []
    · subst e; decide
    · have := join_length_add ts e; omega
  have h5 : ((if (ts.length == 1) = true then ",)" else ")" : String) : Str).length ≤ 2 := by split <;> decide
  have h6 : ("(" : Str).length = 1 := rfl
  omega
theorem piled_le {ts : List Str} {k : Nat} (h : ∀ t ∈ ts, t.length ≤ k) : piled ts ≤ ts.length * (k + 2) := by
  induction ts with
  | nil => simp [piled]
  | cons t r ih =>
    rw [piled_cons, List.length_cons, Nat.add_mul]
    have := ih fun x hx => h x (List.mem_cons_of_mem _ hx)
    have := h t List.mem_cons_self
    omega
theorem shownAll_map (ds : List PyData) : PyData.shownAll ds = ds.map PyData.shown := by
  induction ds with
  | nil => rfl
  | cons d r ih => show d.shown :: _ = _; rw [ih]; rfl
theorem list_show {ds : List PyData} {k : Nat} (h : ∀ d ∈ ds, d.shown.length ≤ k) : (PyData.list ds).shown.length ≤ ds.length * (k + 2) + 2 := by
  show (listText (PyData.shownAll ds)).length ≤ _
  rw [shownAll_map]
  have h1 := text_len (ds.map PyData.shown)
  have h2 := piled_le (ts := ds.map PyData.shown) (k := k) fun t ht => by
    obtain ⟨d, hd, rfl⟩ := List.mem_map.mp ht
    exact h d hd
  rw [List.length_map] at h2
  omega
theorem tup_show {ds : List PyData} {k : Nat} (h : ∀ d ∈ ds, d.shown.length ≤ k) : (PyData.tuple ds).shown.length ≤ ds.length * (k + 2) + 4 := by
  show (tupleText (PyData.shownAll ds)).length ≤ _
  rw [shownAll_map]
  have h1 := tup_len (ds.map PyData.shown)
  have h2 := piled_le (ts := ds.map PyData.shown) (k := k) fun t ht => by
    obtain ⟨d, hd, rfl⟩ := List.mem_map.mp ht
    exact h d hd
  rw [List.length_map] at h2
  omega
theorem showableAll_of {ds : List PyData} (h : ∀ d ∈ ds, d.showable = true) : PyData.showableAll ds = true := by
  induction ds with
  | nil => rfl
  | cons d r ih => show (d.showable && _) = true; rw [h d List.mem_cons_self, ih fun x hx => h x (List.mem_cons_of_mem _ hx)]; rfl
theorem int_able {i : Int} {k : Nat} (hk : 0 < k) (h : i.natAbs < 2 ^ k) (hk2 : k ≤ 1920) : (PyData.int i).showable = true := by
  show decide (i.natAbs.log2 < 1920) = true
  rw [decide_eq_true_eq]
  exact Nat.lt_of_lt_of_le (PySem.Flt.log2_lt_of hk h) hk2
/-- a list of ints of at most k digits -/
theorem ints_show {l : List Int} {k : Nat} (hk : 0 < k) (h : ∀ i ∈ l, i.natAbs < 10 ^ k) : (PyData.list (l.map PyData.int)).shown.length ≤ l.length * (k + 3) + 2 := by
  have := list_show (ds := l.map PyData.int) (k := k + 1) fun d hd => by
    obtain ⟨i, hi, rfl⟩ := List.mem_map.mp hd
    exact int_show hk (h i hi)
  rwa [List.length_map] at this
theorem lists_show {ls : List (List Int)} {k n : Nat} (hk : 0 < k) (h : ∀ l ∈ ls, l.length ≤ n ∧ ∀ i ∈ l, i.natAbs < 10 ^ k) : (PyData.list (ls.map fun l => PyData.list (l.map PyData.int))).shown.length ≤ ls.length * (n * (k + 3) + 4) + 2 := by
  have := list_show (ds := ls.map fun l => PyData.list (l.map PyData.int)) (k := n * (k + 3) + 2) fun d hd => by
    obtain ⟨l, hl, rfl⟩ := List.mem_map.mp hd
    have := ints_show hk (h l hl).2
    have := Nat.mul_le_mul_right (k + 3) (h l hl).1
    omega
  rwa [List.length_map] at this
theorem ints_able {l : List Int} (h : ∀ i ∈ l, i.natAbs < 2 ^ 1900) : (PyData.list (l.map PyData.int)).showable = true :=
  showableAll_of fun d hd => by obtain ⟨i, hi, rfl⟩ := List.mem_map.mp hd; exact int_able (by decide) (h i hi) (by decide)
theorem lists_able {ls : List (List Int)} (h : ∀ l ∈ ls, ∀ i ∈ l, i.natAbs < 2 ^ 1900) : (PyData.list (ls.map fun l => PyData.list (l.map PyData.int))).showable = true :=
  showableAll_of fun d hd => by obtain ⟨l, hl, rfl⟩ := List.mem_map.mp hd; exact ints_able (h l hl)
theorem size_le {n : Nat} (h : n ≤ 16777216) : n ≤ sizeLine := by rw [sizeLine_eq]; exact h
end WK

/-! WK, part 10: sorted, index, steps, data of mixed kinds, comprehensions that change an object, loops that seek. -/
namespace WK
open PySem PySem.Spec PyProof.Rows L2
/-! ### sorted -/
def insI (a : Int) : List Int → List Int
  | [] => [a]
  | b :: r => if a ≤ b then a :: b :: r else b :: insI a r
def sortI : List Int → List Int
  | [] => []
  | a :: r => insI a (sortI r)
theorem insI_perm (a : Int) : ∀ l, (insI a l).Perm (a :: l)
  | [] => .refl _
  | b :: r => by
    unfold insI
    split
    · exact .refl _
    · exact ((insI_perm a r).cons b).trans (.swap a b r)
theorem sortI_perm : ∀ l, (sortI l).Perm l
  | [] => .refl _
  | a :: r => (insI_perm a _).trans ((sortI_perm r).cons a)
theorem insI_sorted (a : Int) : ∀ l : List Int, l.Pairwise (· ≤ ·) → (insI a l).Pairwise (· ≤ ·)
  | [], _ => by simp [insI]
  | b :: r, h => by
    unfold insI
    split
    · rename_i hab
      refine List.pairwise_cons.mpr ⟨fun x hx => ?_, h⟩
      rcases List.mem_cons.mp hx with e | hx
      · omega
      · exact Int.le_trans hab ((List.pairwise_cons.mp h).1 x hx)
    · rename_i hab
      refine List.pairwise_cons.mpr ⟨fun x hx => ?_, insI_sorted a r (List.pairwise_cons.mp h).2⟩
      rcases List.mem_cons.mp ((insI_perm a r).mem_iff.mp hx) with e | hx
      · omega
      · exact (List.pairwise_cons.mp h).1 x hx
theorem sortI_sorted : ∀ l, (sortI l).Pairwise (· ≤ ·)
  | [] => .nil
  | a :: r => insI_sorted a _ (sortI_sorted r)
theorem sortI_uniq {l m : List Int} (h : m.Perm l) (h2 : m.Pairwise (· ≤ ·)) : m = sortI l := perm_sorted_uniq (h.trans (sortI_perm l).symm) h2 (sortI_sorted l)
theorem sortI_congr {l m : List Int} (h : l.Perm m) : sortI l = sortI m := sortI_uniq ((sortI_perm l).trans h) (sortI_sorted l)
theorem sortI_len (l : List Int) : (sortI l).length = l.length := (sortI_perm l).length_eq
section
variable {K : PySem.W.Frag} {σ : L2.St} {w w' : Wd} {ta tb tc te tl : TE} {t u : TT} {α β γ δ : Type} {r : Rep α} {rb : Rep β} {rc : Rep γ} {a : α} {e : Rep α} {l : List α} {v : V} {p : Addr} {D : Ends} {tz : TS}
theorem en_sorted {l : List Int} (h : EvD K ta σ w (Rep.list Rep.int) l) : EvN K (tCB (rSortedI K) (tCons ta tNil)) σ w Rep.int (sortI l) := fun w1 g Q q =>
  h w1 g _ fun v w2 g2 x => by
    obtain ⟨a, rfl, hs⟩ := lints_at x
    refine ⟨a, l, rfl, Evl.ex_l w2.ex hs, fun ns' s perm rise np => ?_⟩
    rw [sortI_uniq perm rise]
    exact q s (w2.new s _ np) (g2.trans (gr_new np)) (fr_back g2 np) ⟨_, own_new np, ints_paired _⟩
theorem en_sortV {i : Nat} {l : List Int} (o : OwnL K w p Rep.int l) (hi : σ[i]? = some (some (.ref p))) : EvN K (tCB (rSortedI K) (tCons (tVar i) tNil)) σ w Rep.int (sortI l) := fun w1 g Q q => by
  obtain ⟨xs, ow, hx⟩ := o.gr g
  rw [paired_ints hx] at ow
  refine ⟨_, hi, p, l, rfl, SqL.of ow.h, fun ns' s perm rise np => ?_⟩
  rw [sortI_uniq perm rise]
  exact q s (w1.new s _ np) (gr_new np) np ⟨_, own_new np, ints_paired _⟩
/-! ### xs.index(x), ints -/
theorem flat_ints (l : List Int) : (l.map V.int).all flatV = true := by
  rw [List.all_map]; exact List.all_eq_true.mpr fun _ _ => rfl
theorem ev_index {l : List Int} {x : Int} {j : Nat} (h : EvD K ta σ w (Rep.list Rep.int) l) (hx : EvD K tb σ w Rep.int x) (hj : l[j]? = some x) (hn : ∀ m y, m < j → l[m]? = some y → y ≠ x) :
    EvD K (tBM K "list" (rIndex K) ta (tCons tb tNil)) σ w Rep.int (j : Int) := fun w1 g Q q =>
  h w1 g _ fun v w2 g2 z => by
    obtain ⟨a, rfl, hs⟩ := lints_at z
    refine ⟨.inl ⟨rfl, _, Evl.ex_l w2.ex hs⟩, hx w2 (g.trans g2) _ fun v w3 g3 z3 => ?_⟩
    cases z3
    refine ⟨a, l.map V.int, .int x, j, .int x, rfl, rfl, Evl.ex_l (g3.s.trans w3.ex) hs, rfl, flat_ints l, by rw [List.getElem?_map, hj]; rfl, by simp [eqV], fun m z' hm hz => ?_, q _ w3 (g2.trans g3) rfl⟩
    rw [List.getElem?_map] at hz
    cases hy : l[m]? with
    | none => rw [hy] at hz; cases hz
    | some y =>
      rw [hy] at hz
      cases hz
      have := hn m y hm hy
      simp [eqV, this]
/-! ### steps -/
theorem en_step {lo c : Int} (h : EvD K te σ w (Rep.list e) l) (h1 : EvD K ta σ w Rep.int lo) (h2 : EvD K tb σ w Rep.int c) (hc : 0 < c ∧ c < 1000000 ∧ 0 ≤ lo ∧ lo ≤ l.length) : EvN K (tStep K te (tPart ta) (tPart tb)) σ w e (stepV l lo.toNat c.toNat) := fun w1 g Q q =>
  h w1 g _ fun v w2 g2 x => h1 w2 (g.trans g2) _ fun v1 w3 g3 x1 => ⟨lo, x1, h2 w3 ((g.trans g2).trans g3) _ fun v2 w4 g4 x2 => ⟨c, x2, by
    obtain ⟨a, xs, rfl, hs, hp⟩ := x
    refine ⟨a, xs, lo.toNat, c.toNat, rfl, by rw [Int.toNat_of_nonneg hc.2.2.1], by rw [Int.toNat_of_nonneg (by omega)], by omega, by omega, by rw [paired_len hp]; omega, Evl.ex_l ((g3.s.trans g4.s).trans w4.ex) hs, fun p np => ?_⟩
    refine q p (w4.new p _ np) (((g2.trans g3).trans g4).trans (gr_new np)) (fr_back ((g2.trans g3).trans g4) np) ⟨_, own_new np, ?_⟩
    have hp' : Paired (e.r K w4.S) xs l := paired_mono hp fun _ _ z => e.m (g3.s.trans g4.s) z
    unfold stepV
    rw [paired_len hp']
    exact paired_filterMap hp' _⟩⟩
theorem filterMap_range {f : Nat → Option α} (hf : ∀ i j, i ≤ j → f i = none → f j = none) : ∀ n j, ((List.range n).filterMap f)[j]? = if j < n then f j else none
  | 0, j => by simp
  | n + 1, j => by
    have ih := filterMap_range hf n
    rw [List.range_succ, List.filterMap_append]
    cases q : f n with
    | none =>
      have : [n].filterMap f = [] := by simp [q]
      rw [this, List.append_nil, ih j]
      by_cases h1 : j < n
      · rw [if_pos h1, if_pos (by omega)]
      · rw [if_neg h1]
        by_cases h2 : j < n + 1
        · rw [if_pos h2, show j = n by omega, q]
        · rw [if_neg h2]
    | some a =>
      have : [n].filterMap f = [a] := by simp [q]
      rw [this]
      have hl : ((List.range n).filterMap f).length = n := by
        refine Nat.le_antisymm ?_ ?_
        · refine Nat.le_trans (List.length_filterMap_le _ _) (by simp)
        · rcases Nat.eq_zero_or_pos n with h | h
          · omega
          · have h1 := ih (n - 1)
            rw [if_pos (by omega)] at h1
            have h2 : f (n - 1) ≠ none := fun z => by rw [hf (n - 1) n (by omega) z] at q; cases q
            obtain ⟨b, hb⟩ := Option.ne_none_iff_exists'.mp h2
            rw [hb] at h1
            have := (List.getElem?_eq_some_iff.mp h1).1
            omega
      by_cases h1 : j < n
      · rw [List.getElem?_append_left (by omega), ih j, if_pos h1, if_pos (by omega)]
      · rw [List.getElem?_append_right (by omega), hl]
        by_cases h2 : j < n + 1
        · rw [if_pos h2, show j = n by omega, q]; simp
        · rw [if_neg h2]; exact List.getElem?_eq_none (by simp; omega)
theorem stepV_get {l : List α} {lo c j : Nat} (hc : 0 < c) : (stepV l lo c)[j]? = l[lo + c * j]? := by
  unfold stepV
  rw [List.filterMap_map]
  have := filterMap_range (f := fun k => l[lo + c * k]?) (fun i j h q => List.getElem?_eq_none (by
    have := List.getElem?_eq_none_iff.mp q
    have := Nat.mul_le_mul_left c h
    omega)) l.length j
  have e : ((fun x => l[x]?) ∘ fun k => lo + c * k) = fun k => l[lo + c * k]? := rfl
  rw [e, this]
  split
  · rfl
  · exact (List.getElem?_eq_none (by
      have : j ≤ c * j := Nat.le_mul_of_pos_left j hc
      omega)).symm
end
end WK

/-! WK, part 11: data of mixed kinds, comprehensions that change an object, loops that seek, lists that may be absent. -/
namespace WK
open PySem PySem.Spec PyProof.Rows L2
mutual
theorem dp_ex {K : PySem.W.Frag} {H H' : Hp} (x : Ex H H') : ∀ {v : V} {d : PyData}, Dp K H v d → Dp K H' v d
  | _, _, .non => .non
  | _, _, .bl b => .bl b
  | _, _, .int i => .int i
  | _, _, .str s => .str s
  | _, _, .lst h a => .lst (Evl.ex_l x h) (dpAll_ex x a)
  | _, _, .tup h a => .tup (Evl.ex_t x h) (dpAll_ex x a)
theorem dpAll_ex {K : PySem.W.Frag} {H H' : Hp} (x : Ex H H') : ∀ {vs : List V} {ds : List PyData}, DpAll K H vs ds → DpAll K H' vs ds
  | _, _, .nil => .nil
  | _, _, .cons h a => .cons (dp_ex x h) (dpAll_ex x a)
end
def Rep.dat : Rep PyData := ⟨fun K H v d => Dp K H v d, fun x h => dp_ex x h⟩
theorem dpAll_dat {K : PySem.W.Frag} {H : Hp} {xs : List V} {ds : List PyData} (h : Paired (Rep.dat.r K H) xs ds) : DpAll K H xs ds := by
  induction h with
  | nil => exact .nil
  | cons r _ ih => exact .cons r ih
/-- a kind of value as plain data, no more asked -/
def DV {α : Type} (e : Rep α) (f : α → PyData) : Prop := ∀ K H v a, e.r K H v a → Dp K H v (f a)
theorem RD.dv {α : Type} {e : Rep α} {f : α → PyData} {n : Nat} (h : RD e f n) : DV e f := h.dp
theorem dv_str : DV Rep.str PyData.str := fun K H v a h => by cases h; exact .str a
theorem dv_pair {α β : Type} {e : Rep α} {e2 : Rep β} {f : α → PyData} {g : β → PyData} (h : DV e f) (h2 : DV e2 g) : DV (Rep.pair e e2) (fun x => PyData.tuple [f x.1, g x.2]) := fun K H v l q => by
  obtain ⟨a, x, y, rfl, hs, h3, h4⟩ := q; exact .tup hs (.cons (h _ _ _ _ h3) (.cons (h2 _ _ _ _ h4) .nil))
section
variable {K : PySem.W.Frag} {σ : L2.St} {w w' : Wd} {ta tb tc te tl : TE} {t u : TT} {α β γ δ : Type} {r : Rep α} {rb : Rep β} {rc : Rep γ} {a : α} {e : Rep α} {l : List α} {v : V} {p : Addr} {D : Ends} {tz : TS}
theorem ev_dat {f : α → PyData} (h : DV e f) (ha : EvD K ta σ w e a) : EvD K ta σ w Rep.dat (f a) := fun w1 g Q q => ha w1 g Q fun v w2 g2 x => q v w2 g2 (h _ _ _ _ x)
theorem ev_datL {ds : List PyData} (ha : EvD K ta σ w (Rep.list Rep.dat) ds) : EvD K ta σ w Rep.dat (.list ds) := fun w1 g Q q => ha w1 g Q fun v w2 g2 x => q v w2 g2 (by
  obtain ⟨a, xs, rfl, hs, hp⟩ := x
  exact .lst hs (dpAll_dat hp))
theorem ev_reprX {ds : List PyData} (ha : EvD K ta σ w (Rep.list Rep.dat) ds) (hd : (PyData.list ds).hasDict = false) (hs : (PyData.list ds).showable = true) (hn : (PyData.list ds).depth ≤ 64) (hz : (PyData.list ds).shown.length ≤ sizeLine) :
    EvD K (tCB (rRepr K) (tCons ta tNil)) σ w Rep.str (PyData.list ds).shown := fun w1 g Q q => ha w1 g _ fun v w2 g2 x => by
  obtain ⟨a, xs, rfl, h2, hp⟩ := x
  exact ⟨a, .list ds, rfl, .lst (Evl.ex_l w2.ex h2) (dpAll_ex w2.ex (dpAll_dat hp)), hd, hs, hn, hz, q _ w2 g2 rfl⟩
theorem ev_eqX {d d' : PyData} (ha : EvD K ta σ w Rep.dat d) (hb : EvD K tb σ w Rep.dat d') (h1 : SeqAt.shaped d = true) (h2 : SeqAt.shaped d' = true) : EvD K (tOp (rEqD K) ta tb) σ w Rep.bl (PyData.eqv d d') := fun w1 g Q q =>
  ha w1 g _ fun v w2 g2 x => hb w2 (g.trans g2) _ fun v' w3 g3 y => ⟨d, d', dp_ex (g3.s.trans w3.ex) x, dp_ex w3.ex y, h1, h2, q _ w3 (g2.trans g3) rfl⟩
theorem ev_neX {d d' : PyData} (ha : EvD K ta σ w Rep.dat d) (hb : EvD K tb σ w Rep.dat d') (h1 : SeqAt.shaped d = true) (h2 : SeqAt.shaped d' = true) : EvD K (tOp (rNeD K) ta tb) σ w Rep.bl (!PyData.eqv d d') := fun w1 g Q q =>
  ha w1 g _ fun v w2 g2 x => hb w2 (g.trans g2) _ fun v' w3 g3 y => ⟨d, d', dp_ex (g3.s.trans w3.ex) x, dp_ex w3.ex y, h1, h2, q _ w3 (g2.trans g3) rfl⟩
/-- xs + ys, xs a name -/
theorem en_catO {i : Nat} {m : List α} (o : OwnL K w p e l) (hi : σ[i]? = some (some (.ref p))) (h2 : EvN K tb σ w e m) (hz : l.length + m.length ≤ 100000) : EvN K (tOp rCat (tVar i) tb) σ w e (l ++ m) := fun w1 g Q q => ⟨_, hi,
  h2 w1 g _ fun p' w3 g3 n3 o3 => by
    obtain ⟨xs, ox, hx⟩ := (o.gr g).gr g3
    obtain ⟨ys, oy, hy⟩ := o3
    refine ⟨p, p', xs, ys, rfl, rfl, ox.h, oy.h, by rw [paired_len hx, paired_len hy]; exact sz5 hz, fun d nd => ?_⟩
    exact q d (w3.new d _ nd) (g3.trans (gr_new nd)) (fr_back g3 nd) ⟨_, own_new nd, paired_app hx hy⟩⟩
/-- what is own beside what is read as settled -/
theorem OwnL.fixs {X : List Addr} (o : OwnL K w p e l) (h : p ∉ X) : OwnL K (w.fixs X) p e l := by
  obtain ⟨xs, ow, hp⟩ := o
  exact ⟨xs, ⟨by show (if p ∈ X then w.H p else w.S p) = none; rw [if_neg h]; exact ow.s, ow.h⟩, paired_mono hp fun _ _ z => e.m fixs_ex z⟩
theorem OwnL.raw (o : OwnL K w p e l) : ∃ xs, OwnL K w p Rep.raw xs ∧ xs.length = l.length := by
  obtain ⟨xs, ow, hp⟩ := o
  exact ⟨xs, ⟨xs, ow, paired_raw xs⟩, paired_len hp⟩
/-- a change, then a change of what is new -/
theorem Mt.then {p d : Addr} {a b c : Wd} (x : Mt p a b) (y : Mt d b c) (h : a.H d = none) : Mt p a c :=
  ⟨x.s.trans y.s, fun w0 g n => y.gr w0 (x.gr w0 g n) (fr_back g h), fun q o ne z => y.own q o (fun e => z.ne (e ▸ h)) (x.own q o ne z), fun q z => y.dom q (x.dom q z)⟩
theorem Mt.self {p : Addr} {w : Wd} : Mt p w w := ⟨exr _, fun _ g _ => g, fun _ _ _ h => h, fun _ h => h⟩
/-- [e for x in ..], e changes the object at p -/
theorem lc_jar {wi : TI} {j : Nat} {vs : List Nat} {e' : Rep β} {Q : VK} (I : Nat → Wd → Prop) (PR : β → Prop) (h : EvI K wi σ w e l) (hL : l.length ≤ 100000) (hw : ∀ x, wipe ((wipe σ vs).set j (some x)) vs = wipe σ vs)
    (hp : ∀ i w', I i w' → w'.H p ≠ none) (h0 : ∀ w1, Gr w w1 → I 0 w1) (hI : ∀ i w' w'', I i w' → Gr w' w'' → I i w'') (hM : ∀ i d w' w'', p ≠ d → I i w' → Mt d w' w'' → I i w'')
    (hb : ∀ i a v w', l[i]? = some a → Ex w.S w'.S → I i w' → e.r K w'.S v a → ∀ Q : VK, (∀ y b w2, Mt p w' w2 → I (i + 1) w2 → e'.r K w2.S y b → PR b → Q y w2.H) → te ((wipe σ vs).set j (some v)) w'.H Q)
    (k : ∀ q l' w', Mt p w w' → I l.length w' → w.H q = none → q ≠ p → OwnL K w' q e' l' → l'.length = l.length → (∀ b ∈ l', PR b) → Q (.ref q) w'.H) : tLc wi (gName j) tYes te vs σ w.H Q := h w (Gr.refl _) _ fun J w2 g2 hJ Dl hD => by
  have hpn : w.H p ≠ none := hp 0 w (h0 w (Gr.refl _))
  have hDp : Dl ≠ p := fun z => hpn (fr_back g2 (z ▸ hD))
  refine ⟨fun i m H => m = l.length - i ∧ i ≤ l.length ∧ ∃ w' : Wd, w'.H = H ∧ Mt p w w' ∧ I i w' ∧ Ex w2.S w'.S ∧ ∃ l', OwnL K w' Dl e' l' ∧ l'.length = i ∧ ∀ b ∈ l', PR b,
    ⟨l.length, by simp, Nat.zero_le _, w2.new Dl _ hD, rfl, (g2.trans (gr_new hD)).mt hpn, hI _ _ _ (h0 w (Gr.refl _)) (g2.trans (gr_new hD)), exr _, [], ⟨[], own_new hD, .nil⟩, rfl, by simp⟩, ?_⟩
  rintro i m H ⟨rfl, hi, w', rfl, m3, i3, x3, l', o, hl', hPR⟩
  obtain ⟨j1, j2⟩ := hJ w' x3 i
  by_cases hlt : i < l.length
  · have hget : l[i]? = some l[i] := by simp [hlt]
    obtain ⟨hgo, hy⟩ := j1 _ hget
    refine .inr ⟨hgo, fun H => ∃ w4 : Wd, w4.H = H ∧ Mt p w w4 ∧ I (i + 1) w4 ∧ Ex w2.S w4.S ∧ ∃ l', OwnL K w4 Dl e' l' ∧ l'.length = i + 1 ∧ ∀ b ∈ l', PR b, fun H' hN => ⟨l.length - (i + 1), by omega, rfl, hlt, hN⟩, fun x H' hx => ?_⟩
    obtain ⟨w4, rfl, g4, hr⟩ := hy x H' hx
    have m4 : Mt p w w4 := m3.trans (g4.mt (m3.dom p hpn))
    refine ⟨hw x, hb i _ x w4 hget m4.s (hI _ _ _ i3 g4) hr _ fun y b w5 m5 i5 r5 pb => ?_⟩
    obtain ⟨xs, ow, hpd⟩ := (o.gr g4).mt m5 hDp
    refine ⟨xs, ow.h, by rw [paired_len hpd]; exact sz5' (by omega), w5.set Dl _ ow.s, rfl, (m4.trans m5).then (mt_set ow.s) (fr_back g2 hD), hM _ Dl _ _ (Ne.symm hDp) i5 (mt_set ow.s), (x3.trans g4.s).trans m5.s, l' ++ [b], ⟨_, own_set ow.s, paired_app hpd (.cons r5 .nil)⟩, by simp [hl'], fun c hc => ?_⟩
    rcases List.mem_append.mp hc with z | z
    · exact hPR c z
    · rw [List.mem_singleton.mp z]; exact pb
  · have e0 : i = l.length := by omega
    subst e0
    exact .inl ⟨j2 (Nat.le_refl _), k Dl l' w' m3 i3 (fr_back g2 hD) hDp o hl' hPR⟩
/-! ### loops that seek -/
theorem seek_none {f : α → Option β} {i : Nat} (hn : (l.take i).findSome? f = none) (h : l[i]? = some a) (hf : f a = none) : (l.take (i + 1)).findSome? f = none := by
  rw [List.take_add_one, h, List.findSome?_append, hn]; simp [hf]
theorem seek_hit {f : α → Option β} {i : Nat} {b : β} (hn : (l.take i).findSome? f = none) (h : l[i]? = some a) (hf : f a = some b) : l.findSome? f = some b := by
  have hi := (List.getElem?_eq_some_iff.mp h).1
  have : l = l.take i ++ (a :: l.drop (i + 1)) := by
    have h2 : l[i] = a := (List.getElem?_eq_some_iff.mp h).2
    rw [← h2, ← List.drop_eq_getElem_cons hi, List.take_append_drop]
  rw [this, List.findSome?_append, hn]; simp [hf]
/-! ### a list that may be absent -/
def spO3 {α0 α1 α2 γ : Type} (K : PySem.W.Frag) (r0 : Rep α0) (r1 : Rep α1) (r2 : Rep α2) (pre : α0 → α1 → α2 → Prop) (rc : Rep γ) (f : α0 → α1 → α2 → Option (List γ)) : Sp := fun vs H Q _ =>
  ∃ (wd : Wd) (x0 x1 x2 : V) (a0 : α0) (a1 : α1) (a2 : α2), wd.H = H ∧ vs = [x0, x1, x2] ∧ r0.r K wd.S x0 a0 ∧ r1.r K wd.S x1 a1 ∧ r2.r K wd.S x2 a2 ∧ pre a0 a1 a2 ∧
    (f a0 a1 a2 = none → ∀ w', Gr wd w' → Q .non w'.H) ∧ (∀ l, f a0 a1 a2 = some l → ∀ p w', Gr wd w' → wd.H p = none → OwnL K w' p rc l → Q (.ref p) w'.H)
theorem ev_callO3 {α0 α1 α2 : Type} {r0 : Rep α0} {r1 : Rep α1} {r2 : Rep α2} {pre : α0 → α1 → α2 → Prop} {f : α0 → α1 → α2 → Option (List γ)} {a0 : α0} {a1 : α1} {a2 : α2} {t0 t1 t2 : TE} {E : XK}
    (h0 : EvD K t0 σ w r0 a0) (h1 : EvD K t1 σ w r1 a1) (h2 : EvD K t2 σ w r2 a2) (hp : pre a0 a1 a2) : EvD K (tCall (spO3 K r0 r1 r2 pre rc f) [] E (tCons t0 (tCons t1 (tCons t2 tNil)))) σ w (Rep.opt (Rep.list rc)) (f a0 a1 a2) := fun w1 g Q q =>
  h0 w1 g _ fun v0 u0 k0 z0 => h1 u0 (g.trans k0) _ fun v1 u1 k1 z1 => h2 u1 ((g.trans k0).trans k1) _ fun v2 u2 k2 z2 => ⟨u2, _, _, _, _, _, _, rfl, rfl, r0.m (k1.s.trans k2.s) z0, r1.m k2.s z1, z2, hp,
    fun e w' g' => q _ w' (((k0.trans k1).trans k2).trans g') (by rw [e]; exact rfl), fun l e p w' g' n o => by
      obtain ⟨w3, e3, m3, rr⟩ := o.fix
      rw [← e3]
      exact q _ w3 (m3.gr w1 (((k0.trans k1).trans k2).trans g') (fr_back ((k0.trans k1).trans k2) n)) (by rw [e]; exact rr)⟩
theorem callO3_run {α0 α1 α2 : Type} {r0 : Rep α0} {r1 : Rep α1} {r2 : Rep α2} {pre : α0 → α1 → α2 → Prop} {f : α0 → α1 → α2 → Option (List γ)} {a0 : α0} {a1 : α1} {a2 : α2} {t0 t1 t2 : TE} {E : XK} {Q : VK}
    (h0 : EvD K t0 σ w r0 a0) (h1 : EvD K t1 σ w r1 a1) (h2 : EvD K t2 σ w r2 a2) (hp : pre a0 a1 a2) (q0 : f a0 a1 a2 = none → ∀ w', Gr w w' → Q .non w'.H) (q1 : ∀ l, f a0 a1 a2 = some l → ∀ p w', Gr w w' → w.H p = none → OwnL K w' p rc l → Q (.ref p) w'.H) :
    tCall (spO3 K r0 r1 r2 pre rc f) [] E (tCons t0 (tCons t1 (tCons t2 tNil))) σ w.H Q :=
  h0.run fun v0 u0 k0 z0 => (h1.gr k0).run fun v1 u1 k1 z1 => (h2.gr (k0.trans k1)).run fun v2 u2 k2 z2 => ⟨u2, _, _, _, _, _, _, rfl, rfl, r0.m (k1.s.trans k2.s) z0, r1.m k2.s z1, z2, hp,
    fun e w' g' => q0 e w' (((k0.trans k1).trans k2).trans g'), fun l e p w' g' n o => q1 l e p w' (((k0.trans k1).trans k2).trans g') (fr_back ((k0.trans k1).trans k2) n) o⟩
theorem okO3 {α0 α1 α2 : Type} {r0 : Rep α0} {r1 : Rep α1} {r2 : Rep α2} {pre : α0 → α1 → α2 → Prop} {f : α0 → α1 → α2 → Option (List γ)} {P : Program} {w : World} {K : PySem.W.Frag} {mg : Str → Option Value} {base : Heap} {x qual : Str} {params : Arguments} {body : List Stmt} {scope : Scope} {dvs : List V} {kws : List (Str × V)} {fa : Addr} {fd : FuncData} {CX : CXT} {N ps : List Str} {k : Nat}
    (F : FunD K x qual params body scope dvs kws fa fd) (S : FnScope N ps scope) (hl : ps.length = 3)
    (hb : ∀ (cdv : Value) (A : Around) (outer : List Env) (s : Shared) (H : Hp) (E : XK), Room k (A.deeper (envOfC qual scope s.heap.objs.size fa cdv)) → ∃ t, PSs (cxOf CX P w K mg base N qual scope fa cdv A outer s H E).nox body t ∧
      ∀ (wd : Wd) (x0 : V) (x1 : V) (x2 : V) (a0 : α0) (a1 : α1) (a2 : α2) (Q : VK), r0.r K wd.S x0 a0 → r1.r K wd.S x1 a1 → r2.r K wd.S x2 a2 → pre a0 a1 a2 → (f a0 a1 a2 = none → ∀ w', Gr wd w' → Q .non w'.H) →
        (∀ l, f a0 a1 a2 = some l → ∀ p w', Gr wd w' → wd.H p = none → OwnL K w' p rc l → Q (.ref p) w'.H) → t { nx := fun _ H' => Q .non H', rt := Q } (start N [x0, x1, x2]) wd.H) : FnOk P w K mg base CX (k + 1) fa fd ps (spO3 K r0 r1 r2 pre rc f) :=
  FunD.ok F S (fun vs H Q E h => by obtain ⟨wd, x0, x1, x2, a0, a1, a2, hw, hv, _⟩ := h; rw [hl, hv] <;> rfl) fun cdv A outer s H vs Q E hr h => by
    obtain ⟨t, ht, hq⟩ := hb cdv A outer s H E hr
    obtain ⟨wd, x0, x1, x2, a0, a1, a2, hw, hv, q0, q1, q2, hp, k0, k1⟩ := h
    subst hv; subst hw
    exact ⟨t, PSs.nox ht, hq wd x0 x1 x2 a0 a1 a2 Q q0 q1 q2 hp k0 k1⟩
end
end WK

/-! WK, part 12: ranges with a step; items by place. -/
namespace WK
open PySem PySem.Spec PyProof.Rows L2
theorem fits_small {x : Int} (h : -10000000 ≤ x ∧ x ≤ 10000000) : Builtin.Range.rangeFitsLong x = true := by
  unfold Builtin.Range.rangeFitsLong
  simp
  omega
theorem div_small {x c : Int} (hc : 1 ≤ c) (h : -1000000 ≤ x ∧ x ≤ 1000000) : -1000000 ≤ x / c ∧ x / c ≤ 1000000 := by
  refine ⟨?_, ?_⟩
  · refine (Int.le_ediv_iff_mul_le (by omega)).mpr ?_
    have := Int.mul_le_mul_of_nonneg_left hc (show (0 : Int) ≤ 1000000 by decide)
    omega
  · by_cases h0 : 0 ≤ x
    · exact Int.le_trans (Int.ediv_le_self _ h0) h.2
    · have : x / c < 0 := Int.ediv_neg_of_neg_of_pos (by omega) (by omega)
      omega
theorem rgc_up {lo hi c : Int} (hl : -100000 ≤ lo ∧ lo ≤ 100000) (hh : -100000 ≤ hi ∧ hi ≤ 100000) (hc : 1 ≤ c ∧ c ≤ 1000) : RgC lo hi c ((hi - lo + c - 1) / c).toNat := by
  have hs : Builtin.Range.rangeSize lo hi c = (((hi - lo + c - 1) / c).toNat : Int) := by
    unfold Builtin.Range.rangeSize
    rw [if_pos (by omega)]
    have e : hi - lo + c - 1 = (hi - lo - 1) + 1 * c := by omega
    rw [e, Int.add_mul_ediv_right _ _ (by omega)]
    split
    · have := Int.ediv_nonneg (show 0 ≤ hi - lo - 1 by omega) (show 0 ≤ c by omega)
      omega
    · have := Int.ediv_neg_of_neg_of_pos (show hi - lo - 1 < 0 by omega) (show 0 < c by omega)
      omega
  refine ⟨by omega, by omega, ?_, hs⟩
  unfold Builtin.Range.small
  have hd := div_small (x := hi - lo + c - 1) hc.1 (by omega)
  have f1 := fits_small (x := lo) (by omega)
  have f2 := fits_small (x := hi) (by omega)
  have f3 := fits_small (x := c) (by omega)
  have f4 := fits_small (x := (((hi - lo + c - 1) / c).toNat : Int)) (by omega)
  have f5 := fits_small (x := hi + (c - 1)) (by omega)
  rw [hs, f1, f2, f3, f4, if_pos (by omega), f5]
  simp
theorem srange_mem {lo hi c a : Int} (hc : 1 ≤ c) : a ∈ srange lo hi c ↔ ∃ m : Nat, a = lo + (m : Int) * c ∧ a < hi := by
  unfold srange
  simp only [List.mem_map, List.mem_range]
  have key : ∀ m : Nat, m < ((hi - lo + c - 1) / c).toNat ↔ lo + (m : Int) * c < hi := by
    intro m
    have h1 : m < ((hi - lo + c - 1) / c).toNat ↔ (m : Int) + 1 ≤ (hi - lo + c - 1) / c := by omega
    rw [h1, Int.le_ediv_iff_mul_le (by omega), Int.add_mul]
    omega
  constructor
  · rintro ⟨m, h, rfl⟩; exact ⟨m, rfl, (key m).mp h⟩
  · rintro ⟨m, rfl, h⟩; exact ⟨m, (key m).mpr h, rfl⟩
section
variable {K : PySem.W.Frag} {σ : L2.St} {w w' : Wd} {ta tb tc te tl : TE} {α : Type} {e : Rep α} {l : List α}
theorem ei_srange {lo hi c : Int} (h : EvD K ta σ w Rep.int lo) (h2 : EvD K tb σ w Rep.int hi) (h3 : EvD K tc σ w Rep.int c) (hl : -100000 ≤ lo ∧ lo ≤ 100000) (hh : -100000 ≤ hi ∧ hi ≤ 100000) (hc : 1 ≤ c ∧ c ≤ 1000) :
    EvI K (iRng3 (tCons ta (tCons tb (tCons tc tNil)))) σ w Rep.int (srange lo hi c) := ei_range3 h h2 h3 (rgc_up hl hh hc)
theorem atI_D {i : Int} {d : α} (h0 : 0 ≤ i) (h : i < l.length) : atI l i = some (l.getD i.toNat d) := by
  refine atI_int h0 ?_
  rw [List.getD_eq_getElem?_getD]
  have : i.toNat < l.length := by omega
  simp [this]
theorem getD_at {i : Nat} {d a : α} (h : l[i]? = some a) : l.getD i d = a := by rw [List.getD_eq_getElem?_getD, h]; rfl
theorem getD_some {i : Nat} {d : α} (h : i < l.length) : l[i]? = some (l.getD i d) := by
  rw [List.getD_eq_getElem?_getD]; simp [h]
end
theorem getD_bd {l : List Int} {B : Nat} (h : ∀ v ∈ l, v.natAbs ≤ B) (i : Nat) : (l.getD i 0).natAbs ≤ B := by
  rw [List.getD_eq_getElem?_getD]
  cases q : l[i]? with
  | none => exact Nat.zero_le _
  | some a => exact h a (List.mem_of_getElem? q)
/-- xs[lo::c] where the unit's own cells are told -/
theorem pe_stepK {X : Cx} {e a b : Expr} {te : TE} {tl ts : TO} {p2 pos : Pos} (K : PySem.W.Frag) (he : PE X e te) (ha : PO X (some a) tl) (hb : PO X (some b) ts) (hK : X.K = K := by rfl)
    (hsub : ∀ (x y : Value), subscripted (.Slice (some a) none (some b) p2) false x y = operate [x, y] (getItem x y) := by intros; rfl) : PE X (.Subscript e (.Slice (some a) none (some b) p2) pos) (tStep K te tl ts) := hK ▸ pe_step he ha hb hsub
end WK

/-! WM1: the plain law of sums, offsets, classes, ways. -/
namespace WK
open PySem PySem.Spec PyProof.Rows L2
def gI (o : List Int) (i : Int) : Int := o.getD i.toNat 0
theorem atI_gI {l : List Int} {i : Int} (h0 : 0 ≤ i) (h : i < l.length) : atI l i = some (gI l i) := atI_D h0 h
/-! ### offsets -/
def offsK (s : List Int) (L k : Nat) : List Int := (List.range k).foldl (fun f p => f ++ [f.getD p 0 + s.getD (p + 1) 0 - s.getD p 0]) (List.replicate L 0)
def offs (s : List Int) (L : Int) : List Int := offsK s L.toNat (s.length - 1)
section
variable {s x o : List Int} {L most : Int} {k n : Nat}
theorem offsK_succ : offsK s n (k + 1) = offsK s n k ++ [(offsK s n k).getD k 0 + s.getD (k + 1) 0 - s.getD k 0] := by
  unfold offsK; rw [List.range_succ, List.foldl_append]; rfl
theorem offsK_len : (offsK s n k).length = n + k := by
  induction k with
  | zero => simp [offsK]
  | succ k ih => rw [offsK_succ, List.length_append, ih]; simp; omega
theorem offs_len : (offs s L).length = L.toNat + (s.length - 1) := offsK_len
/-! ### sums over 0 .. L - 1 -/
def isum (f : Int → Int) (L : Int) : Int := ((irange 0 L).map f).sum
theorem isum_nat {f : Int → Int} : isum f (n : Int) = ((List.range n).map fun (i : Nat) => f (i : Int)).sum := by
  unfold isum irange
  rw [List.map_map]
  have : ((n : Int) - 0).toNat = n := by omega
  rw [this]
  congr 1
  refine List.map_congr_left fun i _ => ?_
  show f (0 + (i : Int)) = _
  rw [Int.zero_add]
theorem isum_succ {f : Int → Int} : isum f ((n + 1 : Nat) : Int) = isum f (n : Int) + f (n : Int) := by
  rw [isum_nat, isum_nat, List.range_succ, List.map_append, List.sum_append]; simp
theorem isum_zero {f : Int → Int} : isum f ((0 : Nat) : Int) = 0 := by rw [isum_nat]; simp
theorem isum_tel {f : Int → Int} {p : Int} : isum (fun j => f (p + 1 + j)) (n : Int) - isum (fun j => f (p + j)) (n : Int) = f (p + n) - f p := by
  induction n with
  | zero => rw [isum_zero, isum_zero]; simp
  | succ n ih =>
    rw [isum_succ, isum_succ]
    have e : f (p + ((n + 1 : Nat) : Int)) = f (p + 1 + (n : Int)) := by congr 1; omega
    rw [e]
    omega
theorem isum_congr {f g : Int → Int} (h : ∀ i, 0 ≤ i → i < L → f i = g i) : isum f L = isum g L := by
  unfold isum
  congr 1
  refine List.map_congr_left fun i hi => ?_
  have := irange_mem.mp hi
  exact h i this.1 this.2
theorem isum_add {f g : Int → Int} : isum (fun i => f i + g i) (n : Int) = isum f n + isum g n := by
  induction n with
  | zero => rw [isum_zero, isum_zero, isum_zero]; rfl
  | succ n ih => rw [isum_succ, isum_succ, isum_succ, ih]; omega
theorem isum_le {f : Int → Int} {b : Int} (h : ∀ i, 0 ≤ i → i < (n : Int) → f i ≤ b) : isum f n ≤ n * b := by
  induction n with
  | zero => rw [isum_zero]; simp
  | succ n ih =>
    rw [isum_succ]
    have h1 := ih fun i h0 h1 => h i h0 (by omega)
    have h2 := h (n : Int) (by omega) (by omega)
    have : (((n + 1 : Nat) : Int)) * b = n * b + b := by rw [Int.natCast_add, Int.add_mul]; simp
    omega
theorem isum_nonneg {f : Int → Int} (h : ∀ i, 0 ≤ i → i < (n : Int) → 0 ≤ f i) : 0 ≤ isum f n := by
  induction n with
  | zero => rw [isum_zero]; exact Int.le_refl _
  | succ n ih =>
    rw [isum_succ]
    have h1 := ih fun i h0 h1 => h i h0 (by omega)
    have h2 := h (n : Int) (by omega) (by omega)
    omega
/-! ### what is asked of sums; a way -/
structure VS (s : List Int) (L : Int) : Prop where
  ne : 1 ≤ s.length
  lo : 1 ≤ L
  hi : L ≤ 8
  days : s.length + L ≤ 68
structure Way (s x : List Int) (L most : Int) : Prop where
  len : (x.length : Int) = s.length + L - 1
  sm : ∀ i : Nat, i < s.length → s.getD i 0 = isum (fun j => gI x (i + j)) L
  rg : ∀ v ∈ x, 0 ≤ v ∧ v ≤ most
theorem VS.offs (v : VS s L) : ((offs s L).length : Int) = s.length + L - 1 := by
  rw [offs_len]
  have := v.ne; have := v.lo
  omega
theorem Way.at (y : Way s x L most) {i : Int} (h0 : 0 ≤ i) (h : i < x.length) : 0 ≤ gI x i ∧ gI x i ≤ most := by
  unfold gI
  rw [List.getD_eq_getElem?_getD, List.getElem?_eq_getElem (by omega)]
  exact y.rg _ (List.getElem_mem _)
theorem gI_app_l {l m : List Int} {i : Int} (h : i.toNat < l.length) : gI (l ++ m) i = gI l i := by
  unfold gI; rw [List.getD_eq_getElem?_getD, List.getD_eq_getElem?_getD, List.getElem?_append_left h]
theorem offsK_way (y : Way s x L most) (v : VS s L) : ∀ k : Nat, k ≤ s.length - 1 → ∀ i : Int, 0 ≤ i → i < L + k → gI (offsK s L.toNat k) i = gI x i - gI x (i % L)
  | 0, _, i, h0, h => by
    have e : i % L = i := Int.emod_eq_of_lt h0 (by omega)
    rw [e]
    unfold gI offsK
    simp only [List.range_zero, List.foldl_nil]
    rw [List.getD_eq_getElem?_getD, List.getElem?_replicate, if_pos (by have := v.lo; omega)]
    simp
  | k + 1, hk, i, h0, h => by
    have ih := offsK_way y v k (by omega)
    have hl := v.lo
    rw [offsK_succ]
    by_cases hi : i < L + k
    · rw [gI_app_l (by rw [offsK_len]; omega)]
      exact ih i h0 hi
    · have e : i = L + k := by omega
      subst e
      have g1 : gI (offsK s L.toNat k ++ [(offsK s L.toNat k).getD k 0 + s.getD (k + 1) 0 - s.getD k 0]) (L + k) = (offsK s L.toNat k).getD k 0 + s.getD (k + 1) 0 - s.getD k 0 := by
        unfold gI
        rw [List.getD_eq_getElem?_getD, List.getElem?_append_right (by rw [offsK_len]; omega), offsK_len]
        have : (L + (k : Int)).toNat - (L.toNat + k) = 0 := by omega
        rw [this]; rfl
      rw [g1]
      have g2 := ih k (by omega) (by omega)
      have g3 : (offsK s L.toNat k).getD k 0 = gI (offsK s L.toNat k) (k : Int) := by unfold gI; rw [Int.toNat_natCast]
      rw [g3, g2, y.sm (k + 1) (by omega), y.sm k (by omega)]
      have t := isum_tel (f := gI x) (p := (k : Int)) (n := L.toNat)
      rw [show ((L.toNat : Nat) : Int) = L by omega] at t
      have e2 : (L + (k : Int)) % L = (k : Int) % L := Int.add_emod_left ..
      have e3 : ((k + 1 : Nat) : Int) = (k : Int) + 1 := by omega
      rw [e2, e3, Int.add_comm L (k : Int)]
      omega
theorem offs_way (y : Way s x L most) (v : VS s L) {i : Int} (h0 : 0 ≤ i) (h : i < x.length) : gI (offs s L) i = gI x i - gI x (i % L) :=
  offsK_way y v (s.length - 1) (Nat.le_refl _) i h0 (by have := y.len; have := v.ne; omega)
/-! ### classes -/
def cls (o : List Int) (L r : Int) : List Int := stepV o r.toNat L.toNat
def classes (o : List Int) (L : Int) : List (List Int) := (irange 0 L).map (cls o L)
theorem cls_get (hL : 1 ≤ L) {r : Int} (hr : 0 ≤ r) {j : Nat} : (cls o L r)[j]? = o[(r + L * j).toNat]? := by
  unfold cls
  rw [stepV_get (by omega)]
  congr 1
  have : L = (L.toNat : Int) := by omega
  have : r = (r.toNat : Int) := by omega
  rw [show (r + L * (j : Int)).toNat = r.toNat + L.toNat * j by
    rw [‹L = _›, ‹r = _›]
    simp only [Int.toNat_natCast]
    rw [← Int.natCast_mul, ← Int.natCast_add, Int.toNat_natCast]]
theorem cls_ne (hL : 1 ≤ L) {r : Int} (hr : 0 ≤ r) (h : r < o.length) : cls o L r ≠ [] := fun z => by
  have := cls_get (o := o) hL hr (j := 0)
  rw [z] at this
  rw [show (r + L * ((0 : Nat) : Int)).toNat = r.toNat by simp, List.getElem?_eq_getElem (l := o) (i := r.toNat) (by omega)] at this
  cases this
theorem cls_at (hL : 1 ≤ L) {r : Int} (hr : 0 ≤ r) {j : Nat} {a : Int} (h : (cls o L r)[j]? = some a) : r + L * j < o.length ∧ gI o (r + L * j) = a := by
  rw [cls_get hL hr] at h
  have h1 := (List.getElem?_eq_some_iff.mp h).1
  have h2 : 0 ≤ r + L * j := by
    have := Int.mul_nonneg (show 0 ≤ L by omega) (show (0 : Int) ≤ j by omega)
    omega
  refine ⟨by omega, ?_⟩
  unfold gI
  exact getD_at h
theorem cls_mem (hL : 1 ≤ L) {i : Int} (hi : 0 ≤ i) (h : i < o.length) : gI o i ∈ cls o L (i % L) := by
  have h0 := Int.emod_nonneg i (show L ≠ 0 by omega)
  have e : i % L + L * (i / L) = i := Int.emod_add_mul_ediv i L
  have h1 : 0 ≤ i / L := Int.ediv_nonneg hi (by omega)
  have := cls_get (o := o) hL h0 (j := (i / L).toNat)
  rw [Int.toNat_of_nonneg h1, e, getD_some (l := o) (d := 0) (by omega)] at this
  exact List.mem_of_getElem? this
/-- the greatest or the least -/
def exV (hi : Bool) (l : List Int) : Int := if hi = true then maxL l else minL l
theorem exV_mem {hi : Bool} {l : List Int} (h : l ≠ []) : exV hi l ∈ l := by
  unfold exV; split
  · exact (maxL_spec h).1
  · exact (minL_spec h).1
def endDay (o : List Int) (L : Int) (hi : Bool) (r : Int) : Int := r + L * (((cls o L r).idxOf (exV hi (cls o L r)) : Nat) : Int)
def endsU (o : List Int) (L : Int) (hi : Bool) : List Int := (irange 0 L).map (endDay o L hi)
def ends (o : List Int) (L : Int) (hi : Bool) : List Int := sortI (endsU o L hi)
theorem idxOf_get {l : List Int} {a : Int} (h : a ∈ l) : l[l.idxOf a]? = some a := by
  rw [List.getElem?_eq_getElem (List.idxOf_lt_length_of_mem h), List.getElem_idxOf]
theorem idxOf_first {l : List Int} {a y : Int} {m : Nat} (hm : m < l.idxOf a) (hy : l[m]? = some y) : y ≠ a := by
  intro e
  subst e
  have hl := (List.getElem?_eq_some_iff.mp hy)
  obtain ⟨h1, h2⟩ := hl
  have := List.not_of_lt_findIdx (p := (· == y)) (xs := l) (i := m) hm
  rw [h2] at this
  simp at this
theorem end_spec {hi : Bool} {r : Int} (hL : 1 ≤ L) (hr : 0 ≤ r) (hr2 : r < L) (ho : L ≤ o.length) : 0 ≤ endDay o L hi r ∧ endDay o L hi r < o.length ∧ endDay o L hi r % L = r ∧ gI o (endDay o L hi r) = exV hi (cls o L r) := by
  have hne := cls_ne (o := o) hL hr (by omega)
  have hm := exV_mem (hi := hi) hne
  obtain ⟨h1, h2⟩ := cls_at hL hr (idxOf_get hm)
  refine ⟨?_, h1, ?_, h2⟩
  · unfold endDay
    have := Int.mul_nonneg (show 0 ≤ L by omega) (show (0 : Int) ≤ (((cls o L r).idxOf (exV hi (cls o L r)) : Nat) : Int) by omega)
    omega
  · unfold endDay
    rw [Int.add_mul_emod_self_left]
    exact Int.emod_eq_of_lt hr hr2
theorem ends_mem {hi : Bool} {d : Int} (hL : 1 ≤ L) (ho : L ≤ o.length) (h : d ∈ ends o L hi) : 0 ≤ d ∧ d < o.length := by
  have := (sortI_perm _).mem_iff.mp h
  obtain ⟨r, hr, rfl⟩ := List.mem_map.mp this
  have := irange_mem.mp hr
  have := end_spec (o := o) (hi := hi) hL this.1 this.2 ho
  exact ⟨this.1, this.2.1⟩
/-! ### totals -/
def totalIn (s : List Int) (L : Int) (ds : List Int) : Int := gI s 0 + (ds.map fun d => gI (offs s L) d).sum
theorem perm_sum {l m : List Int} (h : l.Perm m) : l.sum = m.sum := by
  induction h with
  | nil => rfl
  | cons a _ ih => rw [List.sum_cons, List.sum_cons, ih]
  | swap a b l => rw [List.sum_cons, List.sum_cons, List.sum_cons, List.sum_cons]; omega
  | trans _ _ h1 h2 => exact h1.trans h2
theorem sum_ends {hi : Bool} : ((ends o L hi).map fun d => gI o d).sum = isum (fun r => gI o (endDay o L hi r)) L := by
  unfold ends
  rw [perm_sum ((sortI_perm (endsU o L hi)).map _)]
  unfold endsU isum
  rw [List.map_map]; rfl
theorem sum_exV {hi : Bool} (hL : 1 ≤ L) (ho : L ≤ o.length) : ((ends o L hi).map fun d => gI o d).sum = ((classes o L).map (exV hi)).sum := by
  rw [sum_ends]
  unfold isum classes
  rw [List.map_map]
  congr 1
  refine List.map_congr_left fun r hr => ?_
  have := irange_mem.mp hr
  exact (end_spec hL this.1 this.2 ho).2.2.2
theorem total_way {hi : Bool} (y : Way s x L most) (v : VS s L) : totalIn s L (ends (offs s L) L hi) = isum (fun r => gI x (endDay (offs s L) L hi r)) L := by
  have hl : ((offs s L).length : Int) = x.length := by rw [v.offs, y.len]
  have h1 := v.lo
  have h2 := v.ne
  unfold totalIn
  rw [sum_ends]
  have e1 : gI s 0 = isum (fun j => gI x j) L := by
    have := y.sm 0 (by omega)
    unfold gI
    rw [show (0 : Int).toNat = 0 from rfl, this]
    exact isum_congr fun i _ _ => by rw [show ((0 : Nat) : Int) + i = i by omega]; rfl
  have e2 : isum (fun r => gI (offs s L) (endDay (offs s L) L hi r)) L = isum (fun r => gI x (endDay (offs s L) L hi r) + - gI x r) L := isum_congr fun r h0 h3 => by
    have := v.offs
    obtain ⟨a, b, c, _⟩ := end_spec (o := offs s L) (hi := hi) h1 h0 h3 (by omega)
    rw [offs_way y v a (by omega), c]; omega
  rw [e1, e2]
  have hn : L = (L.toNat : Int) := by omega
  rw [hn, isum_add]
  have e3 : isum (fun j => gI x j) (L.toNat : Int) + isum (fun j => - gI x j) (L.toNat : Int) = 0 := by
    rw [← isum_add]
    have : isum (fun i => gI x i + - gI x i) (L.toNat : Int) = isum (fun _ => 0) (L.toNat : Int) := isum_congr fun i _ _ => by omega
    rw [this]
    have a := isum_le (f := fun _ => 0) (b := 0) (n := L.toNat) fun _ _ _ => Int.le_refl _
    have b := isum_nonneg (f := fun _ => 0) (n := L.toNat) fun _ _ _ => Int.le_refl _
    omega
  omega
/-! ### conflicts -/
def apart (o : List Int) (L least : Int) : Option (List Int) := (irange 0 o.length).findSome? fun i => (srange (i + L) o.length L).findSome? fun j => if least ≤ ((gI o j - gI o i).natAbs : Int) then some [i, j] else none
def conf (s : List Int) (L most : Int) : Option (Str × List Int) := match apart (offs s L) L (most + 1) with
  | some d => some ("apart", d)
  | none => if totalIn s L (ends (offs s L) L false) < 0 then some ("low", ends (offs s L) L false) else if L * most < totalIn s L (ends (offs s L) L true) then some ("high", ends (offs s L) L true) else none
theorem apart_none {least : Int} (h : ∀ i j : Int, 0 ≤ i → i < j → j < o.length → j % L = i % L → ((gI o j - gI o i).natAbs : Int) < least) (hL : 1 ≤ L) : apart o L least = none := by
  unfold apart
  refine List.findSome?_eq_none_iff.mpr fun i hi => List.findSome?_eq_none_iff.mpr fun j hj => ?_
  have h1 := irange_mem.mp hi
  obtain ⟨m, e, h2⟩ := (srange_mem hL).mp hj
  have h3 := Int.mul_nonneg (show (0 : Int) ≤ m by omega) (show 0 ≤ L by omega)
  have h4 := h i j h1.1 (by omega) h2 (by rw [e, Int.add_mul_emod_self_right, Int.add_emod_right])
  rw [if_neg (by omega)]
theorem way_pair (y : Way s x L most) (v : VS s L) {i j : Int} (h0 : 0 ≤ i) (h1 : i < j) (h2 : j < (offs s L).length) (h3 : j % L = i % L) : ((gI (offs s L) j - gI (offs s L) i).natAbs : Int) ≤ most := by
  have hl := v.offs
  have hy := y.len
  rw [offs_way y v (by omega) (by omega), offs_way y v h0 (by omega), h3]
  have a := y.at (i := i) h0 (by omega)
  have b := y.at (i := j) (by omega) (by omega)
  omega
theorem conf_none (y : Way s x L most) (v : VS s L) : conf s L most = none := by
  have hl := v.offs
  have hy := y.len
  have h1 := v.lo
  have h2 := v.ne
  unfold conf
  rw [apart_none (fun i j a b c d => by have := way_pair y v a b c d; omega) h1]
  have hat : ∀ hi r, 0 ≤ r → r < L → 0 ≤ gI x (endDay (offs s L) L hi r) ∧ gI x (endDay (offs s L) L hi r) ≤ most := fun hi r h3 h4 => by
    obtain ⟨a, b, _⟩ := end_spec (o := offs s L) (hi := hi) h1 h3 h4 (by omega)
    exact y.at a (by omega)
  have hn : L = (L.toNat : Int) := by omega
  have t1 : 0 ≤ totalIn s L (ends (offs s L) L false) := by
    rw [total_way y v, show isum (fun r => gI x (endDay (offs s L) L false r)) L = isum (fun r => gI x (endDay (offs s L) L false r)) (L.toNat : Int) by rw [← hn]]
    exact isum_nonneg fun i a b => (hat _ i a (by omega)).1
  have t2 : totalIn s L (ends (offs s L) L true) ≤ L * most := by
    rw [total_way y v, show isum (fun r => gI x (endDay (offs s L) L true r)) L = isum (fun r => gI x (endDay (offs s L) L true r)) (L.toNat : Int) by rw [← hn]]
    have := isum_le (f := fun r => gI x (endDay (offs s L) L true r)) (b := most) (n := L.toNat) fun i a b => (hat _ i a (by omega)).2
    rw [← hn] at this ⊢
    exact this
  simp only
  rw [if_neg (by omega), if_neg (by omega)]
end
end WK

/-! WM2: the plain law of levels. -/
namespace WK
open PySem PySem.Spec PyProof.Rows L2
def mins (s : List Int) (L : Int) : List Int := (classes (offs s L) L).map minL
def maxs (s : List Int) (L : Int) : List Int := (classes (offs s L) L).map maxL
def spread (s : List Int) (L : Int) : Int := maxL (((mins s L).zip (maxs s L)).map fun p => p.2 - p.1)
def mhigh (s : List Int) (L : Int) : Int := -((-(gI s 0 + (maxs s L).sum)) / L)
def mlow (s : List Int) (L : Int) : Int := (gI s 0 + (mins s L).sum) / L
def peakI (s : List Int) (L : Int) : Int := max (spread s L) (mhigh s L)
def floorI (s : List Int) (L m : Int) : Int := min (m - spread s L) (mlow s L)
def lspread (s : List Int) (L : Int) : Int := max (spread s L) (mhigh s L - mlow s L)
def paper (s : List Int) (L : Int) : Str × List Int := match apart (offs s L) L (peakI s L) with
  | none => ("high", ends (offs s L) L true)
  | some d => ("apart", d)
section
variable {s o : List Int} {L m : Int}
theorem spread_eq : spread s L = maxL ((irange 0 L).map fun r => maxL (cls (offs s L) L r) - minL (cls (offs s L) L r)) := by
  unfold spread mins maxs classes
  rw [List.map_map, List.map_map, List.zip_map', List.map_map]; rfl
theorem vs_cls_ne (v : VS s L) {r : Int} (h0 : 0 ≤ r) (h : r < L) : cls (offs s L) L r ≠ [] := cls_ne v.lo h0 (by have := v.offs; have := v.ne; omega)
theorem vs_rg_ne (v : VS s L) {β : Type} {f : Int → β} : (irange 0 L).map f ≠ [] := fun z => by
  have h := congrArg List.length z
  rw [List.length_map, irange_len, List.length_nil] at h
  have := v.lo
  omega
theorem spread_ge (v : VS s L) {i j : Int} (h0 : 0 ≤ i) (h1 : i < (offs s L).length) (h2 : 0 ≤ j) (h3 : j < (offs s L).length) (h : j % L = i % L) : ((gI (offs s L) j - gI (offs s L) i).natAbs : Int) ≤ spread s L := by
  have hL := v.lo
  rw [spread_eq]
  have m0 := Int.emod_nonneg i (show L ≠ 0 by omega)
  have m1 := Int.emod_lt_of_pos i (show 0 < L by omega)
  have hm := (maxL_spec (vs_rg_ne v (f := fun r => maxL (cls (offs s L) L r) - minL (cls (offs s L) L r)))).2 _ (List.mem_map.mpr ⟨i % L, irange_mem.mpr ⟨m0, m1⟩, rfl⟩)
  have c1 := cls_mem (o := offs s L) hL h0 h1
  have c2 := cls_mem (o := offs s L) hL h2 h3
  rw [h] at c2
  have hne := vs_cls_ne v m0 m1
  have a1 := (maxL_spec hne).2 _ c1
  have a2 := (maxL_spec hne).2 _ c2
  have b1 := (minL_spec hne).2 _ c1
  have b2 := (minL_spec hne).2 _ c2
  omega
theorem spread_at (v : VS s L) : ∃ i j : Int, 0 ≤ i ∧ i < (offs s L).length ∧ 0 ≤ j ∧ j < (offs s L).length ∧ j % L = i % L ∧ ((gI (offs s L) j - gI (offs s L) i).natAbs : Int) = spread s L := by
  have hL := v.lo
  rw [spread_eq]
  have hm := (maxL_spec (vs_rg_ne v (f := fun r => maxL (cls (offs s L) L r) - minL (cls (offs s L) L r)))).1
  obtain ⟨r, hr, e⟩ := List.mem_map.mp hm
  have hr := irange_mem.mp hr
  have hne := vs_cls_ne v hr.1 hr.2
  obtain ⟨k1, e1⟩ := List.getElem?_of_mem (minL_spec hne).1
  obtain ⟨k2, e2⟩ := List.getElem?_of_mem (maxL_spec hne).1
  obtain ⟨a1, a2⟩ := cls_at hL hr.1 e1
  obtain ⟨b1, b2⟩ := cls_at hL hr.1 e2
  have n1 := Int.mul_nonneg (show 0 ≤ L by omega) (show (0 : Int) ≤ k1 by omega)
  have n2 := Int.mul_nonneg (show 0 ≤ L by omega) (show (0 : Int) ≤ k2 by omega)
  refine ⟨r + L * k1, r + L * k2, by omega, a1, by omega, b1, by rw [Int.add_mul_emod_self_left, Int.add_mul_emod_self_left], ?_⟩
  rw [a2, b2, ← e]
  have := (maxL_spec hne).2 _ (minL_spec hne).1
  omega
/-! ### the law's way to the same -/
def wideL (o : List Int) (L : Int) : Int := (irange 0 o.length).foldl (fun w i => (srange (i + L) o.length L).foldl (fun w j => max w ((gI o j - gI o i).natAbs : Int)) w) 0
theorem fold_max {β : Type} (F : β → Int) : ∀ (l : List β) (b : Int), b ≤ l.foldl (fun w j => max w (F j)) b ∧ (∀ j ∈ l, F j ≤ l.foldl (fun w j => max w (F j)) b) ∧ (l.foldl (fun w j => max w (F j)) b = b ∨ ∃ j ∈ l, l.foldl (fun w j => max w (F j)) b = F j)
  | [], b => ⟨Int.le_refl _, by simp, .inl rfl⟩
  | a :: r, b => by
    obtain ⟨h1, h2, h3⟩ := fold_max F r (max b (F a))
    simp only [List.foldl_cons]
    refine ⟨by omega, fun j hj => ?_, ?_⟩
    · rcases List.mem_cons.mp hj with e | hj
      · subst e; omega
      · exact h2 j hj
    · rcases h3 with h3 | ⟨j, hj, h3⟩
      · rcases Int.le_total b (F a) with h | h
        · exact .inr ⟨a, List.mem_cons_self, by rw [h3]; omega⟩
        · exact .inl (by rw [h3]; omega)
      · exact .inr ⟨j, List.mem_cons_of_mem _ hj, h3⟩
theorem fold_max2 {β γ : Type} (G : β → List γ) (F : β → γ → Int) : ∀ (l : List β) (b : Int), b ≤ l.foldl (fun w i => (G i).foldl (fun w j => max w (F i j)) w) b ∧ (∀ i ∈ l, ∀ j ∈ G i, F i j ≤ l.foldl (fun w i => (G i).foldl (fun w j => max w (F i j)) w) b) ∧
    (l.foldl (fun w i => (G i).foldl (fun w j => max w (F i j)) w) b = b ∨ ∃ i ∈ l, ∃ j ∈ G i, l.foldl (fun w i => (G i).foldl (fun w j => max w (F i j)) w) b = F i j)
  | [], b => ⟨Int.le_refl _, by simp, .inl rfl⟩
  | a :: r, b => by
    obtain ⟨g1, g2, g3⟩ := fold_max (F a) (G a) b
    obtain ⟨h1, h2, h3⟩ := fold_max2 G F r ((G a).foldl (fun w j => max w (F a j)) b)
    simp only [List.foldl_cons]
    refine ⟨by omega, fun i hi j hj => ?_, ?_⟩
    · rcases List.mem_cons.mp hi with e | hi
      · subst e; have := g2 j hj; omega
      · exact h2 i hi j hj
    · rcases h3 with h3 | ⟨i, hi, j, hj, h3⟩
      · rcases g3 with g3 | ⟨j, hj, g3⟩
        · exact .inl (h3.trans g3)
        · exact .inr ⟨a, List.mem_cons_self, j, hj, h3.trans g3⟩
      · exact .inr ⟨i, List.mem_cons_of_mem _ hi, j, hj, h3⟩
theorem same_class {i j : Int} (hL : 1 ≤ L) (h : i < j) (e : j % L = i % L) : ∃ k : Nat, j = i + L + (k : Int) * L := by
  have e1 := Int.emod_add_mul_ediv i L
  have e2 := Int.emod_add_mul_ediv j L
  have h1 : L * (i / L) < L * (j / L) := by omega
  have h2 : i / L < j / L := Int.lt_of_mul_lt_mul_left h1 (by omega)
  refine ⟨(j / L - i / L - 1).toNat, ?_⟩
  rw [Int.toNat_of_nonneg (by omega), Int.sub_mul, Int.sub_mul, Int.mul_comm (j / L), Int.mul_comm (i / L)]
  omega
theorem wide_eq (v : VS s L) : wideL (offs s L) L = spread s L := by
  have hL := v.lo
  have hne := v.ne
  have hl := v.offs
  obtain ⟨g1, g2, g3⟩ := fold_max2 (fun i => srange (i + L) (offs s L).length L) (fun i j => ((gI (offs s L) j - gI (offs s L) i).natAbs : Int)) (irange 0 (offs s L).length) 0
  refine Int.le_antisymm ?_ ?_
  · rcases g3 with g3 | ⟨i, hi, j, hj, g3⟩
    · unfold wideL
      rw [g3]
      have := spread_ge v (i := 0) (j := 0) (Int.le_refl _) (by omega) (Int.le_refl _) (by omega) rfl
      omega
    · unfold wideL
      rw [g3]
      have hi := irange_mem.mp hi
      obtain ⟨k, e, hj⟩ := (srange_mem hL).mp hj
      have := Int.mul_nonneg (show (0 : Int) ≤ k by omega) (show 0 ≤ L by omega)
      exact spread_ge v hi.1 hi.2 (by omega) hj (by rw [e, Int.add_mul_emod_self_right, Int.add_emod_right])
  · obtain ⟨i, j, h0, h1, h2, h3, h4, h5⟩ := spread_at v
    rw [← h5]
    unfold wideL
    have case : ∀ i j : Int, 0 ≤ i → i < j → j < (offs s L).length → j % L = i % L → ((gI (offs s L) j - gI (offs s L) i).natAbs : Int) ≤ wideL (offs s L) L := fun i j a b c d => by
      obtain ⟨k, e⟩ := same_class hL b d
      exact g2 i (irange_mem.mpr ⟨a, by omega⟩) j ((srange_mem hL).mpr ⟨k, e, c⟩)
    rcases Int.lt_trichotomy i j with h | h | h
    · exact case i j h0 h h3 h4
    · subst h
      have : ((gI (offs s L) i - gI (offs s L) i).natAbs : Int) = 0 := by omega
      rw [this]; exact g1
    · have := case j i h2 h h1 h4.symm
      have e : ((gI (offs s L) j - gI (offs s L) i).natAbs : Int) = ((gI (offs s L) i - gI (offs s L) j).natAbs : Int) := by omega
      rw [e]; exact this
def lendU (o : List Int) (L sg r : Int) : Int := (srange r o.length L).foldl (fun b one => if sg * gI o b < sg * gI o one then one else b) r
def lends (o : List Int) (L sg : Int) : List Int := sortI ((irange 0 L).map (lendU o L sg))
theorem srange_sorted {lo hi c : Int} (hc : 1 ≤ c) : (srange lo hi c).Pairwise (· < ·) := by
  unfold srange
  refine List.pairwise_map.mpr (List.Pairwise.imp (R := fun a b : Nat => a < b) ?_ List.pairwise_lt_range)
  intro a b h
  have := Int.mul_lt_mul_of_pos_right (show (a : Int) < b by omega) (show 0 < c by omega)
  omega
theorem fold_first (f : Int → Int) : ∀ (l : List Int) (b : Int), l.Pairwise (· < ·) → (∀ y ∈ l, b ≤ y) →
    (l.foldl (fun b one => if f b < f one then one else b) b ∈ b :: l) ∧ ∀ y ∈ b :: l, f y ≤ f (l.foldl (fun b one => if f b < f one then one else b) b) ∧ (y < l.foldl (fun b one => if f b < f one then one else b) b → f y < f (l.foldl (fun b one => if f b < f one then one else b) b))
  | [], b, _, _ => ⟨by simp, fun y hy => by simp at hy; subst hy; simp⟩
  | a :: t, b, hp, hb => by
    have hp2 := List.pairwise_cons.mp hp
    simp only [List.foldl_cons]
    by_cases h : f b < f a
    · rw [if_pos h]
      obtain ⟨h1, h2⟩ := fold_first f t a hp2.2 fun y hy => Int.le_of_lt (hp2.1 y hy)
      refine ⟨List.mem_cons_of_mem _ h1, fun y hy => ?_⟩
      rcases List.mem_cons.mp hy with e | hy
      · subst e
        have := (h2 a List.mem_cons_self).1
        exact ⟨by omega, fun _ => by omega⟩
      · exact h2 y hy
    · rw [if_neg h]
      obtain ⟨h1, h2⟩ := fold_first f t b hp2.2 fun y hy => hb y (List.mem_cons_of_mem _ hy)
      refine ⟨?_, fun y hy => ?_⟩
      · rcases List.mem_cons.mp h1 with e | h1
        · rw [e]; exact List.mem_cons_self
        · exact List.mem_cons_of_mem _ (List.mem_cons_of_mem _ h1)
      · have hbb := h2 b List.mem_cons_self
        rcases List.mem_cons.mp hy with e | hy
        · subst e; exact hbb
        · rcases List.mem_cons.mp hy with e | hy
          · subst e
            have := hb y List.mem_cons_self
            exact ⟨by omega, fun hlt => by have := hbb.2 (by omega); omega⟩
          · exact h2 y (List.mem_cons_of_mem _ hy)
theorem lendU_eq {hi : Bool} {r : Int} (hL : 1 ≤ L) (h0 : 0 ≤ r) (h1 : r < L) (ho : L ≤ o.length) : lendU o L (if hi = true then 1 else -1) r = endDay o L hi r := by
  have hsr := srange_sorted (lo := r) (hi := o.length) (c := L) hL
  have hge : ∀ y ∈ srange r o.length L, r ≤ y := fun y hy => by
    obtain ⟨k, e, _⟩ := (srange_mem hL).mp hy
    have := Int.mul_nonneg (show (0 : Int) ≤ k by omega) (show 0 ≤ L by omega)
    omega
  have hr : r ∈ srange r o.length L := (srange_mem hL).mpr ⟨0, by simp, by omega⟩
  obtain ⟨a1, a2⟩ := fold_first (fun y => (if hi = true then 1 else -1) * gI o y) (srange r o.length L) r hsr hge
  have a1 : lendU o L (if hi = true then 1 else -1) r ∈ r :: srange r o.length L := a1
  have a2 : ∀ y ∈ r :: srange r o.length L, (if hi = true then 1 else -1) * gI o y ≤ (if hi = true then 1 else -1) * gI o (lendU o L (if hi = true then 1 else -1) r) ∧ (y < lendU o L (if hi = true then 1 else -1) r → (if hi = true then 1 else -1) * gI o y < (if hi = true then 1 else -1) * gI o (lendU o L (if hi = true then 1 else -1) r)) := a2
  generalize lendU o L (if hi = true then 1 else -1) r = B at a1 a2
  have hB : B ∈ srange r o.length L := by
    rcases List.mem_cons.mp a1 with e | h
    · rw [e]; exact hr
    · exact h
  have hne := cls_ne (o := o) hL h0 (by omega)
  obtain ⟨d0, d1, d2, d3⟩ := end_spec (o := o) (hi := hi) hL h0 h1 ho
  have hD : endDay o L hi r ∈ srange r o.length L := (srange_mem hL).mpr ⟨(cls o L r).idxOf (exV hi (cls o L r)), by unfold endDay; rw [Int.mul_comm L], d1⟩
  have place : ∀ y ∈ srange r o.length L, ∃ k : Nat, y = r + L * k ∧ (cls o L r)[k]? = some (gI o y) := fun y hy => by
    obtain ⟨k, e, hlt⟩ := (srange_mem hL).mp hy
    refine ⟨k, by rw [e, Int.mul_comm], ?_⟩
    have := Int.mul_nonneg (show (0 : Int) ≤ k by omega) (show 0 ≤ L by omega)
    rw [cls_get hL h0, ← Int.mul_comm (k : Int), ← e]
    exact getD_some (by omega)
  have best : ∀ y ∈ srange r o.length L, (if hi = true then 1 else -1) * gI o y ≤ (if hi = true then 1 else -1) * gI o (endDay o L hi r) := fun y hy => by
    obtain ⟨k, _, hk⟩ := place y hy
    rw [d3]
    unfold exV
    cases hi with
    | true => have := (maxL_spec hne).2 _ (List.mem_of_getElem? hk); simp; omega
    | false => have := (minL_spec hne).2 _ (List.mem_of_getElem? hk); simp; omega
  have first : ∀ y ∈ srange r o.length L, y < endDay o L hi r → gI o y ≠ gI o (endDay o L hi r) := fun y hy hlt => by
    obtain ⟨k, e, hk⟩ := place y hy
    rw [d3]
    refine idxOf_first (m := k) ?_ hk
    have : L * (k : Int) < L * (((cls o L r).idxOf (exV hi (cls o L r)) : Nat) : Int) := by unfold endDay at hlt; omega
    have := Int.lt_of_mul_lt_mul_left this (by omega)
    omega
  rcases Int.lt_trichotomy B (endDay o L hi r) with h | h | h
  · have x1 := first B hB h
    have x2 := best B hB
    have x3 := (a2 _ (List.mem_cons_of_mem _ hD)).1
    exfalso
    refine x1 ?_
    cases hi with
    | true => simp at x2 x3; omega
    | false => simp at x2 x3; omega
  · exact h
  · have x2 := best B hB
    have x3 := (a2 _ (List.mem_cons_of_mem _ hD)).2 h
    omega
theorem lends_eq {hi : Bool} (hL : 1 ≤ L) (ho : L ≤ o.length) : lends o L (if hi = true then 1 else -1) = ends o L hi := by
  unfold lends ends endsU
  congr 1
  refine List.map_congr_left fun r hr => ?_
  have := irange_mem.mp hr
  exact lendU_eq hL this.1 this.2 ho
theorem ceil_eq {a : Int} (h1 : 1 ≤ L) (h8 : L ≤ 8) : (a + L - 1) / L = -((-a) / L) := by
  have : L = 1 ∨ L = 2 ∨ L = 3 ∨ L = 4 ∨ L = 5 ∨ L = 6 ∨ L = 7 ∨ L = 8 := by omega
  rcases this with rfl | rfl | rfl | rfl | rfl | rfl | rfl | rfl <;> omega
theorem high_eq (v : VS s L) : (gI s 0 + ((lends (offs s L) L 1).map fun d => gI (offs s L) d).sum + L - 1) / L = mhigh s L := by
  have hl := v.offs
  have := v.ne
  have e : lends (offs s L) L 1 = ends (offs s L) L true := lends_eq (hi := true) v.lo (by omega)
  rw [e, sum_exV v.lo (by omega), ceil_eq v.lo v.hi]; rfl
theorem low_eq (v : VS s L) : (gI s 0 + ((lends (offs s L) L (-1)).map fun d => gI (offs s L) d).sum) / L = mlow s L := by
  have hl := v.offs
  have := v.ne
  have e : lends (offs s L) L (-1) = ends (offs s L) L false := lends_eq (hi := false) v.lo (by omega)
  rw [e, sum_exV v.lo (by omega)]; rfl
def lpair (o : List Int) (L pk : Int) : Option (List Int) := (irange 0 o.length).findSome? fun i => (srange (i + L) o.length L).findSome? fun j => if ((gI o j - gI o i).natAbs : Int) = pk then some [i, j] else none
theorem findSome_congr {β γ : Type} {f g : β → Option γ} : ∀ {l : List β}, (∀ a ∈ l, f a = g a) → l.findSome? f = l.findSome? g
  | [], _ => rfl
  | a :: r, h => by
    rw [List.findSome?_cons, List.findSome?_cons, h a List.mem_cons_self, findSome_congr fun b hb => h b (List.mem_cons_of_mem _ hb)]
theorem lpair_eq (v : VS s L) {pk : Int} (hp : spread s L ≤ pk) : lpair (offs s L) L pk = apart (offs s L) L pk := by
  have hL := v.lo
  unfold lpair apart
  refine findSome_congr fun i hi => findSome_congr fun j hj => ?_
  have hi := irange_mem.mp hi
  obtain ⟨k, e, hj⟩ := (srange_mem hL).mp hj
  have := Int.mul_nonneg (show (0 : Int) ≤ k by omega) (show 0 ≤ L by omega)
  have := spread_ge v hi.1 hi.2 (show 0 ≤ j by omega) hj (by rw [e, Int.add_mul_emod_self_right, Int.add_emod_right])
  by_cases h : ((gI (offs s L) j - gI (offs s L) i).natAbs : Int) = pk
  · rw [if_pos h, if_pos (by omega)]
  · rw [if_neg h, if_neg (by omega)]
end
end WK

namespace WK
open PySem PySem.Spec PyProof.Rows L2
def topS (i : Nat) : Stmt := PySem.Challenge.pw_weeksums_k14_levels_of_great_numbers.main.body.getD i (.Pass ⟨0, 0, 0, 0⟩)
abbrev s_Impossible___init__ : Stmt := inClass (topS 5) 0
abbrev s_is_integer : Stmt := topS 9
abbrev s_are_integers : Stmt := topS 10
abbrev s_is_sums : Stmt := topS 11
abbrev s_need_length : Stmt := topS 12
abbrev s_need_sums : Stmt := topS 13
abbrev s_offsets_in : Stmt := topS 14
abbrev s_total_in : Stmt := topS 15
abbrev s_need_most : Stmt := topS 18
abbrev s_need_all : Stmt := topS 19
abbrev s_classes_in : Stmt := topS 20
abbrev s_apart_days : Stmt := topS 21
abbrev s_end_days : Stmt := topS 22
abbrev s_conflict_in : Stmt := topS 23
abbrev s_need_way : Stmt := topS 24
abbrev s_class_ends : Stmt := topS 26
abbrev s_greatest_spread : Stmt := topS 27
abbrev s_middle_high : Stmt := topS 28
abbrev s_middle_low : Stmt := topS 29
abbrev s_peak_in : Stmt := topS 30
abbrev s_floor_in : Stmt := topS 31
abbrev s_least_peak : Stmt := topS 32
abbrev s_peak_paper : Stmt := topS 33
abbrev s_greatest_floor : Stmt := topS 34
abbrev s_least_spread : Stmt := topS 35
abbrev s__law_jar : Stmt := topS 37
abbrev s__law_dip : Stmt := topS 38
abbrev s__law_sums : Stmt := topS 39
abbrev s__law_days : Stmt := topS 40
abbrev s__law_top : Stmt := topS 41
abbrev s__law_high : Stmt := topS 42
abbrev s__law_size : Stmt := topS 43
abbrev s__law_gaps : Stmt := topS 44
abbrev s__law_box : Stmt := topS 45
abbrev s__law_fits : Stmt := topS 46
abbrev s__law_ends : Stmt := topS 47
abbrev s__law_due : Stmt := topS 48
abbrev s__law_right : Stmt := topS 49
abbrev s_law : Stmt := topS 50
abbrev FnP (K : PySem.W.Frag) (x qual : Str) (st : Stmt) (f : Addr) (fd : FuncData) : Prop := FunD K x qual (defArgs st) (defBody st) (defScope st) [] [] f fd
theorem sc_Impossible___init__ : FnScope ["self", "word", "days"] ["self", "word", "days"] (defScope s_Impossible___init__) := ⟨rfl, rfl, rfl, by decide +kernel, rfl, by decide +kernel, by decide +kernel⟩
theorem sc_is_integer : FnScope ["thing"] ["thing"] (defScope s_is_integer) := ⟨rfl, rfl, rfl, by decide +kernel, rfl, by decide +kernel, by decide +kernel⟩
theorem sc_are_integers : FnScope ["thing", "number"] ["thing"] (defScope s_are_integers) := ⟨rfl, rfl, rfl, by decide +kernel, rfl, by decide +kernel, by decide +kernel⟩
theorem sc_is_sums : FnScope ["thing"] ["thing"] (defScope s_is_sums) := ⟨rfl, rfl, rfl, by decide +kernel, rfl, by decide +kernel, by decide +kernel⟩
theorem sc_need_length : FnScope ["length"] ["length"] (defScope s_need_length) := ⟨rfl, rfl, rfl, by decide +kernel, rfl, by decide +kernel, by decide +kernel⟩
theorem sc_need_sums : FnScope ["sums", "length"] ["sums", "length"] (defScope s_need_sums) := ⟨rfl, rfl, rfl, by decide +kernel, rfl, by decide +kernel, by decide +kernel⟩
theorem sc_offsets_in : FnScope ["sums", "length", "found", "place"] ["sums", "length"] (defScope s_offsets_in) := ⟨rfl, rfl, rfl, by decide +kernel, rfl, by decide +kernel, by decide +kernel⟩
theorem sc_total_in : FnScope ["sums", "length", "days", "offsets", "day"] ["sums", "length", "days"] (defScope s_total_in) := ⟨rfl, rfl, rfl, by decide +kernel, rfl, by decide +kernel, by decide +kernel⟩
theorem sc_need_most : FnScope ["most"] ["most"] (defScope s_need_most) := ⟨rfl, rfl, rfl, by decide +kernel, rfl, by decide +kernel, by decide +kernel⟩
theorem sc_need_all : FnScope ["sums", "length", "most"] ["sums", "length", "most"] (defScope s_need_all) := ⟨rfl, rfl, rfl, by decide +kernel, rfl, by decide +kernel, by decide +kernel⟩
theorem sc_classes_in : FnScope ["values", "length", "rest"] ["values", "length"] (defScope s_classes_in) := ⟨rfl, rfl, rfl, by decide +kernel, rfl, by decide +kernel, by decide +kernel⟩
theorem sc_apart_days : FnScope ["offsets", "length", "least", "first", "second"] ["offsets", "length", "least"] (defScope s_apart_days) := ⟨rfl, rfl, rfl, by decide +kernel, rfl, by decide +kernel, by decide +kernel⟩
theorem sc_end_days : FnScope ["offsets", "length", "is_high", "found", "rest", "values"] ["offsets", "length", "is_high"] (defScope s_end_days) := ⟨rfl, rfl, rfl, by decide +kernel, rfl, by decide +kernel, by decide +kernel⟩
theorem sc_conflict_in : FnScope ["sums", "length", "most", "offsets", "days"] ["sums", "length", "most"] (defScope s_conflict_in) := ⟨rfl, rfl, rfl, by decide +kernel, rfl, by decide +kernel, by decide +kernel⟩
theorem sc_need_way : FnScope ["sums", "length", "most", "found", "word", "days"] ["sums", "length", "most"] (defScope s_need_way) := ⟨rfl, rfl, rfl, by decide +kernel, rfl, by decide +kernel, by decide +kernel⟩
theorem sc_class_ends : FnScope ["sums", "length", "classes", "offsets"] ["sums", "length"] (defScope s_class_ends) := ⟨rfl, rfl, rfl, by decide +kernel, rfl, by decide +kernel, by decide +kernel⟩
theorem sc_greatest_spread : FnScope ["sums", "length", "least", "greatest", "low", "high"] ["sums", "length"] (defScope s_greatest_spread) := ⟨rfl, rfl, rfl, by decide +kernel, rfl, by decide +kernel, by decide +kernel⟩
theorem sc_middle_high : FnScope ["sums", "length"] ["sums", "length"] (defScope s_middle_high) := ⟨rfl, rfl, rfl, by decide +kernel, rfl, by decide +kernel, by decide +kernel⟩
theorem sc_middle_low : FnScope ["sums", "length"] ["sums", "length"] (defScope s_middle_low) := ⟨rfl, rfl, rfl, by decide +kernel, rfl, by decide +kernel, by decide +kernel⟩
theorem sc_peak_in : FnScope ["sums", "length", "most"] ["sums", "length", "most"] (defScope s_peak_in) := ⟨rfl, rfl, rfl, by decide +kernel, rfl, by decide +kernel, by decide +kernel⟩
theorem sc_floor_in : FnScope ["sums", "length", "most"] ["sums", "length", "most"] (defScope s_floor_in) := ⟨rfl, rfl, rfl, by decide +kernel, rfl, by decide +kernel, by decide +kernel⟩
theorem sc_least_peak : FnScope ["sums", "length", "most"] ["sums", "length", "most"] (defScope s_least_peak) := ⟨rfl, rfl, rfl, by decide +kernel, rfl, by decide +kernel, by decide +kernel⟩
theorem sc_peak_paper : FnScope ["sums", "length", "most", "offsets", "peak", "days"] ["sums", "length", "most"] (defScope s_peak_paper) := ⟨rfl, rfl, rfl, by decide +kernel, rfl, by decide +kernel, by decide +kernel⟩
theorem sc_greatest_floor : FnScope ["sums", "length", "most"] ["sums", "length", "most"] (defScope s_greatest_floor) := ⟨rfl, rfl, rfl, by decide +kernel, rfl, by decide +kernel, by decide +kernel⟩
theorem sc_least_spread : FnScope ["sums", "length", "most"] ["sums", "length", "most"] (defScope s_least_spread) := ⟨rfl, rfl, rfl, by decide +kernel, rfl, by decide +kernel, by decide +kernel⟩
theorem sc__law_jar : FnScope ["script", "k", "cell_here"] ["script", "k"] (defScope s__law_jar) := ⟨rfl, rfl, rfl, by decide +kernel, rfl, by decide +kernel, by decide +kernel⟩
theorem sc__law_dip : FnScope ["jar", "many", "digit", "mixed"] ["jar", "many"] (defScope s__law_dip) := ⟨rfl, rfl, rfl, by decide +kernel, rfl, by decide +kernel, by decide +kernel⟩
theorem sc__law_sums : FnScope ["numbers_here", "size", "found", "place_here", "total", "spot"] ["numbers_here", "size"] (defScope s__law_sums) := ⟨rfl, rfl, rfl, by decide +kernel, rfl, by decide +kernel, by decide +kernel⟩
theorem sc__law_days : FnScope ["jar", "many", "top", "way_here", "found", "turn", "one"] ["jar", "many", "top"] (defScope s__law_days) := ⟨rfl, rfl, rfl, by decide +kernel, rfl, by decide +kernel, by decide +kernel⟩
theorem sc__law_top : FnScope ["jar", "way_here"] ["jar"] (defScope s__law_top) := ⟨rfl, rfl, rfl, by decide +kernel, rfl, by decide +kernel, by decide +kernel⟩
theorem sc__law_high : FnScope ["jar", "parts", "top"] ["jar", "parts"] (defScope s__law_high) := ⟨rfl, rfl, rfl, by decide +kernel, rfl, by decide +kernel, by decide +kernel⟩
theorem sc__law_size : FnScope ["jar", "most_days", "size"] ["jar", "most_days"] (defScope s__law_size) := ⟨rfl, rfl, rfl, by decide +kernel, rfl, by decide +kernel, by decide +kernel⟩
theorem sc__law_gaps : FnScope ["sums_here", "size", "found", "place_here", "step"] ["sums_here", "size"] (defScope s__law_gaps) := ⟨rfl, rfl, rfl, by decide +kernel, rfl, by decide +kernel, by decide +kernel⟩
theorem sc__law_box : FnScope ["sums_here", "size", "top", "gaps", "lows", "highs", "rest", "some", "day_here"] ["sums_here", "size", "top"] (defScope s__law_box) := ⟨rfl, rfl, rfl, by decide +kernel, rfl, by decide +kernel, by decide +kernel⟩
theorem sc__law_fits : FnScope ["lows", "highs", "total", "wrong", "spot", "low"] ["lows", "highs", "total"] (defScope s__law_fits) := ⟨rfl, rfl, rfl, by decide +kernel, rfl, by decide +kernel, by decide +kernel⟩
theorem sc__law_ends : FnScope ["gaps", "size", "sign", "found", "rest", "best", "one"] ["gaps", "size", "sign"] (defScope s__law_ends) := ⟨rfl, rfl, rfl, by decide +kernel, rfl, by decide +kernel, by decide +kernel⟩
theorem sc__law_due : FnScope ["sums_here", "size", "top", "gaps", "wide", "pair_here", "one", "two", "high_days", "low_days", "high", "low", "peak", "paper"] ["sums_here", "size", "top"] (defScope s__law_due) := ⟨rfl, rfl, rfl, by decide +kernel, rfl, by decide +kernel, by decide +kernel⟩
theorem sc__law_right : FnScope ["sums_here", "size", "top", "before", "due", "told", "paper"] ["sums_here", "size", "top"] (defScope s__law_right) := ⟨rfl, rfl, rfl, by decide +kernel, rfl, by decide +kernel, by decide +kernel⟩
theorem sc_law : FnScope ["script", "k", "jar", "turn", "size", "many", "top", "told"] ["script"] (defScope s_law) := ⟨rfl, rfl, rfl, by decide +kernel, rfl, by decide +kernel, by decide +kernel⟩
structure Tx (K : PySem.W.Frag) (mg : Str → Option Value) where
  n_range : mg "range" = none
  n_enumerate : mg "enumerate" = none
  n_sorted : mg "sorted" = none
  n_max : mg "max" = none
  n_min : mg "min" = none
  n_isinstance : mg "isinstance" = none
  n_int : mg "int" = none
  n_list : mg "list" = none
  n_all : mg "all" = none
  n_sum : mg "sum" = none
  n_len : mg "len" = none
  n_abs : mg "abs" = none
  n_bool : mg "bool" = none
  n_repr : mg "repr" = none
  n_zip : mg "zip" = none
  c_MOST_DAYS : ∃ t, mg "MOST_DAYS" = some (.int 67 t)
  c_MOST_LENGTH : ∃ t, mg "MOST_LENGTH" = some (.int 8 t)
  c_MOST_MOST : ∃ t, mg "MOST_MOST" = some (.int 999999999999999999999999999999 t)
  d_is_integer : FuncData
  F_is_integer : FnP K "is_integer" "is_integer" s_is_integer (He.ga K "is_integer") d_is_integer
  g_is_integer : mg "is_integer" = some (.ref (He.ga K "is_integer"))
  d_are_integers : FuncData
  F_are_integers : FnP K "are_integers" "are_integers" s_are_integers (He.ga K "are_integers") d_are_integers
  g_are_integers : mg "are_integers" = some (.ref (He.ga K "are_integers"))
  d_is_sums : FuncData
  F_is_sums : FnP K "is_sums" "is_sums" s_is_sums (He.ga K "is_sums") d_is_sums
  g_is_sums : mg "is_sums" = some (.ref (He.ga K "is_sums"))
  d_need_length : FuncData
  F_need_length : FnP K "need_length" "need_length" s_need_length (He.ga K "need_length") d_need_length
  g_need_length : mg "need_length" = some (.ref (He.ga K "need_length"))
  d_need_sums : FuncData
  F_need_sums : FnP K "need_sums" "need_sums" s_need_sums (He.ga K "need_sums") d_need_sums
  g_need_sums : mg "need_sums" = some (.ref (He.ga K "need_sums"))
  d_offsets_in : FuncData
  F_offsets_in : FnP K "offsets_in" "offsets_in" s_offsets_in (He.ga K "offsets_in") d_offsets_in
  g_offsets_in : mg "offsets_in" = some (.ref (He.ga K "offsets_in"))
  d_total_in : FuncData
  F_total_in : FnP K "total_in" "total_in" s_total_in (He.ga K "total_in") d_total_in
  g_total_in : mg "total_in" = some (.ref (He.ga K "total_in"))
  d_need_most : FuncData
  F_need_most : FnP K "need_most" "need_most" s_need_most (He.ga K "need_most") d_need_most
  g_need_most : mg "need_most" = some (.ref (He.ga K "need_most"))
  d_need_all : FuncData
  F_need_all : FnP K "need_all" "need_all" s_need_all (He.ga K "need_all") d_need_all
  g_need_all : mg "need_all" = some (.ref (He.ga K "need_all"))
  d_classes_in : FuncData
  F_classes_in : FnP K "classes_in" "classes_in" s_classes_in (He.ga K "classes_in") d_classes_in
  g_classes_in : mg "classes_in" = some (.ref (He.ga K "classes_in"))
  d_apart_days : FuncData
  F_apart_days : FnP K "apart_days" "apart_days" s_apart_days (He.ga K "apart_days") d_apart_days
  g_apart_days : mg "apart_days" = some (.ref (He.ga K "apart_days"))
  d_end_days : FuncData
  F_end_days : FnP K "end_days" "end_days" s_end_days (He.ga K "end_days") d_end_days
  g_end_days : mg "end_days" = some (.ref (He.ga K "end_days"))
  d_conflict_in : FuncData
  F_conflict_in : FnP K "conflict_in" "conflict_in" s_conflict_in (He.ga K "conflict_in") d_conflict_in
  g_conflict_in : mg "conflict_in" = some (.ref (He.ga K "conflict_in"))
  d_need_way : FuncData
  F_need_way : FnP K "need_way" "need_way" s_need_way (He.ga K "need_way") d_need_way
  g_need_way : mg "need_way" = some (.ref (He.ga K "need_way"))
  d_class_ends : FuncData
  F_class_ends : FnP K "class_ends" "class_ends" s_class_ends (He.ga K "class_ends") d_class_ends
  g_class_ends : mg "class_ends" = some (.ref (He.ga K "class_ends"))
  d_greatest_spread : FuncData
  F_greatest_spread : FnP K "greatest_spread" "greatest_spread" s_greatest_spread (He.ga K "greatest_spread") d_greatest_spread
  g_greatest_spread : mg "greatest_spread" = some (.ref (He.ga K "greatest_spread"))
  d_middle_high : FuncData
  F_middle_high : FnP K "middle_high" "middle_high" s_middle_high (He.ga K "middle_high") d_middle_high
  g_middle_high : mg "middle_high" = some (.ref (He.ga K "middle_high"))
  d_middle_low : FuncData
  F_middle_low : FnP K "middle_low" "middle_low" s_middle_low (He.ga K "middle_low") d_middle_low
  g_middle_low : mg "middle_low" = some (.ref (He.ga K "middle_low"))
  d_peak_in : FuncData
  F_peak_in : FnP K "peak_in" "peak_in" s_peak_in (He.ga K "peak_in") d_peak_in
  g_peak_in : mg "peak_in" = some (.ref (He.ga K "peak_in"))
  d_floor_in : FuncData
  F_floor_in : FnP K "floor_in" "floor_in" s_floor_in (He.ga K "floor_in") d_floor_in
  g_floor_in : mg "floor_in" = some (.ref (He.ga K "floor_in"))
  d_least_peak : FuncData
  F_least_peak : FnP K "least_peak" "least_peak" s_least_peak (He.ga K "least_peak") d_least_peak
  g_least_peak : mg "least_peak" = some (.ref (He.ga K "least_peak"))
  d_peak_paper : FuncData
  F_peak_paper : FnP K "peak_paper" "peak_paper" s_peak_paper (He.ga K "peak_paper") d_peak_paper
  g_peak_paper : mg "peak_paper" = some (.ref (He.ga K "peak_paper"))
  d_greatest_floor : FuncData
  F_greatest_floor : FnP K "greatest_floor" "greatest_floor" s_greatest_floor (He.ga K "greatest_floor") d_greatest_floor
  g_greatest_floor : mg "greatest_floor" = some (.ref (He.ga K "greatest_floor"))
  d_least_spread : FuncData
  F_least_spread : FnP K "least_spread" "least_spread" s_least_spread (He.ga K "least_spread") d_least_spread
  g_least_spread : mg "least_spread" = some (.ref (He.ga K "least_spread"))
  d__law_jar : FuncData
  F__law_jar : FnP K "_law_jar" "_law_jar" s__law_jar (He.ga K "_law_jar") d__law_jar
  g__law_jar : mg "_law_jar" = some (.ref (He.ga K "_law_jar"))
  d__law_dip : FuncData
  F__law_dip : FnP K "_law_dip" "_law_dip" s__law_dip (He.ga K "_law_dip") d__law_dip
  g__law_dip : mg "_law_dip" = some (.ref (He.ga K "_law_dip"))
  d__law_sums : FuncData
  F__law_sums : FnP K "_law_sums" "_law_sums" s__law_sums (He.ga K "_law_sums") d__law_sums
  g__law_sums : mg "_law_sums" = some (.ref (He.ga K "_law_sums"))
  d__law_days : FuncData
  F__law_days : FnP K "_law_days" "_law_days" s__law_days (He.ga K "_law_days") d__law_days
  g__law_days : mg "_law_days" = some (.ref (He.ga K "_law_days"))
  d__law_top : FuncData
  F__law_top : FnP K "_law_top" "_law_top" s__law_top (He.ga K "_law_top") d__law_top
  g__law_top : mg "_law_top" = some (.ref (He.ga K "_law_top"))
  d__law_high : FuncData
  F__law_high : FnP K "_law_high" "_law_high" s__law_high (He.ga K "_law_high") d__law_high
  g__law_high : mg "_law_high" = some (.ref (He.ga K "_law_high"))
  d__law_size : FuncData
  F__law_size : FnP K "_law_size" "_law_size" s__law_size (He.ga K "_law_size") d__law_size
  g__law_size : mg "_law_size" = some (.ref (He.ga K "_law_size"))
  d__law_gaps : FuncData
  F__law_gaps : FnP K "_law_gaps" "_law_gaps" s__law_gaps (He.ga K "_law_gaps") d__law_gaps
  g__law_gaps : mg "_law_gaps" = some (.ref (He.ga K "_law_gaps"))
  d__law_box : FuncData
  F__law_box : FnP K "_law_box" "_law_box" s__law_box (He.ga K "_law_box") d__law_box
  g__law_box : mg "_law_box" = some (.ref (He.ga K "_law_box"))
  d__law_fits : FuncData
  F__law_fits : FnP K "_law_fits" "_law_fits" s__law_fits (He.ga K "_law_fits") d__law_fits
  g__law_fits : mg "_law_fits" = some (.ref (He.ga K "_law_fits"))
  d__law_ends : FuncData
  F__law_ends : FnP K "_law_ends" "_law_ends" s__law_ends (He.ga K "_law_ends") d__law_ends
  g__law_ends : mg "_law_ends" = some (.ref (He.ga K "_law_ends"))
  d__law_due : FuncData
  F__law_due : FnP K "_law_due" "_law_due" s__law_due (He.ga K "_law_due") d__law_due
  g__law_due : mg "_law_due" = some (.ref (He.ga K "_law_due"))
  d__law_right : FuncData
  F__law_right : FnP K "_law_right" "_law_right" s__law_right (He.ga K "_law_right") d__law_right
  g__law_right : mg "_law_right" = some (.ref (He.ga K "_law_right"))
  d_law : FuncData
  F_law : FnP K "law" "law" s_law (He.ga K "law") d_law
  g_law : mg "law" = some (.ref (He.ga K "law"))
theorem b_is_integer {K : PySem.W.Frag} {mg : Str → Option Value} (T : Tx K mg) : Binds K T.d_is_integer ["thing"] [] := FunD.bindsN T.F_is_integer fun _ _ _ _ _ _ us hl => match us, hl with | [_], _ => rfl
theorem b_are_integers {K : PySem.W.Frag} {mg : Str → Option Value} (T : Tx K mg) : Binds K T.d_are_integers ["thing"] [] := FunD.bindsN T.F_are_integers fun _ _ _ _ _ _ us hl => match us, hl with | [_], _ => rfl
theorem b_is_sums {K : PySem.W.Frag} {mg : Str → Option Value} (T : Tx K mg) : Binds K T.d_is_sums ["thing"] [] := FunD.bindsN T.F_is_sums fun _ _ _ _ _ _ us hl => match us, hl with | [_], _ => rfl
theorem b_need_length {K : PySem.W.Frag} {mg : Str → Option Value} (T : Tx K mg) : Binds K T.d_need_length ["length"] [] := FunD.bindsN T.F_need_length fun _ _ _ _ _ _ us hl => match us, hl with | [_], _ => rfl
theorem b_need_sums {K : PySem.W.Frag} {mg : Str → Option Value} (T : Tx K mg) : Binds K T.d_need_sums ["sums", "length"] [] := FunD.bindsN T.F_need_sums fun _ _ _ _ _ _ us hl => match us, hl with | [_, _], _ => rfl
theorem b_offsets_in {K : PySem.W.Frag} {mg : Str → Option Value} (T : Tx K mg) : Binds K T.d_offsets_in ["sums", "length"] [] := FunD.bindsN T.F_offsets_in fun _ _ _ _ _ _ us hl => match us, hl with | [_, _], _ => rfl
theorem b_total_in {K : PySem.W.Frag} {mg : Str → Option Value} (T : Tx K mg) : Binds K T.d_total_in ["sums", "length", "days"] [] := FunD.bindsN T.F_total_in fun _ _ _ _ _ _ us hl => match us, hl with | [_, _, _], _ => rfl
theorem b_need_most {K : PySem.W.Frag} {mg : Str → Option Value} (T : Tx K mg) : Binds K T.d_need_most ["most"] [] := FunD.bindsN T.F_need_most fun _ _ _ _ _ _ us hl => match us, hl with | [_], _ => rfl
theorem b_need_all {K : PySem.W.Frag} {mg : Str → Option Value} (T : Tx K mg) : Binds K T.d_need_all ["sums", "length", "most"] [] := FunD.bindsN T.F_need_all fun _ _ _ _ _ _ us hl => match us, hl with | [_, _, _], _ => rfl
theorem b_classes_in {K : PySem.W.Frag} {mg : Str → Option Value} (T : Tx K mg) : Binds K T.d_classes_in ["values", "length"] [] := FunD.bindsN T.F_classes_in fun _ _ _ _ _ _ us hl => match us, hl with | [_, _], _ => rfl
theorem b_apart_days {K : PySem.W.Frag} {mg : Str → Option Value} (T : Tx K mg) : Binds K T.d_apart_days ["offsets", "length", "least"] [] := FunD.bindsN T.F_apart_days fun _ _ _ _ _ _ us hl => match us, hl with | [_, _, _], _ => rfl
theorem b_end_days {K : PySem.W.Frag} {mg : Str → Option Value} (T : Tx K mg) : Binds K T.d_end_days ["offsets", "length", "is_high"] [] := FunD.bindsN T.F_end_days fun _ _ _ _ _ _ us hl => match us, hl with | [_, _, _], _ => rfl
theorem b_conflict_in {K : PySem.W.Frag} {mg : Str → Option Value} (T : Tx K mg) : Binds K T.d_conflict_in ["sums", "length", "most"] [] := FunD.bindsN T.F_conflict_in fun _ _ _ _ _ _ us hl => match us, hl with | [_, _, _], _ => rfl
theorem b_need_way {K : PySem.W.Frag} {mg : Str → Option Value} (T : Tx K mg) : Binds K T.d_need_way ["sums", "length", "most"] [] := FunD.bindsN T.F_need_way fun _ _ _ _ _ _ us hl => match us, hl with | [_, _, _], _ => rfl
theorem b_class_ends {K : PySem.W.Frag} {mg : Str → Option Value} (T : Tx K mg) : Binds K T.d_class_ends ["sums", "length"] [] := FunD.bindsN T.F_class_ends fun _ _ _ _ _ _ us hl => match us, hl with | [_, _], _ => rfl
theorem b_greatest_spread {K : PySem.W.Frag} {mg : Str → Option Value} (T : Tx K mg) : Binds K T.d_greatest_spread ["sums", "length"] [] := FunD.bindsN T.F_greatest_spread fun _ _ _ _ _ _ us hl => match us, hl with | [_, _], _ => rfl
theorem b_middle_high {K : PySem.W.Frag} {mg : Str → Option Value} (T : Tx K mg) : Binds K T.d_middle_high ["sums", "length"] [] := FunD.bindsN T.F_middle_high fun _ _ _ _ _ _ us hl => match us, hl with | [_, _], _ => rfl
theorem b_middle_low {K : PySem.W.Frag} {mg : Str → Option Value} (T : Tx K mg) : Binds K T.d_middle_low ["sums", "length"] [] := FunD.bindsN T.F_middle_low fun _ _ _ _ _ _ us hl => match us, hl with | [_, _], _ => rfl
theorem b_peak_in {K : PySem.W.Frag} {mg : Str → Option Value} (T : Tx K mg) : Binds K T.d_peak_in ["sums", "length", "most"] [] := FunD.bindsN T.F_peak_in fun _ _ _ _ _ _ us hl => match us, hl with | [_, _, _], _ => rfl
theorem b_floor_in {K : PySem.W.Frag} {mg : Str → Option Value} (T : Tx K mg) : Binds K T.d_floor_in ["sums", "length", "most"] [] := FunD.bindsN T.F_floor_in fun _ _ _ _ _ _ us hl => match us, hl with | [_, _, _], _ => rfl
theorem b_least_peak {K : PySem.W.Frag} {mg : Str → Option Value} (T : Tx K mg) : Binds K T.d_least_peak ["sums", "length", "most"] [] := FunD.bindsN T.F_least_peak fun _ _ _ _ _ _ us hl => match us, hl with | [_, _, _], _ => rfl
theorem kr_peak_paper {K : PySem.W.Frag} {mg : Str → Option Value} (T : Tx K mg) : KRev T.d_peak_paper ["sums", "length", "most"] := FunD.revN T.F_peak_paper fun _ _ _ _ _ _ us hl => match us, hl with | [_, _, _], _ => rfl
theorem b_peak_paper {K : PySem.W.Frag} {mg : Str → Option Value} (T : Tx K mg) : Binds K T.d_peak_paper ["sums", "length", "most"] [] := FunD.bindsN T.F_peak_paper fun _ _ _ _ _ _ us hl => match us, hl with | [_, _, _], _ => rfl
theorem b_greatest_floor {K : PySem.W.Frag} {mg : Str → Option Value} (T : Tx K mg) : Binds K T.d_greatest_floor ["sums", "length", "most"] [] := FunD.bindsN T.F_greatest_floor fun _ _ _ _ _ _ us hl => match us, hl with | [_, _, _], _ => rfl
theorem b_least_spread {K : PySem.W.Frag} {mg : Str → Option Value} (T : Tx K mg) : Binds K T.d_least_spread ["sums", "length", "most"] [] := FunD.bindsN T.F_least_spread fun _ _ _ _ _ _ us hl => match us, hl with | [_, _, _], _ => rfl
theorem b__law_jar {K : PySem.W.Frag} {mg : Str → Option Value} (T : Tx K mg) : Binds K T.d__law_jar ["script", "k"] [] := FunD.bindsN T.F__law_jar fun _ _ _ _ _ _ us hl => match us, hl with | [_, _], _ => rfl
theorem b__law_dip {K : PySem.W.Frag} {mg : Str → Option Value} (T : Tx K mg) : Binds K T.d__law_dip ["jar", "many"] [] := FunD.bindsN T.F__law_dip fun _ _ _ _ _ _ us hl => match us, hl with | [_, _], _ => rfl
theorem b__law_sums {K : PySem.W.Frag} {mg : Str → Option Value} (T : Tx K mg) : Binds K T.d__law_sums ["numbers_here", "size"] [] := FunD.bindsN T.F__law_sums fun _ _ _ _ _ _ us hl => match us, hl with | [_, _], _ => rfl
theorem b__law_days {K : PySem.W.Frag} {mg : Str → Option Value} (T : Tx K mg) : Binds K T.d__law_days ["jar", "many", "top"] [] := FunD.bindsN T.F__law_days fun _ _ _ _ _ _ us hl => match us, hl with | [_, _, _], _ => rfl
theorem b__law_top {K : PySem.W.Frag} {mg : Str → Option Value} (T : Tx K mg) : Binds K T.d__law_top ["jar"] [] := FunD.bindsN T.F__law_top fun _ _ _ _ _ _ us hl => match us, hl with | [_], _ => rfl
theorem b__law_high {K : PySem.W.Frag} {mg : Str → Option Value} (T : Tx K mg) : Binds K T.d__law_high ["jar", "parts"] [] := FunD.bindsN T.F__law_high fun _ _ _ _ _ _ us hl => match us, hl with | [_, _], _ => rfl
theorem b__law_size {K : PySem.W.Frag} {mg : Str → Option Value} (T : Tx K mg) : Binds K T.d__law_size ["jar", "most_days"] [] := FunD.bindsN T.F__law_size fun _ _ _ _ _ _ us hl => match us, hl with | [_, _], _ => rfl
theorem b__law_gaps {K : PySem.W.Frag} {mg : Str → Option Value} (T : Tx K mg) : Binds K T.d__law_gaps ["sums_here", "size"] [] := FunD.bindsN T.F__law_gaps fun _ _ _ _ _ _ us hl => match us, hl with | [_, _], _ => rfl
theorem b__law_box {K : PySem.W.Frag} {mg : Str → Option Value} (T : Tx K mg) : Binds K T.d__law_box ["sums_here", "size", "top"] [] := FunD.bindsN T.F__law_box fun _ _ _ _ _ _ us hl => match us, hl with | [_, _, _], _ => rfl
theorem b__law_fits {K : PySem.W.Frag} {mg : Str → Option Value} (T : Tx K mg) : Binds K T.d__law_fits ["lows", "highs", "total"] [] := FunD.bindsN T.F__law_fits fun _ _ _ _ _ _ us hl => match us, hl with | [_, _, _], _ => rfl
theorem b__law_ends {K : PySem.W.Frag} {mg : Str → Option Value} (T : Tx K mg) : Binds K T.d__law_ends ["gaps", "size", "sign"] [] := FunD.bindsN T.F__law_ends fun _ _ _ _ _ _ us hl => match us, hl with | [_, _, _], _ => rfl
theorem b__law_due {K : PySem.W.Frag} {mg : Str → Option Value} (T : Tx K mg) : Binds K T.d__law_due ["sums_here", "size", "top"] [] := FunD.bindsN T.F__law_due fun _ _ _ _ _ _ us hl => match us, hl with | [_, _, _], _ => rfl
theorem b__law_right {K : PySem.W.Frag} {mg : Str → Option Value} (T : Tx K mg) : Binds K T.d__law_right ["sums_here", "size", "top"] [] := FunD.bindsN T.F__law_right fun _ _ _ _ _ _ us hl => match us, hl with | [_, _, _], _ => rfl
theorem b_law {K : PySem.W.Frag} {mg : Str → Option Value} (T : Tx K mg) : Binds K T.d_law ["script"] [] := FunD.bindsN T.F_law fun _ _ _ _ _ _ us hl => match us, hl with | [_], _ => rfl
end WK

namespace WK
open PySem PySem.Spec PyProof.Rows L2
local macro_rules | `(tactic| walk_at "rp") => `(tactic| first
  | assumption
  | (refine rp_gr (by assumption) ?_; walk_at "rp")
  | (refine rp_mt (by assumption) ?_; walk_at "rp")
  | (refine rp_ex (by assumption) ?_; walk_at "rp"))
local macro_rules | `(tactic| walk_at "ow") => `(tactic| first
  | assumption
  | (refine OwnL.gr ?_ (by assumption); walk_at "ow")
  | (refine OwnL.mt ?_ (by assumption) (by first | assumption | exact Ne.symm (by assumption)); walk_at "ow"))
local macro_rules | `(tactic| walk_at "gc") => `(tactic| first
  | assumption
  | exact gc_refl
  | (refine gc_gr ?_ (by assumption); walk_at "gc")
  | (refine gc_mt ?_ (by assumption) (by assumption); walk_at "gc"))
local macro_rules | `(tactic| walk_at "ev") => `(tactic| first
  | exact ev_int
  | exact ev_varI rfl
  | exact ev_varB rfl
  | exact ev_varS rfl
  | exact ev_bl
  | exact ev_str
  | (refine ev_var rfl ?_; walk_at "rp")
  | (refine ev_add ?_ ?_ <;> walk_at "ev")
  | (refine ev_sub ?_ ?_ <;> walk_at "ev")
  | (refine ev_lt ?_ ?_ <;> walk_at "ev")
  | (refine ev_le ?_ ?_ <;> walk_at "ev")
  | (refine ev_gt ?_ ?_ <;> walk_at "ev")
  | (refine ev_ge ?_ ?_ <;> walk_at "ev")
  | (refine ev_eqI ?_ ?_ <;> walk_at "ev")
  | (refine ev_neI ?_ ?_ <;> walk_at "ev")
  | (refine ev_neg ?_; walk_at "ev")
  | (refine ev_max2 ?_ ?_ <;> walk_at "ev")
  | (refine ev_min2 ?_ ?_ <;> walk_at "ev")
  | (refine ev_abs ?_; walk_at "ev")
  | (refine ev_intI ?_; walk_at "ev")
  | (refine ev_intB ?_; walk_at "ev")
  | (refine ev_len ?_; walk_at "ev")
  | (refine ev_sum ?_; walk_at "ev")
  | (refine ev_mod ?_ ?_ (by omega) <;> walk_at "ev")
  | (refine ev_leLe ?_ ?_ ?_ <;> walk_at "ev")
  | (refine ev_leLt ?_ ?_ ?_ <;> walk_at "ev"))
local macro_rules | `(tactic| walk_at "et") => `(tactic| first
  | (refine et_not ?_; walk_at "et")
  | (refine et_test ?_; walk_at "ev")
  | (refine et_B ?_; walk_at "ev"))
end WK

namespace WK
open PySem PySem.Spec PyProof.Rows L2
section
variable {P : Program} {w : World} {K : PySem.W.Frag} {mg : Str → Option Value} {base : Heap}
theorem ok_need_length (T : Tx K mg) : FnOk P w K mg base CX0 2 (He.ga K "need_length") T.d_need_length ["length"] (spD1 K Rep.int (fun l => 1 ≤ l ∧ l ≤ 8) Rep.non (fun _ => ())) := by
  have nd := sc_need_length.nd
  refine okD1 T.F_need_length sc_need_length rfl fun cdv A outer s H E hr => ⟨_, (pss_one (ps_if (pt_not (pt_chain op_le op_le pe_int (pv 0) (pe_glob (v := .int 8) rfl (T.c_MOST_LENGTH).choose_spec ⟨_, rfl⟩))) (pss_one ps_never) pss_nil)), fun wd x l Q hx hp q => ?_⟩
  cases hx
  refine s_when (K := K) (b := false) (EvT.eq (et_not (et_test (ev_leLe ev_int (ev_varI rfl) ev_int))) (by simp [hp.1, hp.2])) (fun h => nomatch h) fun _ w' g => ?_
  exact q .non w' g rfl
end
end WK

namespace WK
open PySem PySem.Spec PyProof.Rows L2
section
variable {P : Program} {w : World} {K : PySem.W.Frag} {mg : Str → Option Value} {base : Heap}
theorem ok_is_integer (T : Tx K mg) : FnOk P w K mg base CX0 1 (He.ga K "is_integer") T.d_is_integer ["thing"] (spD1 K Rep.int (fun _ => True) Rep.bl (fun _ => true)) := by
  have nd := sc_is_integer.nd
  refine okD1 T.F_is_integer sc_is_integer rfl fun cdv A outer s H E hr => ⟨_, (pss_one (ps_ret (pe_and (pe_callB (show CallR _ _ (rIsi K) from call_isi) (by rfl) T.n_isinstance (by decide +kernel) (pa_cons (pv 0) (pa_cons (pe_bltn (by rfl) T.n_int (by decide +kernel) (rel_ty "int")) pa_nil))) (pe_one (pe_not (pe_callB (show CallR _ _ (rIsi K) from call_isi) (by rfl) T.n_isinstance (by decide +kernel) (pa_cons (pv 0) (pa_cons (pe_bltn (by rfl) T.n_bool (by decide +kernel) (rel_ty "bool")) pa_nil)))))))), fun wd x l Q hx hp q => ?_⟩
  cases hx
  refine s_ret (K := K) (ev_andV (ev_isiI (ev_varI rfl) rfl) fun _ => ev_notV (ev_isiI (ev_varI rfl) rfl)) fun v w' g r => ?_
  cases r
  exact q _ w' g rfl
theorem ok_are_integers (T : Tx K mg) : FnOk P w K mg base CX0 2 (He.ga K "are_integers") T.d_are_integers ["thing"] (spD1 K (Rep.list Rep.int) (fun l => l.length ≤ 1000) Rep.bl (fun _ => true)) := by
  have nd := sc_are_integers.nd
  refine okD1 T.F_are_integers sc_are_integers rfl fun cdv A outer s H E hr => ⟨_, (pss_one (ps_ret (pe_and (pe_callB (show CallR _ _ (rIsi K) from call_isi) (by rfl) T.n_isinstance (by decide +kernel) (pa_cons (pv 0) (pa_cons (pe_bltn (by rfl) T.n_list (by decide +kernel) (rel_ty "list")) pa_nil))) (pe_one (pe_callB (show CallR _ _ (rAll K) from (cr_all rfl)) (by rfl) T.n_all (by decide +kernel) (pa_cons (pe_lc (own := [("number", 1)]) (g := gName 1) (tt := tYes) rfl nd (pi_list (pv 0)) (blkOk_by (own := [("number", 1)]) (N := ["thing", "number"]) (sc := defScope s_are_integers) (by decide +kernel)) (fun _ _ _ _ _ => (pg_name (i := 1) nd rfl (by first | exact Or.inl rfl | exact Or.inr rfl))) (fun _ _ _ _ _ => pts_nil) (fun _ _ _ _ _ => (pe_call (ok_is_integer T) (hr.mono (by decide)) (by rfl) T.g_is_integer T.F_is_integer.kp (b_is_integer T) .nil pass0 (pa_cons (pv 1) pa_nil)))) pa_nil)))))), fun wd x l Q hx hp q => ?_⟩
  refine s_ret (K := K) (EvD.eq (ev_andV (ev_isiL (ev_var rfl hx) rfl) fun _ => ev_all (EvN.d (en_lc (e' := Rep.bl) (by omega) (fun _ => true) (ei_list (ev_var rfl hx)) (fun _ => rfl) fun a v w' ha g r => ev_call1 (ev_var rfl r) trivial))) (show _ = true by simp)) fun v w' g r => ?_
  cases r
  exact q _ w' g rfl
theorem ok_is_sums (T : Tx K mg) : FnOk P w K mg base CX0 3 (He.ga K "is_sums") T.d_is_sums ["thing"] (spD1 K (Rep.list Rep.int) (fun l => 1 ≤ l.length ∧ l.length ≤ 67) Rep.bl (fun _ => true)) := by
  have nd := sc_is_sums.nd
  refine okD1 T.F_is_sums sc_is_sums rfl fun cdv A outer s H E hr => ⟨_, (pss_one (ps_ret (pe_and (pe_callB (show CallR _ _ (rIsi K) from call_isi) (by rfl) T.n_isinstance (by decide +kernel) (pa_cons (pv 0) (pa_cons (pe_bltn (by rfl) T.n_list (by decide +kernel) (rel_ty "list")) pa_nil))) (pe_and (pe_chain op_le op_le pe_int (pe_callB (show CallR _ _ (Evl.rLenS K) from call_len_seq) (by rfl) T.n_len (by decide +kernel) (pa_cons (pv 0) pa_nil)) (pe_glob (v := .int 67) rfl (T.c_MOST_DAYS).choose_spec ⟨_, rfl⟩)) (pe_one (pe_call (ok_are_integers T) (hr.mono (by decide)) (by rfl) T.g_are_integers T.F_are_integers.kp (b_are_integers T) .nil pass0 (pa_cons (pv 0) pa_nil))))))), fun wd x l Q hx hp q => ?_⟩
  refine s_ret (K := K) (EvD.eq (ev_andV (ev_isiL (ev_var rfl hx) rfl) fun _ => ev_andV (ev_leLe ev_int (ev_len (ev_var rfl hx)) ev_int) fun _ => ev_call1 (ev_var rfl hx) (by omega)) (show _ = true by simp; omega)) fun v w' g r => ?_
  cases r
  exact q _ w' g rfl
theorem ok_need_sums (T : Tx K mg) : FnOk P w K mg base CX0 4 (He.ga K "need_sums") T.d_need_sums ["sums", "length"] (spD2 K (Rep.list Rep.int) Rep.int VS Rep.non (fun _ _ => ())) := by
  have nd := sc_need_sums.nd
  refine okD2 T.F_need_sums sc_need_sums rfl fun cdv A outer s H E hr => ⟨_, (pss_cons (ps_if (pt_not (pt_val (pe_call (ok_is_sums T) (hr.mono (by decide)) (by rfl) T.g_is_sums T.F_is_sums.kp (b_is_sums T) .nil pass0 (pa_cons (pv 0) pa_nil)))) (pss_one ps_never) pss_nil)
      (pss_cons (ps_expr (pe_call (ok_need_length T) (hr.mono (by decide)) (by rfl) T.g_need_length T.F_need_length.kp (b_need_length T) .nil pass0 (pa_cons (pv 1) pa_nil)))
      (pss_one (ps_if (pt_cmpR op_gt (pe_op op_sub (pe_op op_add (pe_callB (show CallR _ _ (Evl.rLenS K) from call_len_seq) (by rfl) T.n_len (by decide +kernel) (pa_cons (pv 0) pa_nil)) (pv 1)) pe_int) (pe_glob (v := .int 67) rfl (T.c_MOST_DAYS).choose_spec ⟨_, rfl⟩) (nomark _)) (pss_one ps_never) pss_nil)))), fun wd x y l L Q hx hy hp q => ?_⟩
  cases hy
  have h1 := hp.ne; have h2 := hp.lo; have h3 := hp.hi; have h4 := hp.days
  refine q_when (K := K) (b := false) (EvT.eq (et_not (et_test (ev_call1 (ev_var rfl hx) ⟨h1, by omega⟩))) (by simp)) (fun h => nomatch h) fun _ w1 g1 => ?_
  refine q_drop (K := K) (ev_call1 (ev_varI rfl) ⟨h2, h3⟩) fun w2 g2 => ?_
  refine s_when (K := K) (b := false) (EvT.eq (et_test (ev_gt (ev_sub (ev_add (ev_len (ev_var rfl (rp_gr (g1.trans g2) hx))) (ev_varI rfl)) ev_int) ev_int)) (by simp; omega)) (fun h => nomatch h) fun _ w3 g3 => ?_
  exact q .non w3 ((g1.trans g2).trans g3) rfl
theorem ok_offsets_in (T : Tx K mg) : FnOk P w K mg base CX0 1 (He.ga K "offsets_in") T.d_offsets_in ["sums", "length"] (spN2 K (Rep.list Rep.int) Rep.int VS Rep.int offs) := by
  have nd := sc_offsets_in.nd
  refine okN2 T.F_offsets_in sc_offsets_in rfl fun cdv A outer s H E hr => ⟨_, (pss_cons (ps_set (i := 2) nd rfl (Or.inl rfl) (pe_op op_rep (pe_lst (pa_cons pe_int pa_nil)) (pv 1)))
      (pss_cons (ps_for PassesOwn.never rfl (pi_range1 (by rfl) T.n_range (pa_cons (pe_op op_sub (pe_callB (show CallR _ _ (Evl.rLenS K) from call_len_seq) (by rfl) T.n_len (by decide +kernel) (pa_cons (pv 0) pa_nil)) pe_int) pa_nil)) (pg_name (i := 3) nd rfl (Or.inl rfl)) (pss_one (ps_expr (pe_bm PySem.F.plainAttrs_list PySem.F.slot_list_append PySem.F.type_list_append mt_append (pv 2) (pa_cons (pe_op op_sub (pe_op op_add (pe_ix (show IxR _ (rIxL K) from ix_list) (pv 2) (pv 3) (fun _ _ => rfl)) (pe_ix (show IxR _ (rIxL K) from ix_list) (pv 0) (pe_op op_add (pv 3) pe_int) (fun _ _ => rfl))) (pe_ix (show IxR _ (rIxL K) from ix_list) (pv 0) (pv 3) (fun _ _ => rfl))) pa_nil)))))
      (pss_one (ps_ret (pv 2))))), fun wd x y l L Q hx hy hp q => ?_⟩
  cases hy
  have h1 := hp.ne; have h2 := hp.lo; have h3 := hp.hi; have h4 := hp.days
  refine q_asgN (K := K) (en_rep (en_lst (el_cons ev_int el_nil)) (ev_varI rfl) ⟨by omega, by simp; omega, by omega⟩) fun p w1 g1 n1 o1 => ?_
  have e0 : (List.replicate L.toNat ([0] : List Int)).flatten = offsK l L.toNat 0 := by
    unfold offsK; simp
  rw [e0] at o1
  refine q_for (K := K) (ei_range1 (ev_sub (ev_len (ev_var rfl (rp_gr g1 hx))) ev_int) (by omega)) (fun i σ z => ∃ y1 : Option V, σ = [some x, some (.int L), some (.ref p), y1] ∧ GrC wd z ∧ OwnL K z p Rep.int (offsK l L.toNat i)) (fun z g => ⟨none, rfl, ⟨g1.trans g⟩, o1.gr g⟩) ?_ ?_
  · intro i a v σ z z2 ha hxz hI gz hra
    obtain ⟨y1, rfl, cz, oz⟩ := hI
    cases hra
    obtain ⟨rfl, hi⟩ := irange_get' ha
    have o2 := oz.gr gz
    have hr2 := rp_gr gz (rp_gr cz.g hx)
    have hlen : (offsK l L.toNat i).length = L.toNat + i := offsK_len
    refine s_app (K := K) o2 rfl (ev_sub (ev_add (ev_ixO o2 rfl (ev_varI rfl) (atI_D (d := 0) (by omega) (by omega))) (ev_ix (ev_var rfl hr2) (ev_add (ev_varI rfl) ev_int) (atI_D (d := 0) (by omega) (by omega)))) (ev_ix (ev_var rfl hr2) (ev_varI rfl) (atI_D (d := 0) (by omega) (by omega)))) (by omega) fun w4 m4 o4 => ?_
    dsimp only
    refine nxt ?_ ?_
    · exact gz.s.trans m4.s
    · refine ⟨_, rfl, gc_mt (gc_gr cz gz) m4 n1, ?_⟩
      rw [offsK_succ]
      rw [show (0 + (i : Int) + 1).toNat = i + 1 by omega, show (0 + (i : Int)).toNat = i by omega] at o4
      exact o4
  · intro σ z hxz hI
    obtain ⟨y1, rfl, cz, oz⟩ := hI
    refine s_retO rfl ?_
    refine q p z cz.g n1 ?_
    rw [irange_len] at oz
    unfold offs
    rw [show ((l.length : Int) - 1 - 0).toNat = l.length - 1 by omega] at oz
    exact oz
theorem ok_total_in (T : Tx K mg) : FnOk P w K mg base CX0 2 (He.ga K "total_in") T.d_total_in ["sums", "length", "days"] (spD3 K (Rep.list Rep.int) Rep.int (Rep.list Rep.int) (fun s L ds => VS s L ∧ ds.length ≤ 1000 ∧ ∀ d ∈ ds, 0 ≤ d ∧ d < (offs s L).length) Rep.int totalIn) := by
  have nd := sc_total_in.nd
  refine okD3 T.F_total_in sc_total_in rfl fun cdv A outer s H E hr => ⟨_, (pss_cons (ps_set (i := 3) nd rfl (Or.inr rfl) (pe_call (ok_offsets_in T) (hr.mono (by decide)) (by rfl) T.g_offsets_in T.F_offsets_in.kp (b_offsets_in T) .nil pass0 (pa_cons (pv 0) (pa_cons (pv 1) pa_nil))))
      (pss_one (ps_ret (pe_op op_add (pe_ix (show IxR _ (rIxL K) from ix_list) (pv 0) pe_int (fun _ _ => rfl)) (pe_callB (show CallR _ _ (rSum K) from (cr_sum rfl)) (by rfl) T.n_sum (by decide +kernel) (pa_cons (pe_lc (own := [("day", 4)]) (g := gName 4) (tt := tYes) rfl nd (pi_list (pv 2)) (blkOk_by (own := [("day", 4)]) (N := ["sums", "length", "days", "offsets", "day"]) (sc := defScope s_total_in) (by decide +kernel)) (fun _ _ _ _ _ => (pg_name (i := 4) nd rfl (by first | exact Or.inl rfl | exact Or.inr rfl))) (fun _ _ _ _ _ => pts_nil) (fun _ _ _ _ _ => (pe_ix (show IxR _ (rIxL K) from ix_list) (pv 3) (pv 4) (fun _ _ => rfl)))) pa_nil)))))), fun wd x y z l L ds Q hx hy hz hp q => ?_⟩
  cases hy
  obtain ⟨hv, hn, hd⟩ := hp
  have h1 := hv.ne
  refine q_asg (K := K) (EvN.d (en_call2 (ev_var rfl hx) (ev_varI rfl) hv)) fun vo w1 g1 r1 => ?_
  refine s_ret (K := K) (ev_add (ev_ix (ev_var rfl (rp_gr g1 hx)) ev_int (atI_D (d := 0) (by omega) (by omega))) (ev_sum (EvN.d (en_lc (e' := Rep.int) (by omega) (gI (offs l L)) (ei_list (ev_var rfl (rp_gr g1 hz))) (fun _ => rfl) fun a v w' ha g r => by
    cases r
    exact ev_ix (ev_var rfl (rp_gr g r1)) (ev_varI rfl) (atI_D (d := 0) (hd a ha).1 (hd a ha).2))))) fun v w' g r => q v w' (g1.trans g) r
end
end WK

namespace WK
open PySem PySem.Spec PyProof.Rows L2
/-! ### conflicts: a tuple that holds an own list -/
def Rep.rf : Rep Unit := ⟨fun _ _ v _ => ∃ p, v = .ref p, fun _ h => h⟩
theorem nn_rf : Rep.rf.NN := fun _ _ _ _ h e => by obtain ⟨p, z⟩ := h; rw [z] at e; cases e
def spConf (K : PySem.W.Frag) : Sp := fun vs H Q _ => ∃ (wd : Wd) (x : V) (l : List Int) (L most : Int), wd.H = H ∧ vs = [x, .int L, .int most] ∧ (Rep.list Rep.int).r K wd.S x l ∧ VS l L ∧ 0 ≤ most ∧ most ≤ 10 ^ 31 ∧
  (conf l L most = none → ∀ w', Gr wd w' → Q .non w'.H) ∧ (∀ s d, conf l L most = some (s, d) → ∀ t p w', Gr wd w' → wd.H p = none → SqT K w'.S t [.str s, .ref p] → OwnL K w' p Rep.int d → Q (.ref t) w'.H)
section
variable {K : PySem.W.Frag} {σ : L2.St} {w w' : Wd} {ta tb tc te : TE} {D : Ends} {tz : TS} {p : Addr}
theorem s_retTO {i : Nat} {s : Str} (hi : σ[i]? = some (some (.ref p))) (k : ∀ t w', Gr w w' → w.H t = none → SqT K w'.S t [.str s, .ref p] → D.rt (.ref t) w'.H) : tRet (tTup (tCons (tC (.str s)) (tCons (tVar i) tNil))) D σ w.H :=
  ⟨_, hi, by show 2 ≤ sizeLine; decide, fun t ht => k t (w.put t _) (gr_put ht) ht (SqT.of put_s)⟩
theorem et_notRef {i : Nat} (hi : σ[i]? = some (some (.ref p))) : EvT K (tTest (tOp (fun x y H Q => y = .non ∧ Q (.bl (!decide (x = .non))) H) (tVar i) (tC .non))) σ w true :=
  et_test (EvD.eq (ev_notN nn_rf (ev_var hi (show (Rep.opt Rep.rf).r K _ _ (some ()) from ⟨p, rfl⟩))) rfl)
theorem et_notNon {i : Nat} (hi : σ[i]? = some (some .non)) : EvT K (tTest (tOp (fun x y H Q => y = .non ∧ Q (.bl (!decide (x = .non))) H) (tVar i) (tC .non))) σ w false :=
  et_test (EvD.eq (ev_notN nn_rf (ev_var hi (show (Rep.opt Rep.rf).r K _ _ none from rfl))) rfl)
theorem conf_run {l : List Int} {L most : Int} {E : XK} {Q : VK} (h0 : EvD K ta σ w (Rep.list Rep.int) l) (h1 : EvD K tb σ w Rep.int L) (h2 : EvD K tc σ w Rep.int most) (hv : VS l L) (hm : 0 ≤ most ∧ most ≤ 10 ^ 31)
    (q0 : conf l L most = none → ∀ w', Gr w w' → Q .non w'.H) (q1 : ∀ s d, conf l L most = some (s, d) → ∀ t p w', Gr w w' → w.H p = none → SqT K w'.S t [.str s, .ref p] → OwnL K w' p Rep.int d → Q (.ref t) w'.H) :
    tCall (spConf K) [] E (tCons ta (tCons tb (tCons tc tNil))) σ w.H Q :=
  h0.run fun v0 u0 k0 z0 => (h1.gr k0).run fun v1 u1 k1 z1 => (h2.gr (k0.trans k1)).run fun v2 u2 k2 z2 => ⟨u2, v0, l, L, most, rfl, by cases z1; cases z2; rfl, (Rep.list Rep.int).m (k1.s.trans k2.s) z0, hv, hm.1, hm.2,
    fun e w' g' => q0 e w' (((k0.trans k1).trans k2).trans g'), fun s d e t p w' g' n a o => q1 s d e t p w' (((k0.trans k1).trans k2).trans g') (fr_back ((k0.trans k1).trans k2) n) a o⟩
end
section
variable {P : Program} {w : World} {K : PySem.W.Frag} {mg : Str → Option Value} {base : Heap}
theorem ok_need_most (T : Tx K mg) : FnOk P w K mg base CX0 2 (He.ga K "need_most") T.d_need_most ["most"] (spD1 K Rep.int (fun m => 0 ≤ m ∧ m ≤ 10 ^ 30 - 1) Rep.non (fun _ => ())) := by
  have nd := sc_need_most.nd
  refine okD1 T.F_need_most sc_need_most rfl fun cdv A outer s H E hr => ⟨_, (pss_one (ps_if (pt_not (pt_chain op_le op_le pe_int (pv 0) (pe_glob (v := .int 999999999999999999999999999999) rfl (T.c_MOST_MOST).choose_spec ⟨_, rfl⟩))) (pss_one ps_never) pss_nil)), fun wd x m Q hx hp q => ?_⟩
  cases hx
  refine s_when (K := K) (b := false) (EvT.eq (et_not (et_test (ev_leLe ev_int (ev_varI rfl) ev_int))) (by simp; omega)) (fun h => nomatch h) fun _ w1 g1 => ?_
  exact q .non w1 g1 rfl
theorem ok_need_all (T : Tx K mg) : FnOk P w K mg base CX0 5 (He.ga K "need_all") T.d_need_all ["sums", "length", "most"] (spD3 K (Rep.list Rep.int) Rep.int Rep.int (fun s L m => VS s L ∧ 0 ≤ m ∧ m ≤ 10 ^ 30 - 1) Rep.non (fun _ _ _ => ())) := by
  have nd := sc_need_all.nd
  refine okD3 T.F_need_all sc_need_all rfl fun cdv A outer s H E hr => ⟨_, (pss_cons (ps_expr (pe_call (ok_need_sums T) (hr.mono (by decide)) (by rfl) T.g_need_sums T.F_need_sums.kp (b_need_sums T) .nil pass0 (pa_cons (pv 0) (pa_cons (pv 1) pa_nil))))
      (pss_one (ps_expr (pe_call (ok_need_most T) (hr.mono (by decide)) (by rfl) T.g_need_most T.F_need_most.kp (b_need_most T) .nil pass0 (pa_cons (pv 2) pa_nil))))), fun wd x y z l L m Q hx hy hz hp q => ?_⟩
  cases hy; cases hz
  refine q_drop (K := K) (ev_call2 (ev_var rfl hx) (ev_varI rfl) hp.1) fun w1 g1 => ?_
  refine s_drop (K := K) (ev_call1 (ev_varI rfl) hp.2) fun w2 g2 => ?_
  exact q .non w2 (g1.trans g2) rfl
theorem ok_classes_in (T : Tx K mg) : FnOk P w K mg base CX0 1 (He.ga K "classes_in") T.d_classes_in ["values", "length"] (spN2 K (Rep.list Rep.int) Rep.int (fun o L => 1 ≤ L ∧ L ≤ 8 ∧ L ≤ o.length) (Rep.list Rep.int) classes) := by
  have nd := sc_classes_in.nd
  refine okN2 T.F_classes_in sc_classes_in rfl fun cdv A outer s H E hr => ⟨_, (pss_one (ps_ret (pe_lc (own := [("rest", 2)]) (g := gName 2) (tt := tYes) rfl nd (pi_range1 (by rfl) T.n_range (pa_cons (pv 1) pa_nil)) (blkOk_by (own := [("rest", 2)]) (N := ["values", "length", "rest"]) (sc := defScope s_classes_in) (by decide +kernel)) (fun _ _ _ _ _ => (pg_name (i := 2) nd rfl (by first | exact Or.inl rfl | exact Or.inr rfl))) (fun _ _ _ _ _ => pts_nil) (fun _ _ _ _ _ => (pe_stepK K (pv 0) (po_some (pv 2)) (po_some (pv 1))))))), fun wd x y o L Q hx hy hp q => ?_⟩
  cases hy
  refine s_retN (K := K) (en_lc (e' := Rep.list Rep.int) (by rw [irange_len]; omega) (cls o L) (ei_range1 (ev_varI rfl) (by omega)) (fun _ => rfl) fun a v w' ha g r => ?_) q
  cases r
  have := irange_mem.mp ha
  exact EvN.d (en_step (ev_var rfl (rp_gr g hx)) (ev_varI rfl) (ev_varI rfl) (by omega))
theorem ok_apart_days (T : Tx K mg) : FnOk P w K mg base CX0 1 (He.ga K "apart_days") T.d_apart_days ["offsets", "length", "least"] (spO3 K (Rep.list Rep.int) Rep.int Rep.int (fun o L m => 1 ≤ L ∧ L ≤ 8 ∧ o.length ≤ 1000) Rep.int apart) := by
  have nd := sc_apart_days.nd
  refine okO3 T.F_apart_days sc_apart_days rfl fun cdv A outer s H E hr => ⟨_, (pss_cons (ps_for PassesOwn.never rfl (pi_range1 (by rfl) T.n_range (pa_cons (pe_callB (show CallR _ _ (Evl.rLenS K) from call_len_seq) (by rfl) T.n_len (by decide +kernel) (pa_cons (pv 0) pa_nil)) pa_nil)) (pg_name (i := 3) nd rfl (Or.inl rfl)) (pss_one (ps_for PassesOwn.never rfl (pi_range3 (by rfl) T.n_range (pa_cons (pe_op op_add (pv 3) (pv 1)) (pa_cons (pe_callB (show CallR _ _ (Evl.rLenS K) from call_len_seq) (by rfl) T.n_len (by decide +kernel) (pa_cons (pv 0) pa_nil)) (pa_cons (pv 1) pa_nil)))) (pg_name (i := 4) nd rfl (Or.inl rfl)) (pss_one (ps_if (pt_cmpR op_ge (pe_callB call_abs (by rfl) T.n_abs (by decide +kernel) (pa_cons (pe_op op_sub (pe_ix (show IxR _ (rIxL K) from ix_list) (pv 0) (pv 4) (fun _ _ => rfl)) (pe_ix (show IxR _ (rIxL K) from ix_list) (pv 0) (pv 3) (fun _ _ => rfl))) pa_nil)) (pv 2) (nomark _)) (pss_one (ps_ret (pe_lst (pa_cons (pv 3) (pa_cons (pv 4) pa_nil))))) pss_nil)))))
      (pss_one (ps_ret pe_non))), fun wd x y z o L m Q hx hy hz hp q0 q1 => ?_⟩
  cases hy; cases hz
  refine q_for (K := K) (ei_range1 (ev_len (ev_var rfl hx)) (by omega)) (fun i σ z => ∃ y1 y2 : Option V, σ = [some x, some (.int L), some (.int m), y1, y2] ∧ GrC wd z ∧ ((irange 0 o.length).take i).findSome? (fun i => (srange (i + L) o.length L).findSome? fun j => if m ≤ ((gI o j - gI o i).natAbs : Int) then some [i, j] else none) = none) (fun z g => ⟨none, none, rfl, ⟨g⟩, rfl⟩) ?_ ?_
  · intro i a v σ z z2 ha hxz hI gz hra
    obtain ⟨y1, y2, rfl, cz, hn⟩ := hI
    cases hra
    have ham := irange_mem.mp (List.mem_of_getElem? ha)
    refine s_for (K := K) (ei_srange (ev_add (ev_varI rfl) (ev_varI rfl)) (ev_len (ev_var rfl (rp_gr (cz.g.trans gz) hx))) (ev_varI rfl) (by omega) (by omega) (by omega)) (fun n σ u => ∃ y2 : Option V, σ = [some x, some (.int L), some (.int m), some (.int a), y2] ∧ GrC wd u ∧ ((srange (a + L) o.length L).take n).findSome? (fun j => if m ≤ ((gI o j - gI o a).natAbs : Int) then some [a, j] else none) = none) (fun u g => ⟨y2, rfl, ⟨(cz.g.trans gz).trans g⟩, rfl⟩) ?_ ?_
    · intro n b v σ u u2 hb hxu hI gu hrb
      obtain ⟨y2, rfl, cu, hn2⟩ := hI
      cases hrb
      obtain ⟨k, hk, hbl⟩ := (srange_mem (by omega)).mp (List.mem_of_getElem? hb)
      have := Int.mul_nonneg (show (0 : Int) ≤ k by omega) (show 0 ≤ L by omega)
      have hr2 := rp_gr (cu.g.trans gu) hx
      refine s_when (K := K) (et_test (ev_ge (ev_abs (ev_sub (ev_ix (ev_var rfl hr2) (ev_varI rfl) (atI_gI (by omega) (by omega))) (ev_ix (ev_var rfl hr2) (ev_varI rfl) (atI_gI (by omega) (by omega))))) (ev_varI rfl))) (fun ht u3 g3 => ?_) (fun ht u3 g3 => ?_)
      · refine s_retN (K := K) (en_lst (el_cons (ev_varI rfl) (el_cons (ev_varI rfl) el_nil))) fun p u4 g4 n4 o4 => ?_
        refine q1 [a, b] ?_ p u4 (((cu.g.trans gu).trans g3).trans g4) (fr_back ((cu.g.trans gu).trans g3) n4) o4
        unfold apart
        refine seek_hit hn ha (seek_hit hn2 hb ?_)
        rw [if_pos (of_decide_eq_true ht)]
      · dsimp only
        refine nxt ?_ ?_
        · exact gu.s.trans g3.s
        · refine ⟨_, rfl, ⟨(cu.g.trans gu).trans g3⟩, seek_none hn2 hb ?_⟩
          rw [if_neg (of_decide_eq_false ht)]
    · intro σ u hxu hI
      obtain ⟨y2, rfl, cu, hn2⟩ := hI
      dsimp only
      refine nxt ?_ ?_
      · exact gz.s.trans hxu
      · rw [List.take_length] at hn2
        exact ⟨_, _, rfl, cu, seek_none hn ha hn2⟩
  · intro σ z hxz hI
    obtain ⟨y1, y2, rfl, cz, hn⟩ := hI
    rw [List.take_length] at hn
    refine s_ret (K := K) ev_non fun v w' g r => ?_
    cases r
    exact q0 hn w' (cz.g.trans g)
theorem ok_end_days (T : Tx K mg) : FnOk P w K mg base CX0 2 (He.ga K "end_days") T.d_end_days ["offsets", "length", "is_high"] (spN3 K (Rep.list Rep.int) Rep.int Rep.bl (fun o L _ => 1 ≤ L ∧ L ≤ 8 ∧ L ≤ o.length ∧ o.length ≤ 1000) Rep.int ends) := by
  have nd := sc_end_days.nd
  refine okN3 T.F_end_days sc_end_days rfl fun cdv A outer s H E hr => ⟨_, (pss_cons (ps_set (i := 3) nd rfl (Or.inl rfl) (pe_lst pa_nil))
      (pss_cons (ps_for PassesOwn.never rfl (pi_enum (by rfl) T.n_enumerate (pa_cons (pe_call (ok_classes_in T) (hr.mono (by decide)) (by rfl) T.g_classes_in T.F_classes_in.kp (b_classes_in T) .nil pass0 (pa_cons (pv 0) (pa_cons (pv 1) pa_nil))) pa_nil)) (pg_tup rfl (pgs_cons (pg_name (i := 4) nd rfl (Or.inl rfl)) (pgs_cons (pg_name (i := 5) nd rfl (Or.inl rfl)) pgs_nil))) (pss_one (ps_expr (pe_bm PySem.F.plainAttrs_list PySem.F.slot_list_append PySem.F.type_list_append mt_append (pv 3) (pa_cons (pe_op op_add (pv 4) (pe_op op_mulW (pv 1) (pe_bm PySem.F.plainAttrs_list PySem.F.slot_list_index PySem.F.type_list_index mt_index (pv 5) (pa_cons (pe_ifExp (pt_val (pv 2)) (pe_callB (show CallR _ _ (rMax K) from (cr_max rfl)) (by rfl) T.n_max (by decide +kernel) (pa_cons (pv 5) pa_nil)) (pe_callB (show CallR _ _ (rMin K) from (cr_min rfl)) (by rfl) T.n_min (by decide +kernel) (pa_cons (pv 5) pa_nil))) pa_nil)))) pa_nil)))))
      (pss_one (ps_ret (pe_callB (show CallR _ _ (rSortedI K) from cr_sortedI) (by rfl) T.n_sorted (by decide +kernel) (pa_cons (pv 3) pa_nil)))))), fun wd x y z o L hi Q hx hy hz hp q => ?_⟩
  cases hy; cases hz
  refine q_asgN (K := K) (en_lst (e := Rep.int) el_nil) fun p w1 g1 n1 o1 => ?_
  refine q_for2 (K := K) (ei_enum (EvN.d (en_call2 (ev_var rfl (rp_gr g1 hx)) (ev_varI rfl) ⟨hp.1, hp.2.1, hp.2.2.1⟩))) rfl (fun i σ z => ∃ y1 y2 : Option V, σ = [some x, some (.int L), some (.bl hi), some (.ref p), y1, y2] ∧ GrC wd z ∧ OwnL K z p Rep.int ((endsU o L hi).take i)) (fun z g => ⟨none, none, rfl, ⟨g1.trans g⟩, o1.gr g⟩) ?_ ?_
  · intro i a v v' σ z z2 ha hxz hI gz hra hrb
    obtain ⟨y1, y2, rfl, cz, oz⟩ := hI
    rw [enumI_get] at ha
    have hil : i < L.toNat := by
      cases hc : (classes o L)[i]? with
      | none => rw [hc] at ha; cases ha
      | some c =>
        have := (List.getElem?_eq_some_iff.mp hc).1
        unfold classes at this
        rw [List.length_map, irange_len] at this
        omega
    have hc : (classes o L)[i]? = some (cls o L i) := by
      unfold classes
      rw [List.getElem?_map, irange_get (by omega), Int.zero_add]; rfl
    rw [hc] at ha
    cases ha
    cases hra
    replace hrb : (Rep.list Rep.int).r K z2.S v' (cls o L i) := hrb
    have o2 := oz.gr gz
    have hne := cls_ne (o := o) (r := (i : Int)) hp.1 (by omega) (by omega)
    have hlen : (endsU o L hi).length = L.toNat := by unfold endsU; rw [List.length_map, irange_len]; omega
    have hid : (cls o L i).idxOf (exV hi (cls o L i)) < 1000 := by
      have h1 := List.idxOf_lt_length_of_mem (exV_mem (hi := hi) hne)
      have h2 : (cls o L i).length ≤ o.length := by unfold cls; exact stepV_len _ _ _
      omega
    refine s_app (K := K) o2 rfl (ev_add (ev_varI rfl) (ev_mul (ev_varI rfl) (ev_index (x := exV hi (cls o L i)) (ev_var rfl hrb) (ev_ifV (b := hi) (et_test (ev_varB rfl)) (fun _ => ev_maxL (ev_var rfl hrb) hne) (fun _ => ev_minL (ev_var rfl hrb) hne)) (idxOf_get (exV_mem hne)) (fun m y hm hy => idxOf_first hm hy)) (wide_mul (a := 10) (b := 10) (by omega) (by omega) (by decide) (by decide) (by decide)))) (by rw [List.length_take]; omega) fun w4 m4 o4 => ?_
    dsimp only
    refine nxt ?_ ?_
    · exact gz.s.trans m4.s
    · refine ⟨_, _, rfl, gc_mt (gc_gr cz gz) m4 n1, ?_⟩
      have : (endsU o L hi)[i]? = some (endDay o L hi i) := by
        unfold endsU
        rw [List.getElem?_map, irange_get (by omega), Int.zero_add]; rfl
      rw [List.take_add_one, this]
      exact o4
  · intro σ z hxz hI
    obtain ⟨y1, y2, rfl, cz, oz⟩ := hI
    have hlen : (enumI (classes o L)).length = (endsU o L hi).length := by rw [enumI_len]; unfold classes endsU; rw [List.length_map, List.length_map]
    rw [hlen, List.take_length] at oz
    exact s_retN (K := K) (en_sortV oz rfl) fun p2 w2 g2 n2 o2 => q p2 w2 (cz.g.trans g2) (fr_back cz.g n2) o2
theorem ok_conflict_in (T : Tx K mg) : FnOk P w K mg base CX0 3 (He.ga K "conflict_in") T.d_conflict_in ["sums", "length", "most"] (spConf K) := by
  have nd := sc_conflict_in.nd
  refine FunD.ok T.F_conflict_in sc_conflict_in (fun vs H Q E h => by obtain ⟨wd, x, l, L, m, _, rfl, _⟩ := h; rfl) fun cdv A outer s H vs Q E hr h => ⟨_, PSs.nox (pss_cons (ps_set (i := 3) nd rfl (Or.inl rfl) (pe_call (ok_offsets_in T) (hr.mono (by decide)) (by rfl) T.g_offsets_in T.F_offsets_in.kp (b_offsets_in T) .nil pass0 (pa_cons (pv 0) (pa_cons (pv 1) pa_nil))))
      (pss_cons (ps_set (i := 4) nd rfl (Or.inl rfl) (pe_call (ok_apart_days T) (hr.mono (by decide)) (by rfl) T.g_apart_days T.F_apart_days.kp (b_apart_days T) .nil pass0 (pa_cons (pv 3) (pa_cons (pv 1) (pa_cons (pe_op op_add (pv 2) pe_int) pa_nil)))))
      (pss_cons (ps_if (pt_cmpR op_notN (pv 4) pe_non (nomark _)) (pss_one (ps_ret (pe_tup (pa_cons pe_str (pa_cons (pv 4) pa_nil))))) pss_nil)
      (pss_cons (ps_set (i := 4) nd rfl (Or.inl rfl) (pe_call (ok_end_days T) (hr.mono (by decide)) (by rfl) T.g_end_days T.F_end_days.kp (b_end_days T) .nil pass0 (pa_cons (pv 3) (pa_cons (pv 1) (pa_cons pe_bl pa_nil)))))
      (pss_cons (ps_if (pt_cmpR op_lt (pe_call (ok_total_in T) (hr.mono (by decide)) (by rfl) T.g_total_in T.F_total_in.kp (b_total_in T) .nil pass0 (pa_cons (pv 0) (pa_cons (pv 1) (pa_cons (pv 4) pa_nil)))) pe_int (nomark _)) (pss_one (ps_ret (pe_tup (pa_cons pe_str (pa_cons (pv 4) pa_nil))))) pss_nil)
      (pss_cons (ps_set (i := 4) nd rfl (Or.inl rfl) (pe_call (ok_end_days T) (hr.mono (by decide)) (by rfl) T.g_end_days T.F_end_days.kp (b_end_days T) .nil pass0 (pa_cons (pv 3) (pa_cons (pv 1) (pa_cons pe_bl pa_nil)))))
      (pss_cons (ps_if (pt_cmpR op_gt (pe_call (ok_total_in T) (hr.mono (by decide)) (by rfl) T.g_total_in T.F_total_in.kp (b_total_in T) .nil pass0 (pa_cons (pv 0) (pa_cons (pv 1) (pa_cons (pv 4) pa_nil)))) (pe_op op_mulW (pv 1) (pv 2)) (nomark _)) (pss_one (ps_ret (pe_tup (pa_cons pe_str (pa_cons (pv 4) pa_nil))))) pss_nil)
      (pss_one (ps_ret pe_non))))))))), ?_⟩
  try dsimp only [cxOf]
  obtain ⟨wd, x, l, L, m, rfl, rfl, hx, hv, hm0, hm1, q0, q1⟩ := h
  have h1 := hv.ne; have h2 := hv.lo; have h3 := hv.hi; have h4 := hv.days
  have hl := hv.offs
  refine q_asg (K := K) (EvN.d (en_call2 (ev_var rfl hx) (ev_varI rfl) hv)) fun vo w1 g1 ro => ?_
  refine asgX (callO3_run (ev_var rfl ro) (ev_varI rfl) (ev_add (ev_varI rfl) ev_int) ⟨h2, h3, by omega⟩ (fun e w2 g2 => ?_) (fun d e p w2 g2 n2 o2 => ?_))
  · refine q_when (K := K) (et_notNon rfl) (fun h => nomatch h) fun _ w3 g3 => ?_
    have ho3 := rp_gr (g2.trans g3) ro
    have hx3 := rp_gr ((g1.trans g2).trans g3) hx
    refine q_asgN (K := K) (en_call3 (ev_var rfl ho3) (ev_varI rfl) ev_bl ⟨h2, h3, by omega, by omega⟩) fun p w4 g4 n4 o4 => ?_
    refine q_when (K := K) (et_peek o4 fun w5 m5 r5 => et_test (ev_lt (ev_call3 (ev_var rfl (rp_gr g4 hx3 |> rp_mt m5)) (ev_varI rfl) (ev_var rfl r5) ⟨hv, by rw [show (ends (offs l L) L false).length = L.toNat by unfold ends endsU; rw [sortI_len, List.length_map, irange_len]; omega]; omega, fun d hd => ends_mem h2 (by omega) hd⟩) ev_int)) (fun ht w5 g5 => ?_) (fun ht w5 g5 => ?_)
    · refine s_retTO (K := K) rfl fun t w6 g6 n6 a6 => ?_
      refine q1 _ _ ?_ t p w6 (((((g1.trans g2).trans g3).trans g4).trans g5).trans g6) (fr_back ((g1.trans g2).trans g3) n4) a6 ((o4.gr g5).gr g6)
      unfold conf
      rw [e]
      simp only
      rw [if_pos (of_decide_eq_true ht)]
    · have g15 := (((g1.trans g2).trans g3).trans g4).trans g5
      refine q_asgN (K := K) (en_call3 (ev_var rfl (rp_gr (g4.trans g5) ho3)) (ev_varI rfl) ev_bl ⟨h2, h3, by omega, by omega⟩) fun p2 w6 g6 n6 o6 => ?_
      refine q_when (K := K) (et_peek o6 fun w7 m7 r7 => et_test (ev_gt (ev_call3 (ev_var rfl (rp_gr (g15.trans g6) hx |> rp_mt m7)) (ev_varI rfl) (ev_var rfl r7) ⟨hv, by rw [show (ends (offs l L) L true).length = L.toNat by unfold ends endsU; rw [sortI_len, List.length_map, irange_len]; omega]; omega, fun d hd => ends_mem h2 (by omega) hd⟩) (ev_mul (ev_varI rfl) (ev_varI rfl) (wide_mul (a := 10) (b := 110) (by omega) (by omega) (by decide) (by decide) (by decide))))) (fun ht2 w7 g7 => ?_) (fun ht2 w7 g7 => ?_)
      · refine s_retTO (K := K) rfl fun t w8 g8 n8 a8 => ?_
        refine q1 _ _ ?_ t p2 w8 (((g15.trans g6).trans g7).trans g8) (fr_back g15 n6) a8 ((o6.gr g7).gr g8)
        unfold conf
        rw [e]
        simp only
        rw [if_neg (of_decide_eq_false ht), if_pos (of_decide_eq_true ht2)]
      · refine s_ret (K := K) ev_non fun v w8 g8 r8 => ?_
        cases r8
        refine q0 ?_ w8 (((g15.trans g6).trans g7).trans g8)
        unfold conf
        rw [e]
        simp only
        rw [if_neg (of_decide_eq_false ht), if_neg (of_decide_eq_false ht2)]
  · refine q_when (K := K) (et_notRef rfl) (fun _ w3 g3 => ?_) (fun h => nomatch h)
    refine s_retTO (K := K) rfl fun t w4 g4 n4 a4 => ?_
    refine q1 _ _ ?_ t p w4 (((g1.trans g2).trans g3).trans g4) (fr_back g1 n2) a4 ((o2.gr g3).gr g4)
    unfold conf
    rw [e]
theorem ok_need_way (T : Tx K mg) : FnOk P w K mg base CX0 6 (He.ga K "need_way") T.d_need_way ["sums", "length", "most"] (spD3 K (Rep.list Rep.int) Rep.int Rep.int (fun s L m => VS s L ∧ 0 ≤ m ∧ m ≤ 10 ^ 30 - 1 ∧ conf s L m = none) Rep.non (fun _ _ _ => ())) := by
  have nd := sc_need_way.nd
  refine okD3 T.F_need_way sc_need_way rfl fun cdv A outer s H E hr => ⟨_, (pss_cons (ps_expr (pe_call (ok_need_all T) (hr.mono (by decide)) (by rfl) T.g_need_all T.F_need_all.kp (b_need_all T) .nil pass0 (pa_cons (pv 0) (pa_cons (pv 1) (pa_cons (pv 2) pa_nil)))))
      (pss_cons (ps_set (i := 3) nd rfl (Or.inl rfl) (pe_call (ok_conflict_in T) (hr.mono (by decide)) (by rfl) T.g_conflict_in T.F_conflict_in.kp (b_conflict_in T) .nil pass0 (pa_cons (pv 0) (pa_cons (pv 1) (pa_cons (pv 2) pa_nil)))))
      (pss_one (ps_if (pt_cmpR op_notN (pv 3) pe_non (nomark _)) (pss_cons (ps_asg (pv 3) (pg_tup rfl (pgs_cons (pg_name (i := 4) nd rfl (Or.inl rfl)) (pgs_cons (pg_name (i := 5) nd rfl (Or.inl rfl)) pgs_nil))))
      (pss_one ps_never)) pss_nil)))), fun wd x y z l L m Q hx hy hz hp q => ?_⟩
  cases hy; cases hz
  obtain ⟨hv, hm0, hm1, hc⟩ := hp
  refine q_drop (K := K) (ev_call3 (ev_var rfl hx) (ev_varI rfl) (ev_varI rfl) ⟨hv, hm0, hm1⟩) fun w1 g1 => ?_
  refine asgX (conf_run (ev_var rfl (rp_gr g1 hx)) (ev_varI rfl) (ev_varI rfl) hv ⟨hm0, by omega⟩ (fun e w2 g2 => ?_) (fun s d e => by rw [hc] at e; cases e))
  refine s_when (K := K) (et_notNon rfl) (fun h => nomatch h) fun _ w3 g3 => ?_
  exact q .non w3 ((g1.trans g2).trans g3) rfl
end
end WK

namespace WK
open PySem PySem.Spec PyProof.Rows L2
/-! ### the law's draws -/
/-- a jar: f draws are left to be sure of -/
def Jar (K : PySem.W.Frag) (w : Wd) (p : Addr) (f : Nat) : Prop := ∃ a b c : Int, OwnL K w p Rep.int [a, b, c] ∧ 0 ≤ a ∧ 0 ≤ b ∧ b < 2 ^ 200 ∧ 0 ≤ c ∧ c + f ≤ 2 ^ 60
section
variable {K : PySem.W.Frag} {w w' w0 : Wd} {p q : Addr} {f f' : Nat}
theorem Jar.gr (h : Jar K w p f) (g : Gr w w') : Jar K w' p f := by obtain ⟨a, b, c, o, r⟩ := h; exact ⟨a, b, c, o.gr g, r⟩
theorem Jar.mt (h : Jar K w p f) (m : Mt q w w') (ne : p ≠ q) : Jar K w' p f := by obtain ⟨a, b, c, o, r⟩ := h; exact ⟨a, b, c, o.mt m ne, r⟩
theorem Jar.ne (h : Jar K w p f) : w.H p ≠ none := by obtain ⟨a, b, c, o, r⟩ := h; exact o.ne
theorem Jar.apart (h : Jar K w p f) (z : w.H q = none) : q ≠ p := fun x => h.ne (x ▸ z)
theorem Jar.le (h : Jar K w p f) (l : f' ≤ f) : Jar K w p f' := by obtain ⟨a, b, c, o, h1, h2, h3, h4, h5⟩ := h; exact ⟨a, b, c, o, h1, h2, h3, h4, by omega⟩
end
def spDip (K : PySem.W.Frag) : Sp := fun vs H Q _ => ∃ (wd : Wd) (p : Addr) (m : Int) (f : Nat), wd.H = H ∧ vs = [.ref p, .int m] ∧ Jar K wd p (f + 1) ∧ 0 < m ∧ m.natAbs < 2 ^ 9000 ∧ ∀ r w', Mt p wd w' → Jar K w' p f → 0 ≤ r → r < m → Q (.int r) w'.H
section
variable {P : Program} {w : World} {K : PySem.W.Frag} {mg : Str → Option Value} {base : Heap}
theorem pos_47 : (0 : Int) < 10 ^ (47 : Int).toNat + 91 := by decide +kernel
theorem pos_46 : (0 : Int) < 10 ^ (46 : Int).toNat + 79 := by decide +kernel
theorem lt_47 : (10 : Int) ^ (47 : Int).toNat + 91 < 2 ^ 200 := by decide +kernel
theorem ok__law_dip (T : Tx K mg) : FnOk P w K mg base CX0 1 (He.ga K "_law_dip") T.d__law_dip ["jar", "many"] (spDip K) := by
  have nd := sc__law_dip.nd
  refine FunD.ok T.F__law_dip sc__law_dip (fun vs H Q E h => by obtain ⟨wd, p, m, f, _, rfl, _⟩ := h; rfl) fun cdv A outer s H vs Q E hr h => ⟨_, PSs.nox (pss_cons (ps_if (pt_cmpR op_gt (pe_ix (show IxR _ (rIxL K) from ix_list) (pv 0) pe_int (fun _ _ => rfl)) pe_int (nomark _)) (pss_cons (ps_set (i := 2) nd rfl (Or.inl rfl) (pe_op op_mod (pe_callTy call_int1 (by rfl) T.n_int (by decide +kernel) (pa_cons (pe_ix (show IxR _ (rIxL K) from ix_list) (pv 0) pe_int (fun _ _ => rfl)) pa_nil)) (pv 1)))
      (pss_cons (ps_asg (pe_op op_fdivW (pe_ix (show IxR _ (rIxL K) from ix_list) (pv 0) pe_int (fun _ _ => rfl)) (pv 1)) (pg_sub (pv 0) pe_int set_list))
      (pss_one (ps_ret (pv 2))))) pss_nil)
      (pss_cons (ps_asg (pe_op op_add (pe_ix (show IxR _ (rIxL K) from ix_list) (pv 0) pe_int (fun _ _ => rfl)) pe_int) (pg_sub (pv 0) pe_int set_list))
      (pss_cons (ps_set (i := 3) nd rfl (Or.inl rfl) (pe_op op_mod (pe_callTy call_int1 (by rfl) T.n_int (by decide +kernel) (pa_cons (pe_op op_powW (pe_op op_add (pe_ix (show IxR _ (rIxL K) from ix_list) (pv 0) pe_int (fun _ _ => rfl)) (pe_op op_mulW pe_int (pe_ix (show IxR _ (rIxL K) from ix_list) (pv 0) pe_int (fun _ _ => rfl)))) pe_int) pa_nil)) (pe_op op_add (pe_op op_powW pe_int pe_int) pe_int)))
      (pss_cons (ps_set (i := 3) nd rfl (Or.inl rfl) (pe_op op_mod (pe_callTy call_int1 (by rfl) T.n_int (by decide +kernel) (pa_cons (pe_op op_powW (pe_op op_add (pv 3) (pe_op op_mulW pe_int (pe_ix (show IxR _ (rIxL K) from ix_list) (pv 0) pe_int (fun _ _ => rfl)))) pe_int) pa_nil)) (pe_op op_add (pe_op op_powW pe_int pe_int) pe_int)))
      (pss_one (ps_ret (pe_op op_mod (pe_callTy call_int1 (by rfl) T.n_int (by decide +kernel) (pa_cons (pe_op op_fdivW (pv 3) pe_int) pa_nil)) (pv 1)))))))), ?_⟩
  obtain ⟨wd, p, m, f, rfl, rfl, hj, hm, hm2, q⟩ := h
  obtain ⟨a, b, c, o, ha, hb, hb2, hc, hf⟩ := hj
  refine q_when (K := K) (b := decide (0 < a)) (et_test (ev_gt (ev_ixO o rfl ev_int rfl) ev_int)) (fun h1 w1 g1 => ?_) (fun h1 w1 g1 => ?_)
  · have o1 := o.gr g1
    refine q_asg (K := K) (ev_mod (ev_intI (ev_ixO o1 rfl ev_int rfl)) (ev_varI rfl) hm) fun v w2 g2 r2 => ?_
    cases r2
    have o2 := o1.gr g2
    refine q_set (K := K) (x := 0) o2 rfl (ev_div (ev_ixO o2 rfl ev_int rfl) (ev_varI rfl) ⟨hm, PySem.Flt.log2_lt_of (by decide) hm2⟩) ev_int ⟨by decide, by simp⟩ fun w3 m3 o3 => ?_
    refine s_ret (K := K) (ev_varI rfl) fun v w4 g4 r4 => ?_
    cases r4
    refine q (a % m) w4 (((g1.trans g2).mt o.ne).trans (m3.trans (g4.mt o3.ne))) ⟨a / m, b, c, o3.gr g4, Int.ediv_nonneg ha (by omega), hb, hb2, hc, by omega⟩ (Int.emod_nonneg _ (by omega)) (Int.emod_lt_of_pos _ hm)
  · have o1 := o.gr g1
    refine q_set (K := K) (x := 2) o1 rfl (ev_add (ev_ixO o1 rfl ev_int rfl) ev_int) ev_int ⟨by decide, by simp⟩ fun w2 m2 o2 => ?_
    have o2 : OwnL K w2 p Rep.int [a, b, c + 1] := o2
    have hc1 : (c + 1).natAbs < 2 ^ 61 := by omega
    refine q_asg (K := K) (ev_mod (ev_intI (ev_pow (ev_add (ev_ixO o2 rfl ev_int rfl) (ev_mul ev_int (ev_ixO o2 rfl ev_int rfl) (wide_mul (a := 26) (b := 61) (by decide) hc1 (by decide) (by decide) (by decide)))) ev_int (pow_ok (n := 201) (by decide) (by omega) (by decide) (by decide)))) (ev_add (ev_pow ev_int ev_int (pow_ok (n := 4) (by decide) (by decide) (by decide) (by decide))) ev_int) pos_47) fun v w3 g3 r3 => ?_
    cases r3
    have o3 := o2.gr g3
    have l1 := Int.emod_lt_of_pos ((b + 60000049 * (c + 1)) ^ (3 : Int).toNat) pos_47
    have l2 := Int.emod_nonneg ((b + 60000049 * (c + 1)) ^ (3 : Int).toNat) (Int.ne_of_gt pos_47)
    have l3 := lt_47
    generalize (b + 60000049 * (c + 1)) ^ (3 : Int).toNat % (10 ^ (47 : Int).toNat + 91) = y at l1 l2 ⊢
    refine q_asg (K := K) (ev_mod (ev_intI (ev_pow (ev_add (ev_varI rfl) (ev_mul ev_int (ev_ixO o3 rfl ev_int rfl) (wide_mul (a := 26) (b := 61) (by decide) hc1 (by decide) (by decide) (by decide)))) ev_int (pow_ok (n := 201) (by decide) (by omega) (by decide) (by decide)))) (ev_add (ev_pow ev_int ev_int (pow_ok (n := 4) (by decide) (by decide) (by decide) (by decide))) ev_int) pos_46) fun v w4 g4 r4 => ?_
    cases r4
    have o4 := o3.gr g4
    refine s_ret (K := K) (ev_mod (ev_intI (ev_div (ev_varI rfl) ev_int (wide_div (b := 31) (by decide) (by decide) (by decide) (by decide)))) (ev_varI rfl) hm) fun v w5 g5 r5 => ?_
    cases r5
    exact q _ w5 ((g1.mt o.ne).trans (m2.trans (((g3.trans g4).trans g5).mt o2.ne))) ⟨a, b, c + 1, o4.gr g5, ha, hb, hb2, by omega, by omega⟩ (Int.emod_nonneg _ (by omega)) (Int.emod_lt_of_pos _ hm)
end
/-- a draw -/
theorem dip_run {K : PySem.W.Frag} {σ : L2.St} {w : Wd} {p : Addr} {i f : Nat} {tm : TE} {m : Int} {Q : VK} {E : XK} (hi : σ[i]? = some (some (.ref p))) (hj : Jar K w p (f + 1)) (hm : EvD K tm σ w Rep.int m) (h0 : 0 < m) (h1 : m.natAbs < 2 ^ 9000)
    (k : ∀ r w', Mt p w w' → Jar K w' p f → 0 ≤ r → r < m → Q (.int r) w'.H) : tCall (spDip K) [] E (tCons (tVar i) (tCons tm tNil)) σ w.H Q :=
  ⟨_, hi, hm.run fun v w2 g2 r2 => ⟨w2, p, m, f, rfl, by cases r2; rfl, hj.gr g2, h0, h1, fun r w' m' j' => k r w' ((g2.mt hj.ne).trans m') j'⟩⟩
end WK

namespace WK
open PySem PySem.Spec PyProof.Rows L2
/-! ### a jar made; the divisor -/
def Bits (ns : List Int) : Prop := ∀ z ∈ ns, Builtin.Int.intBits z ≤ 1048576
def spJar (K : PySem.W.Frag) : Sp := fun vs H Q _ => ∃ (wd : Wd) (sv : V) (ns : List Int) (k : Int), wd.H = H ∧ vs = [sv, .int k] ∧ (Rep.list Rep.int).r K wd.S sv ns ∧ 0 ≤ k ∧ k ≤ 1000 ∧
  ∀ p w', Gr wd w' → wd.H p = none → Jar K w' p (2 ^ 59) → Q (.ref p) w'.H
section
variable {P : Program} {w : World} {K : PySem.W.Frag} {mg : Str → Option Value} {base : Heap}
theorem pos_43 : (0 : Int) < 10 ^ (43 : Int).toNat + 57 := by decide +kernel
theorem lt_43 : (10 : Int) ^ (43 : Int).toNat + 57 < 2 ^ 150 := by decide +kernel
theorem ok__law_jar (T : Tx K mg) : FnOk P w K mg base CX0 1 (He.ga K "_law_jar") T.d__law_jar ["script", "k"] (spJar K) := by
  have nd := sc__law_jar.nd
  refine FunD.ok T.F__law_jar sc__law_jar (fun vs H Q E h => by obtain ⟨wd, sv, ns, k, _, rfl, _⟩ := h; rfl) fun cdv A outer s H vs Q E hr h => ⟨_, PSs.nox (pss_cons (ps_set (i := 2) nd rfl (Or.inl rfl) (pe_ifExp (pt_cmpR op_lt (pv 1) (pe_callB (show CallR _ _ (Evl.rLenS K) from call_len_seq) (by rfl) T.n_len (by decide +kernel) (pa_cons (pv 0) pa_nil)) (nomark _)) (pe_callB call_abs (by rfl) T.n_abs (by decide +kernel) (pa_cons (pe_ix (show IxR _ (rIxL K) from ix_list) (pv 0) (pv 1) (fun _ _ => rfl)) pa_nil)) pe_int))
      (pss_one (ps_ret (pe_lst (pa_cons (pe_callB (call_max2 rfl) (by rfl) T.n_max (by decide +kernel) (pa_cons pe_int (pa_cons (pe_op op_sub (pv 2) (pe_op op_powW pe_int pe_int)) pa_nil))) (pa_cons (pe_op op_add (pe_op op_mulW (pe_op op_mod (pe_callTy call_int1 (by rfl) T.n_int (by decide +kernel) (pa_cons (pv 2) pa_nil)) (pe_op op_add (pe_op op_powW pe_int pe_int) pe_int)) pe_int) (pe_op op_mulW pe_int (pv 1))) (pa_cons pe_int pa_nil))))))), ?_⟩
  try dsimp only [cxOf]
  obtain ⟨wd, sv, ns, k, rfl, rfl, rs, h0, h1, q⟩ := h
  have hc : ∃ c : Int, 0 ≤ c ∧ EvD K (tIf (tTest (tOp (rI0 fun i j => V.bl (decide (i < j))) (tVar 1) (tCB (Evl.rLenS K) (tCons (tVar 0) tNil)))) (tCB (fun xs H Q => ∃ i, xs = [.int i] ∧ Q (.int (if i < 0 then -i else i)) H) (tCons (tOp (rIxL K) (tVar 0) (tVar 1)) tNil)) (tC (.int 0))) (L2.start ["script", "k", "cell_here"] [sv, .int k]) wd Rep.int c := by
    by_cases hk : k < (ns.length : Int)
    · have hg : ns[k.toNat]? = some (ns[k.toNat]'(by omega)) := by simp
      exact ⟨_, by omega, ev_if (b := true) (EvT.eq (et_test (ev_lt (ev_varI rfl) (ev_len (ev_var rfl rs)))) (by simp [hk])) (fun _ => ev_abs (ev_ix (ev_var rfl rs) (ev_varI rfl) (atI_int h0 hg))) (fun z => nomatch z)⟩
    · exact ⟨0, by omega, ev_if (b := false) (EvT.eq (et_test (ev_lt (ev_varI rfl) (ev_len (ev_var rfl rs)))) (by simp; omega)) (fun z => nomatch z) (fun _ => ev_int)⟩
  obtain ⟨c, hc0, hc⟩ := hc
  refine q_asg (K := K) hc fun v w1 g1 r1 => ?_
  cases r1
  have l1 := Int.emod_lt_of_pos c pos_43
  have l2 := Int.emod_nonneg c (Int.ne_of_gt pos_43)
  have l3 := lt_43
  refine s_retN (K := K) (en_lst (el_cons (ev_max2 ev_int (ev_sub (ev_varI rfl) (ev_pow ev_int ev_int (pow_ok (n := 4) (by decide) (by decide) (by decide) (by decide))))) (el_cons (ev_add (ev_mul (ev_mod (ev_intI (ev_varI rfl)) (ev_add (ev_pow ev_int ev_int (pow_ok (n := 4) (by decide) (by decide) (by decide) (by decide))) ev_int) pos_43) ev_int (wide_mul (a := 150) (b := 7) (by omega) (by decide) (by decide) (by decide) (by decide)))
    (ev_mul ev_int (ev_varI rfl) (wide_mul (a := 17) (b := 10) (by decide) (by omega) (by decide) (by decide) (by decide)))) (el_cons ev_int el_nil)))) fun p w2 g2 n2 o2 => ?_
  refine q p w2 (g1.trans g2) (fr_back g1 n2) ⟨_, _, _, o2, by omega, by omega, by omega, by decide, by decide⟩
end
end WK

namespace WK
open PySem PySem.Spec PyProof.Rows L2
/-! ### the law's draws: sums, days, tops, sizes -/
def sumsL (x : List Int) (L : Int) : List Int := (irange 0 (x.length - L + 1)).map fun i => isum (fun j => gI x (i + j)) L
theorem sumsL_len {x : List Int} {L : Int} (h : L ≤ x.length) : ((sumsL x L).length : Int) = x.length - L + 1 := by
  unfold sumsL; rw [List.length_map, irange_len]; omega
theorem sumsL_way {x : List Int} {L most : Int} (h1 : 1 ≤ L) (h : L ≤ x.length) (hx : ∀ v ∈ x, 0 ≤ v ∧ v ≤ most) : Way (sumsL x L) x L most where
  len := by rw [sumsL_len h]; omega
  sm := fun i hi => by
    have hl := sumsL_len h
    refine getD_at ?_
    unfold sumsL
    rw [List.getElem?_map, irange_get (by omega), Int.zero_add]; rfl
  rg := hx
theorem sumsL_VS {x : List Int} {L : Int} (h1 : 1 ≤ L) (h8 : L ≤ 8) (h : L ≤ x.length) (h67 : x.length ≤ 67) : VS (sumsL x L) L := by
  have := sumsL_len h
  exact ⟨by omega, h1, h8, by omega⟩
def spTop (K : PySem.W.Frag) : Sp := fun vs H Q _ => ∃ (wd : Wd) (p : Addr) (f : Nat), wd.H = H ∧ vs = [.ref p] ∧ Jar K wd p (f + 2) ∧ ∀ r w', Mt p wd w' → Jar K w' p f → 0 ≤ r → r ≤ 10 ^ 30 - 1 → Q (.int r) w'.H
def spHigh (K : PySem.W.Frag) : Sp := fun vs H Q _ => ∃ (wd : Wd) (p : Addr) (n : Int) (f : Nat), wd.H = H ∧ vs = [.ref p, .int n] ∧ 1 ≤ n ∧ n ≤ 1000 ∧ Jar K wd p (f + 2) ∧ ∀ r w', Mt p wd w' → Jar K w' p f → 0 ≤ r → r ≤ 10 ^ 30 - 1 → Q (.int r) w'.H
def spDays (K : PySem.W.Frag) : Sp := fun vs H Q _ => ∃ (wd : Wd) (p : Addr) (n m : Int) (f : Nat), wd.H = H ∧ vs = [.ref p, .int n, .int m] ∧ 0 ≤ n ∧ n ≤ 67 ∧ 0 ≤ m ∧ m ≤ 10 ^ 30 ∧ Jar K wd p (f + 2 * n.toNat + 1) ∧
  ∀ v l w', Mt p wd w' → Jar K w' p f → (Rep.list Rep.int).r K w'.S v l → (l.length : Int) = n → (∀ z ∈ l, 0 ≤ z ∧ z ≤ m) → Q v w'.H
def spSize (K : PySem.W.Frag) : Sp := fun vs H Q _ => ∃ (wd : Wd) (p : Addr) (n : Int) (f : Nat), wd.H = H ∧ vs = [.ref p, .int n] ∧ 8 ≤ n ∧ n ≤ 67 ∧ Jar K wd p (f + 2) ∧ ∀ t a b w', Mt p wd w' → Jar K w' p f → 1 ≤ a → a ≤ 8 → a ≤ b → b ≤ n → (Rep.pair Rep.int Rep.int).r K w'.S t (a, b) → Q t w'.H
section
variable {K : PySem.W.Frag} {σ : L2.St} {w w' : Wd} {ta tb tc te : TE} {D : Ends} {tz : TS} {p : Addr}
theorem retX {H : Hp} (h : te σ H D.rt) : tRet te D σ H := h
theorem sasgX {i : Nat} {H : Hp} (h : te σ H fun x H1 => D.nx (σ.set i (some x)) H1) : tAsg te (gName i) D σ H := h
theorem sub_run {t1 t2 : TE} {H : Hp} {Q : VK} (h : t1 σ H fun x H1 => t2 σ H1 fun y H2 => ∃ i j, x = .int i ∧ y = .int j ∧ Q (.int (i - j)) H2) : tOp (rI0 fun i j => .int (i - j)) t1 t2 σ H Q := h
theorem ix_run {H : Hp} {Q : VK} (h : ta σ H fun x H1 => tb σ H1 fun y H2 => rIxL K x y H2 Q) : tOp (rIxL K) ta tb σ H Q := h
theorem tup2_run {H : Hp} {Q : VK} (h : ta σ H fun x H1 => tb σ H1 fun y H2 => [x, y].length ≤ sizeLine ∧ ∀ p, H2 p = none → Q (.ref p) (upd H2 p (.tup [x, y]))) : tTup (tCons ta (tCons tb tNil)) σ H Q := h
end
section
variable {P : Program} {w : World} {K : PySem.W.Frag} {mg : Str → Option Value} {base : Heap}
theorem pow30 : (10 : Int) ^ (30 : Int).toNat = 1000000000000000000000000000000 := by decide +kernel
theorem ok__law_sums (T : Tx K mg) : FnOk P w K mg base CX0 1 (He.ga K "_law_sums") T.d__law_sums ["numbers_here", "size"] (spN2 K (Rep.list Rep.int) Rep.int (fun x L => 1 ≤ L ∧ L ≤ 8 ∧ L ≤ x.length ∧ x.length ≤ 67) Rep.int sumsL) := by
  have nd := sc__law_sums.nd
  refine okN2 T.F__law_sums sc__law_sums rfl fun cdv A outer s H E hr => ⟨_, (pss_cons (ps_set (i := 2) nd rfl (Or.inl rfl) (pe_lst pa_nil))
      (pss_cons (ps_for PassesOwn.never rfl (pi_range1 (by rfl) T.n_range (pa_cons (pe_op op_add (pe_op op_sub (pe_callB (show CallR _ _ (Evl.rLenS K) from call_len_seq) (by rfl) T.n_len (by decide +kernel) (pa_cons (pv 0) pa_nil)) (pv 1)) pe_int) pa_nil)) (pg_name (i := 3) nd rfl (Or.inl rfl)) (pss_cons (ps_set (i := 4) nd rfl (Or.inl rfl) pe_int)
      (pss_cons (ps_for PassesOwn.never rfl (pi_range1 (by rfl) T.n_range (pa_cons (pv 1) pa_nil)) (pg_name (i := 5) nd rfl (Or.inl rfl)) (pss_one (ps_set (i := 4) nd rfl (Or.inl rfl) (pe_op op_add (pv 4) (pe_ix (show IxR _ (rIxL K) from ix_list) (pv 0) (pe_op op_add (pv 3) (pv 5)) (fun _ _ => rfl))))))
      (pss_one (ps_expr (pe_bm PySem.F.plainAttrs_list PySem.F.slot_list_append PySem.F.type_list_append mt_append (pv 2) (pa_cons (pv 4) pa_nil)))))))
      (pss_one (ps_ret (pv 2))))), fun wd x y l L Q hx hy hp q => ?_⟩
  cases hy
  refine q_asgN (K := K) (en_lst (e := Rep.int) el_nil) fun p w1 g1 n1 o1 => ?_
  refine q_for (K := K) (ei_range1 (ev_add (ev_sub (ev_len (ev_var rfl (rp_gr g1 hx))) (ev_varI rfl)) ev_int) (by omega)) (fun i σ z => ∃ y1 y2 y3 : Option V, σ = [some x, some (.int L), some (.ref p), y1, y2, y3] ∧ GrC wd z ∧ OwnL K z p Rep.int ((sumsL l L).take i)) (fun z g => ⟨none, none, none, rfl, ⟨g1.trans g⟩, o1.gr g⟩) ?_ ?_
  · intro i a v σ z z2 ha hxz hI gz hra
    obtain ⟨y1, y2, y3, rfl, cz, oz⟩ := hI
    cases hra
    have ham := irange_mem.mp (List.mem_of_getElem? ha)
    refine q_asg (K := K) ev_int fun v0 z3 g3 r3 => ?_
    cases r3
    refine q_for (K := K) (ei_range1 (ev_varI rfl) (by omega)) (fun m σ u => ∃ y3 : Option V, σ = [some x, some (.int L), some (.ref p), some (.int a), some (.int (isum (fun j => gI l (a + j)) (m : Int))), y3] ∧ GrC wd u ∧ Gr z u) (fun u g => ⟨y3, by rw [isum_zero]; rfl, ⟨((cz.g.trans gz).trans g3).trans g⟩, (gz.trans g3).trans g⟩) ?_ ?_
    · intro m b v σ u u2 hb hxu hI gu hrb
      obtain ⟨y3, rfl, cu, gzu⟩ := hI
      cases hrb
      obtain ⟨rfl, hb2⟩ := irange_get' hb
      refine s_asg (K := K) (ev_add (ev_varI rfl) (ev_ix (ev_var rfl (rp_gr (cu.g.trans gu) hx)) (ev_add (ev_varI rfl) (ev_varI rfl)) (atI_gI (by omega) (by omega)))) fun v u4 g4 r4 => ?_
      cases r4
      dsimp only
      refine nxt ?_ ?_
      · exact (gu.trans g4).s
      · refine ⟨some (.int (0 + (m : Int))), ?_, ⟨(cu.g.trans gu).trans g4⟩, (gzu.trans gu).trans g4⟩
        rw [isum_succ, show (0 : Int) + (m : Int) = m by omega]; rfl
    · intro σ u hxu hI
      obtain ⟨y3, rfl, cu, gzu⟩ := hI
      rw [irange_len, show (((L - 0).toNat : Nat) : Int) = L by omega]
      have hs : (sumsL l L)[i]? = some (isum (fun j => gI l (a + j)) L) := by
        unfold sumsL
        rw [List.getElem?_map, ha]; rfl
      refine s_app (K := K) (oz.gr gzu) rfl (ev_varI rfl) (by rw [List.length_take]; have := sumsL_len (x := l) (L := L) hp.2.2.1; omega) fun w4 m4 o4 => ?_
      dsimp only
      refine nxt ?_ ?_
      · exact gzu.s.trans m4.s
      · refine ⟨_, _, _, rfl, gc_mt cu m4 n1, ?_⟩
        rw [List.take_add_one, hs]
        exact o4
  · intro σ z hxz hI
    obtain ⟨y1, y2, y3, rfl, cz, oz⟩ := hI
    refine s_retO rfl (q p z cz.g n1 ?_)
    have : (irange 0 ((l.length : Int) - L + 1)).length = (sumsL l L).length := by unfold sumsL; rw [List.length_map]
    rw [this, List.take_length] at oz
    exact oz
theorem ok__law_top (T : Tx K mg) : FnOk P w K mg base CX0 2 (He.ga K "_law_top") T.d__law_top ["jar"] (spTop K) := by
  have nd := sc__law_top.nd
  refine FunD.ok T.F__law_top sc__law_top (fun vs H Q E h => by obtain ⟨wd, p, f, _, rfl, _⟩ := h; rfl) fun cdv A outer s H vs Q E hr h => ⟨_, PSs.nox (pss_cons (ps_set (i := 1) nd rfl (Or.inl rfl) (pe_call (ok__law_dip T) (hr.mono (by decide)) (by rfl) T.g__law_dip T.F__law_dip.kp (b__law_dip T) .nil pass0 (pa_cons (pv 0) (pa_cons pe_int pa_nil))))
      (pss_cons (ps_if (pt_cmpR op_eq (pv 1) pe_int (nomark _)) (pss_one (ps_ret (pe_op op_sub (pe_op op_sub (pe_op op_powW pe_int pe_int) pe_int) (pe_call (ok__law_dip T) (hr.mono (by decide)) (by rfl) T.g__law_dip T.F__law_dip.kp (b__law_dip T) .nil pass0 (pa_cons (pv 0) (pa_cons (pe_op op_powW pe_int pe_int) pa_nil)))))) pss_nil)
      (pss_one (ps_ret (pe_call (ok__law_dip T) (hr.mono (by decide)) (by rfl) T.g__law_dip T.F__law_dip.kp (b__law_dip T) .nil pass0 (pa_cons (pv 0) (pa_cons (pe_ix (show IxR _ (rIxL K) from ix_list) (pe_lst (pa_cons pe_int (pa_cons pe_int pa_nil))) (pv 1) (fun _ _ => rfl)) pa_nil))))))), ?_⟩
  try dsimp only [cxOf]
  obtain ⟨wd, p, f, rfl, rfl, j0, q⟩ := h
  refine asgX (dip_run (K := K) (i := 0) (f := f + 1) rfl j0 ev_int (by decide) (by decide) fun r w1 m1 j1 r0 r3 => ?_)
  refine q_when (K := K) (et_test (ev_eqI (ev_varI rfl) ev_int)) (fun ht w2 g2 => ?_) (fun ht w2 g2 => ?_)
  · refine retX (sub_run (EvD.run (K := K) (ev_sub (ev_pow ev_int ev_int (pow_ok (n := 4) (by decide) (by decide) (by decide) (by decide))) ev_int) fun v w3 g3 r3 => dip_run (K := K) (i := 0) (f := f) rfl (j1.gr (g2.trans g3)) (ev_pow ev_int ev_int (pow_ok (n := 4) (by decide) (by decide) (by decide) (by decide))) (by rw [pow30]; decide) (by rw [pow30]; decide +kernel) fun d w4 m4 j4 d0 d1 => ⟨_, _, r3, rfl, ?_⟩))
    rw [pow30] at d1 ⊢
    exact q _ w4 (m1.trans (((g2.trans g3).mt j1.ne).trans m4)) j4 (by omega) (by omega)
  · have hr2 : r = 0 ∨ r = 1 := by have := of_decide_eq_false ht; omega
    have hat : ∃ m : Int, 0 < m ∧ m ≤ 30 ∧ atI ([4, 30] : List Int) r = some m := by
      rcases hr2 with rfl | rfl
      · exact ⟨4, by decide, by decide, rfl⟩
      · exact ⟨30, by decide, by decide, rfl⟩
    obtain ⟨m, hm0, hm1, hm⟩ := hat
    refine retX (dip_run (K := K) (i := 0) (f := f) rfl (j1.gr g2) (ev_ix (EvN.d (en_lst (el_cons ev_int (el_cons ev_int el_nil)))) (ev_varI rfl) hm) hm0 (Nat.lt_of_lt_of_le (show m.natAbs < 2 ^ 5 by omega) (Nat.pow_le_pow_right (by decide) (by decide))) fun d w4 m4 j4 d0 d1 => ?_)
    exact q _ w4 (m1.trans ((g2.mt j1.ne).trans m4)) j4 d0 (by omega)
theorem ok__law_high (T : Tx K mg) : FnOk P w K mg base CX0 3 (He.ga K "_law_high") T.d__law_high ["jar", "parts"] (spHigh K) := by
  have nd := sc__law_high.nd
  refine FunD.ok T.F__law_high sc__law_high (fun vs H Q E h => by obtain ⟨wd, p, n, f, _, rfl, _⟩ := h; rfl) fun cdv A outer s H vs Q E hr h => ⟨_, PSs.nox (pss_cons (ps_set (i := 2) nd rfl (Or.inl rfl) (pe_call (ok__law_top T) (hr.mono (by decide)) (by rfl) T.g__law_top T.F__law_top.kp (b__law_top T) .nil pass0 (pa_cons (pv 0) pa_nil)))
      (pss_one (ps_ret (pe_ifExp (pt_cmpR op_gt (pv 2) (pe_op op_powW pe_int pe_int) (nomark _)) (pe_op op_fdivW (pv 2) (pv 1)) (pv 2))))), ?_⟩
  try dsimp only [cxOf]
  obtain ⟨wd, p, n, f, rfl, rfl, hn1, hn2, j0, q⟩ := h
  refine asgX ⟨_, rfl, wd, p, f, rfl, rfl, j0, fun r w1 m1 j1 r0 r1 => ?_⟩
  refine s_ret (K := K) (ev_ifV (et_test (ev_gt (ev_varI rfl) (ev_pow ev_int ev_int (pow_ok (n := 4) (by decide) (by decide) (by decide) (by decide))))) (fun _ => ev_div (ev_varI rfl) (ev_varI rfl) (wide_div (b := 11) (by omega) (by omega) (by decide) (by decide))) (fun _ => ev_varI rfl)) fun v w2 g2 r2 => ?_
  cases r2
  refine q _ w2 (m1.trans (g2.mt j1.ne)) (j1.gr g2) ?_ ?_
  · split
    · exact Int.ediv_nonneg r0 (by omega)
    · exact r0
  · split
    · exact Int.le_trans (Int.ediv_le_self _ r0) r1
    · exact r1
theorem ok__law_size (T : Tx K mg) : FnOk P w K mg base CX0 2 (He.ga K "_law_size") T.d__law_size ["jar", "most_days"] (spSize K) := by
  have nd := sc__law_size.nd
  refine FunD.ok T.F__law_size sc__law_size (fun vs H Q E h => by obtain ⟨wd, p, n, f, _, rfl, _⟩ := h; rfl) fun cdv A outer s H vs Q E hr h => ⟨_, PSs.nox (pss_cons (ps_set (i := 2) nd rfl (Or.inl rfl) (pe_op op_add pe_int (pe_call (ok__law_dip T) (hr.mono (by decide)) (by rfl) T.g__law_dip T.F__law_dip.kp (b__law_dip T) .nil pass0 (pa_cons (pv 0) (pa_cons pe_int pa_nil)))))
      (pss_one (ps_ret (pe_tup (pa_cons (pv 2) (pa_cons (pe_op op_add (pv 2) (pe_call (ok__law_dip T) (hr.mono (by decide)) (by rfl) T.g__law_dip T.F__law_dip.kp (b__law_dip T) .nil pass0 (pa_cons (pv 0) (pa_cons (pe_op op_add (pe_op op_sub (pv 1) (pv 2)) pe_int) pa_nil)))) pa_nil)))))), ?_⟩
  try dsimp only [cxOf]
  obtain ⟨wd, p, n, f, rfl, rfl, hn1, hn2, j0, q⟩ := h
  refine asgX (add_run (EvD.run (K := K) (r := Rep.int) ev_int fun v1 w1 g1 r1 => dip_run (K := K) (i := 0) (f := f + 1) rfl (j0.gr g1) ev_int (by decide) (by decide) fun a w2 m2 j2 a0 a1 => ⟨_, _, r1, rfl, ?_⟩))
  have j2' : Jar K w2 p (f + 1) := j2
  refine retX (tup2_run (EvD.run (K := K) (r := Rep.int) (ev_varI rfl) fun v3 w3 g3 r3 => add_run (EvD.run (K := K) (r := Rep.int) (ev_varI rfl) fun v4 w4 g4 r4 => dip_run (K := K) (i := 0) (f := f) rfl (j2'.gr (g3.trans g4)) (ev_add (ev_sub (ev_varI rfl) (ev_varI rfl)) ev_int) (by omega) (Nat.lt_of_lt_of_le (show (n - (1 + a) + 1).natAbs < 2 ^ 7 by omega) (Nat.pow_le_pow_right (by decide) (by decide))) fun b w5 m5 j5 b0 b1 => ⟨_, _, r4, rfl, by show 2 ≤ sizeLine; decide, fun t ht => ?_⟩)))
  cases r3
  exact q _ (1 + a) (1 + a + b) (w5.put t _) ((g1.mt j0.ne).trans (m2.trans (((g3.trans g4).mt j2'.ne).trans (m5.trans ((gr_put ht).mt j5.ne))))) (j5.gr (gr_put ht)) (by omega) (by omega) (by omega) (by omega) ⟨t, _, _, rfl, SqT.of put_s, rfl, rfl⟩
theorem ok__law_days (T : Tx K mg) : FnOk P w K mg base CX0 2 (He.ga K "_law_days") T.d__law_days ["jar", "many", "top"] (spDays K) := by
  have nd := sc__law_days.nd
  refine FunD.ok T.F__law_days sc__law_days (fun vs H Q E h => by obtain ⟨wd, p, n, m, f, _, rfl, _⟩ := h; rfl) fun cdv A outer s H vs Q E hr h => ⟨_, PSs.nox (pss_cons (ps_set (i := 3) nd rfl (Or.inl rfl) (pe_call (ok__law_dip T) (hr.mono (by decide)) (by rfl) T.g__law_dip T.F__law_dip.kp (b__law_dip T) .nil pass0 (pa_cons (pv 0) (pa_cons pe_int pa_nil))))
      (pss_cons (ps_setLc (i := 4) (own := [("turn", 5)]) (g := gName 5) (tt := tYes) rfl nd rfl rfl (sw_true rfl rfl rfl (by decide +kernel)) (pi_range1 (by rfl) T.n_range (pa_cons (pv 1) pa_nil)) (blkOk_by (own := [("turn", 5)]) (N := ["jar", "many", "top", "way_here", "found", "turn", "one"]) (sc := defScope s__law_days) (by decide +kernel)) (fun _ _ _ _ _ => (pg_name (i := 5) nd rfl (by first | exact Or.inl rfl | exact Or.inr rfl))) (fun _ _ _ _ _ => pts_nil) (fun _ _ _ _ _ => (pe_call (ok__law_dip T) (hr.mono (by decide)) (by rfl) T.g__law_dip T.F__law_dip.kp (b__law_dip T) .nil pass0 (pa_cons (pv 0) (pa_cons (pe_op op_add (pv 2) pe_int) pa_nil)))))
      (pss_cons (ps_if (pt_cmpR op_eq (pv 3) pe_int (nomark _)) (pss_one (ps_setLc (i := 4) (own := [("one", 6)]) (g := gName 6) (tt := tYes) rfl nd rfl rfl (sw_true rfl rfl rfl (by decide +kernel)) (pi_list (pv 4)) (blkOk_by (own := [("one", 6)]) (N := ["jar", "many", "top", "way_here", "found", "turn", "one"]) (sc := defScope s__law_days) (by decide +kernel)) (fun _ _ _ _ _ => (pg_name (i := 6) nd rfl (by first | exact Or.inl rfl | exact Or.inr rfl))) (fun _ _ _ _ _ => pts_nil) (fun _ _ _ _ _ => (pe_ix (show IxR _ (rIxL K) from ix_list) (pe_lst (pa_cons pe_int (pa_cons (pv 2) (pa_cons (pv 6) pa_nil)))) (pe_call (ok__law_dip T) (hr.mono (by decide)) (by rfl) T.g__law_dip T.F__law_dip.kp (b__law_dip T) .nil pass0 (pa_cons (pv 0) (pa_cons pe_int pa_nil))) (fun _ _ => rfl))))) pss_nil)
      (pss_one (ps_ret (pv 4)))))), ?_⟩
  try dsimp only [cxOf]
  obtain ⟨wd, p, n, m, f, rfl, rfl, hn0, hn1, hm0, hm1, j0, q⟩ := h
  refine asgX (dip_run (K := K) (i := 0) (f := f + 2 * n.toNat) rfl j0 ev_int (by decide) (by decide) fun r w1 m1 j1 r0 r3 => ?_)
  have hm9 : (m + 1).natAbs < 2 ^ 9000 := Nat.lt_of_lt_of_le (show (m + 1).natAbs < 2 ^ 110 by omega) (Nat.pow_le_pow_right (by decide) (by decide))
  refine asgX (lc_jar (K := K) (p := p) (e := Rep.int) (e' := Rep.int) (l := irange 0 n) (fun i w' => Jar K w' p (f + 2 * n.toNat - i)) (fun b => 0 ≤ b ∧ b ≤ m) (ei_range1 (ev_varI rfl) (by omega)) (by rw [irange_len]; omega) (fun _ => rfl) (fun _ _ j => j.ne) (fun _ g => j1.gr g) (fun _ _ _ j g => j.gr g) (fun _ d _ _ ne j mm => j.mt mm ne) (fun i a v w' ha xw j ra Q' k' => ?_) (fun q1 l1 w2 m2 j2 n2 ne2 o2 hl2 hp2 => ?_))
  · have hi := (irange_get' ha).2
    exact dip_run (K := K) (i := 0) (f := f + 2 * n.toNat - (i + 1)) rfl (j.le (by omega)) (ev_add (ev_varI rfl) ev_int) (by omega) hm9 fun d w4 m4 j4 d0 d1 => k' _ d w4 m4 j4 rfl ⟨d0, by omega⟩
  · rw [irange_len] at hl2 j2
    obtain ⟨w3, e3, m3, rr⟩ := o2.fix
    rw [← e3]
    have m13 : Mt p w1 w3 := m2.then m3 n2
    have j3 : Jar K w3 p (f + n.toNat) := (j2.mt m3 (Ne.symm ne2)).le (by omega)
    refine q_if (K := K) (et_test (ev_eqI (ev_varI rfl) ev_int)) (fun ht w4 g4 => ?_) (fun ht w4 g4 => ?_)
    · have j4 := j3.gr g4
      refine sasgX (lc_jar (K := K) (p := p) (e := Rep.int) (e' := Rep.int) (l := l1) (fun i w' => Jar K w' p (f + n.toNat - i)) (fun b => 0 ≤ b ∧ b ≤ m) (ei_list (ev_var rfl (rp_gr g4 rr))) (by omega) (fun _ => rfl) (fun _ _ j => j.ne) (fun _ g => j4.gr g) (fun _ _ _ j g => j.gr g) (fun _ d _ _ ne j mm => j.mt mm ne) (fun i a v w' ha xw j ra Q' k' => ?_) (fun q2 l2 w5 m5 j5 n5 ne5 o5 hl5 hp5 => ?_))
      · have hi := (List.getElem?_eq_some_iff.mp ha).1
        have hal := hp2 a (List.mem_of_getElem? ha)
        cases ra
        refine ix_run (EvN.run (K := K) (r := Rep.int) (l := [0, m, a]) (en_lst (el_cons ev_int (el_cons (ev_varI rfl) (el_cons (ev_varI rfl) el_nil)))) fun pl w6 g6 n6 o6 => dip_run (K := K) (i := 0) (f := f + n.toNat - (i + 1)) rfl ((j.gr g6).le (by omega)) ev_int (by decide) (by decide) fun d w7 m7 j7 d0 d1 => ?_)
        obtain ⟨xs, ow, hp⟩ := o6.mt m7 (j.apart n6)
        rw [paired_ints hp] at ow
        have hd : d = 0 ∨ d = 1 ∨ d = 2 := by omega
        have hat : ∃ c : Int, (0 ≤ c ∧ c ≤ m) ∧ atI (([0, m, a] : List Int).map V.int) d = some (.int c) := by
          rcases hd with rfl | rfl | rfl
          · exact ⟨0, ⟨Int.le_refl _, hm0⟩, rfl⟩
          · exact ⟨m, ⟨hm0, Int.le_refl _⟩, rfl⟩
          · exact ⟨a, hal, rfl⟩
        obtain ⟨c, hc, hat⟩ := hat
        exact ⟨pl, _, d, .int c, rfl, rfl, SqL.of ow.h, hat, k' _ c w7 ((g6.mt j.ne).trans m7) j7 rfl hc⟩
      · obtain ⟨w6, e6, m6, r6⟩ := o5.fix
        rw [← e6]
        refine s_ret (K := K) (ev_var rfl r6) fun v w7 g7 r7 => ?_
        have j6 := j5.mt m6 (Ne.symm ne5)
        exact q v l2 w7 (m1.trans (m13.trans ((g4.mt j3.ne).trans ((m5.then m6 n5).trans (g7.mt j6.ne))))) ((j6.gr g7).le (by omega)) r7 (by omega) hp5
    · refine s_ret (K := K) (ev_var rfl (rp_gr g4 rr)) fun v w7 g7 r7 => ?_
      exact q v l1 w7 (m1.trans (m13.trans ((g4.trans g7).mt j3.ne))) ((j3.gr (g4.trans g7)).le (by omega)) r7 (by omega) hp2
end
end WK

namespace WK
open PySem PySem.Spec PyProof.Rows L2
/-! ### levels -/
def PreW (s : List Int) (L m : Int) : Prop := VS s L ∧ 0 ≤ m ∧ m ≤ 10 ^ 30 - 1 ∧ conf s L m = none
def spPaper (K : PySem.W.Frag) : Sp := fun vs H Q _ => ∃ (wd : Wd) (x : V) (l : List Int) (L most : Int), wd.H = H ∧ vs = [x, .int L, .int most] ∧ (Rep.list Rep.int).r K wd.S x l ∧ PreW l L most ∧
  (∀ t p w', Gr wd w' → wd.H p = none → SqT K w'.S t [.str (paper l L).1, .ref p] → OwnL K w' p Rep.int (paper l L).2 → Q (.ref t) w'.H)
section
variable {K : PySem.W.Frag} {σ : L2.St} {w w' : Wd} {ta tb tc te : TE} {t : TT} {D : Ends} {tz : TS} {p : Addr}
theorem ifX_run {b : Bool} {Q : VK} (h : EvT K t σ w b) (h1 : b = true → ∀ w', Gr w w' → ta σ w'.H Q) (h2 : b = false → ∀ w', Gr w w' → tb σ w'.H Q) : tIf t ta tb σ w.H Q := h.run fun w' g => by
  cases b with
  | true => exact h1 rfl w' g
  | false => exact h2 rfl w' g
theorem et_isRef {i : Nat} (hi : σ[i]? = some (some (.ref p))) : EvT K (tTest (tOp (fun x y H Q => y = .non ∧ Q (.bl (decide (x = .non))) H) (tVar i) (tC .non))) σ w false :=
  et_test (EvD.eq (ev_isN nn_rf (ev_var hi (show (Rep.opt Rep.rf).r K _ _ (some ()) from ⟨p, rfl⟩))) rfl)
theorem et_isNon {i : Nat} (hi : σ[i]? = some (some .non)) : EvT K (tTest (tOp (fun x y H Q => y = .non ∧ Q (.bl (decide (x = .non))) H) (tVar i) (tC .non))) σ w true :=
  et_test (EvD.eq (ev_isN nn_rf (ev_var hi (show (Rep.opt Rep.rf).r K _ _ none from rfl))) rfl)
end
section
variable {P : Program} {w : World} {K : PySem.W.Frag} {mg : Str → Option Value} {base : Heap}
theorem ok_class_ends (T : Tx K mg) : FnOk P w K mg base CX0 2 (He.ga K "class_ends") T.d_class_ends ["sums", "length"] (spD2 K (Rep.list Rep.int) Rep.int VS (Rep.pair (Rep.list Rep.int) (Rep.list Rep.int)) (fun s L => (mins s L, maxs s L))) := by
  have nd := sc_class_ends.nd
  refine okD2 T.F_class_ends sc_class_ends rfl fun cdv A outer s H E hr => ⟨_, (pss_cons (ps_set (i := 2) nd rfl (Or.inl rfl) (pe_call (ok_classes_in T) (hr.mono (by decide)) (by rfl) T.g_classes_in T.F_classes_in.kp (b_classes_in T) .nil pass0 (pa_cons (pe_call (ok_offsets_in T) (hr.mono (by decide)) (by rfl) T.g_offsets_in T.F_offsets_in.kp (b_offsets_in T) .nil pass0 (pa_cons (pv 0) (pa_cons (pv 1) pa_nil))) (pa_cons (pv 1) pa_nil))))
      (pss_one (ps_ret (pe_tup (pa_cons (pe_lc (own := [("offsets", 3)]) (g := gName 3) (tt := tYes) rfl nd (pi_list (pv 2)) (blkOk_by (own := [("offsets", 3)]) (N := ["sums", "length", "classes", "offsets"]) (sc := defScope s_class_ends) (by decide +kernel)) (fun _ _ _ _ _ => (pg_name (i := 3) nd rfl (by first | exact Or.inl rfl | exact Or.inr rfl))) (fun _ _ _ _ _ => pts_nil) (fun _ _ _ _ _ => (pe_callB (show CallR _ _ (rMin K) from (cr_min rfl)) (by rfl) T.n_min (by decide +kernel) (pa_cons (pv 3) pa_nil)))) (pa_cons (pe_lc (own := [("offsets", 3)]) (g := gName 3) (tt := tYes) rfl nd (pi_list (pv 2)) (blkOk_by (own := [("offsets", 3)]) (N := ["sums", "length", "classes", "offsets"]) (sc := defScope s_class_ends) (by decide +kernel)) (fun _ _ _ _ _ => (pg_name (i := 3) nd rfl (by first | exact Or.inl rfl | exact Or.inr rfl))) (fun _ _ _ _ _ => pts_nil) (fun _ _ _ _ _ => (pe_callB (show CallR _ _ (rMax K) from (cr_max rfl)) (by rfl) T.n_max (by decide +kernel) (pa_cons (pv 3) pa_nil)))) pa_nil)))))), fun wd x y l L Q hx hy hv q => ?_⟩
  cases hy
  have hl := hv.offs
  have h1 := hv.ne; have h2 := hv.lo; have h3 := hv.hi; have h4 := hv.days
  have hcl : (classes (offs l L) L).length ≤ 100000 := by unfold classes; rw [List.length_map, irange_len]; omega
  have hne : ∀ c ∈ classes (offs l L) L, c ≠ [] := fun c hc => by
    unfold classes at hc
    obtain ⟨r, hr, rfl⟩ := List.mem_map.mp hc
    have := irange_mem.mp hr
    exact vs_cls_ne hv this.1 this.2
  refine q_asg (K := K) (EvN.d (en_call2 (EvN.d (en_call2 (ev_var rfl hx) (ev_varI rfl) hv)) (ev_varI rfl) ⟨h2, h3, by omega⟩)) fun vc w1 g1 rc => ?_
  refine s_ret (K := K) (ev_pair (EvN.d (en_lc (e' := Rep.int) hcl minL (ei_list (ev_var rfl rc)) (fun _ => rfl) fun a v w' ha g r => ev_minL (ev_var rfl r) (hne a ha))) (EvN.d (en_lc (e' := Rep.int) hcl maxL (ei_list (ev_var rfl rc)) (fun _ => rfl) fun a v w' ha g r => ev_maxL (ev_var rfl r) (hne a ha)))) fun v w' g r => q v w' (g1.trans g) r
theorem ok_greatest_spread (T : Tx K mg) : FnOk P w K mg base CX0 3 (He.ga K "greatest_spread") T.d_greatest_spread ["sums", "length"] (spD2 K (Rep.list Rep.int) Rep.int VS Rep.int spread) := by
  have nd := sc_greatest_spread.nd
  refine okD2 T.F_greatest_spread sc_greatest_spread rfl fun cdv A outer s H E hr => ⟨_, (pss_cons (ps_asg (pe_call (ok_class_ends T) (hr.mono (by decide)) (by rfl) T.g_class_ends T.F_class_ends.kp (b_class_ends T) .nil pass0 (pa_cons (pv 0) (pa_cons (pv 1) pa_nil))) (pg_tup rfl (pgs_cons (pg_name (i := 2) nd rfl (Or.inl rfl)) (pgs_cons (pg_name (i := 3) nd rfl (Or.inl rfl)) pgs_nil))))
      (pss_one (ps_ret (pe_callB (show CallR _ _ (rMax K) from (cr_max rfl)) (by rfl) T.n_max (by decide +kernel) (pa_cons (pe_lc (own := [("low", 4), ("high", 5)]) (g := gTup K 2 (gCons (gName 4) (gCons (gName 5) gNil))) (tt := tYes) rfl nd (pi_zip (by rfl) T.n_zip (pa_cons (pv 2) (pa_cons (pv 3) pa_nil))) (blkOk_by (own := [("low", 4), ("high", 5)]) (N := ["sums", "length", "least", "greatest", "low", "high"]) (sc := defScope s_greatest_spread) (by decide +kernel)) (fun _ _ _ _ _ => (pg_tup rfl (pgs_cons (pg_name (i := 4) nd rfl (by first | exact Or.inl rfl | exact Or.inr rfl)) (pgs_cons (pg_name (i := 5) nd rfl (by first | exact Or.inl rfl | exact Or.inr rfl)) pgs_nil)))) (fun _ _ _ _ _ => pts_nil) (fun _ _ _ _ _ => (pe_op op_sub (pv 5) (pv 4)))) pa_nil))))), fun wd x y l L Q hx hy hv q => ?_⟩
  cases hy
  have h2 := hv.lo; have h3 := hv.hi
  have hlen : ((mins l L).zip (maxs l L)).length = L.toNat := by unfold mins maxs classes; simp [irange_len]
  refine q_unpack (K := K) (ev_call2 (ev_var rfl hx) (ev_varI rfl) hv) rfl fun va vb w1 g1 ra rb => ?_
  refine s_ret (K := K) (ev_maxL (EvN.d (en_lc2 (e' := Rep.int) (by show ((mins l L).zip (maxs l L)).length ≤ 100000; omega) (fun p => p.2 - p.1) (ei_zip (ev_var rfl ra) (ev_var rfl rb)) (fun _ _ => rfl) rfl fun a v v' w' ha g r r' => by
    cases r; cases r'
    exact ev_sub (ev_varI rfl) (ev_varI rfl))) (fun z => by
      have := congrArg List.length z
      rw [List.length_map, hlen, List.length_nil] at this
      omega)) fun v w' g r => q v w' (g1.trans g) r
theorem ok_middle_high (T : Tx K mg) : FnOk P w K mg base CX0 3 (He.ga K "middle_high") T.d_middle_high ["sums", "length"] (spD2 K (Rep.list Rep.int) Rep.int VS Rep.int mhigh) := by
  have nd := sc_middle_high.nd
  refine okD2 T.F_middle_high sc_middle_high rfl fun cdv A outer s H E hr => ⟨_, (pss_one (ps_ret (pe_un un_neg (pe_op op_fdivW (pe_un un_neg (pe_op op_add (pe_ix (show IxR _ (rIxL K) from ix_list) (pv 0) pe_int (fun _ _ => rfl)) (pe_callB (show CallR _ _ (rSum K) from (cr_sum rfl)) (by rfl) T.n_sum (by decide +kernel) (pa_cons (pe_ix (show IxR _ (rIxT K) from ix_tup) (pe_call (ok_class_ends T) (hr.mono (by decide)) (by rfl) T.g_class_ends T.F_class_ends.kp (b_class_ends T) .nil pass0 (pa_cons (pv 0) (pa_cons (pv 1) pa_nil))) pe_int (fun _ _ => rfl)) pa_nil)))) (pv 1))))), fun wd x y l L Q hx hy hv q => ?_⟩
  cases hy
  have h1 := hv.ne; have h2 := hv.lo; have h3 := hv.hi
  refine s_ret (K := K) (ev_neg (ev_div (ev_neg (ev_add (ev_ix (ev_var rfl hx) ev_int (atI_gI (by omega) (by omega))) (ev_sum (ev_snd (ev_call2 (ev_var rfl hx) (ev_varI rfl) hv) ev_int)))) (ev_varI rfl) (wide_div (b := 5) (by omega) (by omega) (by decide) (by decide)))) fun v w' g r => q v w' g r
theorem ok_middle_low (T : Tx K mg) : FnOk P w K mg base CX0 3 (He.ga K "middle_low") T.d_middle_low ["sums", "length"] (spD2 K (Rep.list Rep.int) Rep.int VS Rep.int mlow) := by
  have nd := sc_middle_low.nd
  refine okD2 T.F_middle_low sc_middle_low rfl fun cdv A outer s H E hr => ⟨_, (pss_one (ps_ret (pe_op op_fdivW (pe_op op_add (pe_ix (show IxR _ (rIxL K) from ix_list) (pv 0) pe_int (fun _ _ => rfl)) (pe_callB (show CallR _ _ (rSum K) from (cr_sum rfl)) (by rfl) T.n_sum (by decide +kernel) (pa_cons (pe_ix (show IxR _ (rIxT K) from ix_tup) (pe_call (ok_class_ends T) (hr.mono (by decide)) (by rfl) T.g_class_ends T.F_class_ends.kp (b_class_ends T) .nil pass0 (pa_cons (pv 0) (pa_cons (pv 1) pa_nil))) pe_int (fun _ _ => rfl)) pa_nil))) (pv 1)))), fun wd x y l L Q hx hy hv q => ?_⟩
  cases hy
  have h1 := hv.ne; have h2 := hv.lo; have h3 := hv.hi
  refine s_ret (K := K) (ev_div (ev_add (ev_ix (ev_var rfl hx) ev_int (atI_gI (by omega) (by omega))) (ev_sum (ev_fst (ev_call2 (ev_var rfl hx) (ev_varI rfl) hv) ev_int))) (ev_varI rfl) (wide_div (b := 5) (by omega) (by omega) (by decide) (by decide))) fun v w' g r => q v w' g r
theorem ok_peak_in (T : Tx K mg) : FnOk P w K mg base CX0 4 (He.ga K "peak_in") T.d_peak_in ["sums", "length", "most"] (spD3 K (Rep.list Rep.int) Rep.int Rep.int (fun s L _ => VS s L) Rep.int (fun s L _ => peakI s L)) := by
  have nd := sc_peak_in.nd
  refine okD3 T.F_peak_in sc_peak_in rfl fun cdv A outer s H E hr => ⟨_, (pss_one (ps_ret (pe_callB (call_max2 rfl) (by rfl) T.n_max (by decide +kernel) (pa_cons (pe_call (ok_greatest_spread T) (hr.mono (by decide)) (by rfl) T.g_greatest_spread T.F_greatest_spread.kp (b_greatest_spread T) .nil pass0 (pa_cons (pv 0) (pa_cons (pv 1) pa_nil))) (pa_cons (pe_call (ok_middle_high T) (hr.mono (by decide)) (by rfl) T.g_middle_high T.F_middle_high.kp (b_middle_high T) .nil pass0 (pa_cons (pv 0) (pa_cons (pv 1) pa_nil))) pa_nil))))), fun wd x y z l L m Q hx hy hz hv q => ?_⟩
  cases hy; cases hz
  exact s_ret (K := K) (ev_max2 (ev_call2 (ev_var rfl hx) (ev_varI rfl) hv) (ev_call2 (ev_var rfl hx) (ev_varI rfl) hv)) fun v w' g r => q v w' g r
theorem ok_floor_in (T : Tx K mg) : FnOk P w K mg base CX0 4 (He.ga K "floor_in") T.d_floor_in ["sums", "length", "most"] (spD3 K (Rep.list Rep.int) Rep.int Rep.int (fun s L _ => VS s L) Rep.int floorI) := by
  have nd := sc_floor_in.nd
  refine okD3 T.F_floor_in sc_floor_in rfl fun cdv A outer s H E hr => ⟨_, (pss_one (ps_ret (pe_callB (call_min2 rfl) (by rfl) T.n_min (by decide +kernel) (pa_cons (pe_op op_sub (pv 2) (pe_call (ok_greatest_spread T) (hr.mono (by decide)) (by rfl) T.g_greatest_spread T.F_greatest_spread.kp (b_greatest_spread T) .nil pass0 (pa_cons (pv 0) (pa_cons (pv 1) pa_nil)))) (pa_cons (pe_call (ok_middle_low T) (hr.mono (by decide)) (by rfl) T.g_middle_low T.F_middle_low.kp (b_middle_low T) .nil pass0 (pa_cons (pv 0) (pa_cons (pv 1) pa_nil))) pa_nil))))), fun wd x y z l L m Q hx hy hz hv q => ?_⟩
  cases hy; cases hz
  exact s_ret (K := K) (ev_min2 (ev_sub (ev_varI rfl) (ev_call2 (ev_var rfl hx) (ev_varI rfl) hv)) (ev_call2 (ev_var rfl hx) (ev_varI rfl) hv)) fun v w' g r => q v w' g r
theorem ok_least_peak (T : Tx K mg) : FnOk P w K mg base CX0 7 (He.ga K "least_peak") T.d_least_peak ["sums", "length", "most"] (spD3 K (Rep.list Rep.int) Rep.int Rep.int PreW Rep.int (fun s L _ => peakI s L)) := by
  have nd := sc_least_peak.nd
  refine okD3 T.F_least_peak sc_least_peak rfl fun cdv A outer s H E hr => ⟨_, (pss_cons (ps_expr (pe_call (ok_need_way T) (hr.mono (by decide)) (by rfl) T.g_need_way T.F_need_way.kp (b_need_way T) .nil pass0 (pa_cons (pv 0) (pa_cons (pv 1) (pa_cons (pv 2) pa_nil)))))
      (pss_one (ps_ret (pe_call (ok_peak_in T) (hr.mono (by decide)) (by rfl) T.g_peak_in T.F_peak_in.kp (b_peak_in T) .nil pass0 (pa_cons (pv 0) (pa_cons (pv 1) (pa_cons (pv 2) pa_nil))))))), fun wd x y z l L m Q hx hy hz hp q => ?_⟩
  cases hy; cases hz
  refine q_drop (K := K) (ev_call3 (ev_var rfl hx) (ev_varI rfl) (ev_varI rfl) hp) fun w1 g1 => ?_
  exact s_ret (K := K) (ev_call3 (ev_var rfl (rp_gr g1 hx)) (ev_varI rfl) (ev_varI rfl) hp.1) fun v w' g r => q v w' (g1.trans g) r
theorem ok_greatest_floor (T : Tx K mg) : FnOk P w K mg base CX0 7 (He.ga K "greatest_floor") T.d_greatest_floor ["sums", "length", "most"] (spD3 K (Rep.list Rep.int) Rep.int Rep.int PreW Rep.int floorI) := by
  have nd := sc_greatest_floor.nd
  refine okD3 T.F_greatest_floor sc_greatest_floor rfl fun cdv A outer s H E hr => ⟨_, (pss_cons (ps_expr (pe_call (ok_need_way T) (hr.mono (by decide)) (by rfl) T.g_need_way T.F_need_way.kp (b_need_way T) .nil pass0 (pa_cons (pv 0) (pa_cons (pv 1) (pa_cons (pv 2) pa_nil)))))
      (pss_one (ps_ret (pe_call (ok_floor_in T) (hr.mono (by decide)) (by rfl) T.g_floor_in T.F_floor_in.kp (b_floor_in T) .nil pass0 (pa_cons (pv 0) (pa_cons (pv 1) (pa_cons (pv 2) pa_nil))))))), fun wd x y z l L m Q hx hy hz hp q => ?_⟩
  cases hy; cases hz
  refine q_drop (K := K) (ev_call3 (ev_var rfl hx) (ev_varI rfl) (ev_varI rfl) hp) fun w1 g1 => ?_
  exact s_ret (K := K) (ev_call3 (ev_var rfl (rp_gr g1 hx)) (ev_varI rfl) (ev_varI rfl) hp.1) fun v w' g r => q v w' (g1.trans g) r
theorem ok_least_spread (T : Tx K mg) : FnOk P w K mg base CX0 7 (He.ga K "least_spread") T.d_least_spread ["sums", "length", "most"] (spD3 K (Rep.list Rep.int) Rep.int Rep.int PreW Rep.int (fun s L _ => lspread s L)) := by
  have nd := sc_least_spread.nd
  refine okD3 T.F_least_spread sc_least_spread rfl fun cdv A outer s H E hr => ⟨_, (pss_cons (ps_expr (pe_call (ok_need_way T) (hr.mono (by decide)) (by rfl) T.g_need_way T.F_need_way.kp (b_need_way T) .nil pass0 (pa_cons (pv 0) (pa_cons (pv 1) (pa_cons (pv 2) pa_nil)))))
      (pss_one (ps_ret (pe_callB (call_max2 rfl) (by rfl) T.n_max (by decide +kernel) (pa_cons (pe_call (ok_greatest_spread T) (hr.mono (by decide)) (by rfl) T.g_greatest_spread T.F_greatest_spread.kp (b_greatest_spread T) .nil pass0 (pa_cons (pv 0) (pa_cons (pv 1) pa_nil))) (pa_cons (pe_op op_sub (pe_call (ok_middle_high T) (hr.mono (by decide)) (by rfl) T.g_middle_high T.F_middle_high.kp (b_middle_high T) .nil pass0 (pa_cons (pv 0) (pa_cons (pv 1) pa_nil))) (pe_call (ok_middle_low T) (hr.mono (by decide)) (by rfl) T.g_middle_low T.F_middle_low.kp (b_middle_low T) .nil pass0 (pa_cons (pv 0) (pa_cons (pv 1) pa_nil)))) pa_nil)))))), fun wd x y z l L m Q hx hy hz hp q => ?_⟩
  cases hy; cases hz
  refine q_drop (K := K) (ev_call3 (ev_var rfl hx) (ev_varI rfl) (ev_varI rfl) hp) fun w1 g1 => ?_
  exact s_ret (K := K) (ev_max2 (ev_call2 (ev_var rfl (rp_gr g1 hx)) (ev_varI rfl) hp.1) (ev_sub (ev_call2 (ev_var rfl (rp_gr g1 hx)) (ev_varI rfl) hp.1) (ev_call2 (ev_var rfl (rp_gr g1 hx)) (ev_varI rfl) hp.1))) fun v w' g r => q v w' (g1.trans g) r
theorem ok_peak_paper (T : Tx K mg) : FnOk P w K mg base CX0 7 (He.ga K "peak_paper") T.d_peak_paper ["sums", "length", "most"] (spPaper K) := by
  have nd := sc_peak_paper.nd
  refine FunD.ok T.F_peak_paper sc_peak_paper (fun vs H Q E h => by obtain ⟨wd, x, l, L, m, _, rfl, _⟩ := h; rfl) fun cdv A outer s H vs Q E hr h => ⟨_, PSs.nox (pss_cons (ps_expr (pe_call (ok_need_way T) (hr.mono (by decide)) (by rfl) T.g_need_way T.F_need_way.kp (b_need_way T) .nil pass0 (pa_cons (pv 0) (pa_cons (pv 1) (pa_cons (pv 2) pa_nil)))))
      (pss_cons (ps_par (i := 3) (j := 4) (by rfl) nd rfl rfl (by decide) rfl rfl (pa_cons (pe_call (ok_offsets_in T) (hr.mono (by decide)) (by rfl) T.g_offsets_in T.F_offsets_in.kp (b_offsets_in T) .nil pass0 (pa_cons (pv 0) (pa_cons (pv 1) pa_nil))) (pa_cons (pe_call (ok_peak_in T) (hr.mono (by decide)) (by rfl) T.g_peak_in T.F_peak_in.kp (b_peak_in T) .nil pass0 (pa_cons (pv 0) (pa_cons (pv 1) (pa_cons (pv 2) pa_nil)))) pa_nil)) (by rfl))
      (pss_cons (ps_set (i := 5) nd rfl (Or.inl rfl) (pe_call (ok_apart_days T) (hr.mono (by decide)) (by rfl) T.g_apart_days T.F_apart_days.kp (b_apart_days T) .nil pass0 (pa_cons (pv 3) (pa_cons (pv 1) (pa_cons (pv 4) pa_nil)))))
      (pss_one (ps_ret (pe_ifExp (pt_cmpR op_isN (pv 5) pe_non (nomark _)) (pe_tup (pa_cons pe_str (pa_cons (pe_call (ok_end_days T) (hr.mono (by decide)) (by rfl) T.g_end_days T.F_end_days.kp (b_end_days T) .nil pass0 (pa_cons (pv 3) (pa_cons (pv 1) (pa_cons pe_bl pa_nil)))) pa_nil))) (pe_tup (pa_cons pe_str (pa_cons (pv 5) pa_nil))))))))), ?_⟩
  try dsimp only [cxOf]
  obtain ⟨wd, x, l, L, m, rfl, rfl, hx, hp, q⟩ := h
  have hv := hp.1
  have h1 := hv.ne; have h2 := hv.lo; have h3 := hv.hi; have h4 := hv.days
  have hl := hv.offs
  refine q_drop (K := K) (ev_call3 (ev_var rfl hx) (ev_varI rfl) (ev_varI rfl) hp) fun w1 g1 => ?_
  refine q_par (K := K) (EvN.d (en_call2 (ev_var rfl (rp_gr g1 hx)) (ev_varI rfl) hv)) (ev_call3 (ev_var rfl (rp_gr g1 hx)) (ev_varI rfl) (ev_varI rfl) hv) fun vo vp w2 g2 ro rp => ?_
  cases rp
  refine asgX (callO3_run (ev_var rfl ro) (ev_varI rfl) (ev_varI rfl) ⟨h2, h3, by omega⟩ (fun e w3 g3 => ?_) (fun d e p w3 g3 n3 o3 => ?_))
  · have hpp : paper l L = (("high" : Str), ends (offs l L) L true) := by unfold paper; rw [e]
    rw [hpp] at q
    refine retX (ifX_run (K := K) (et_isNon rfl) (fun _ w4 g4 => ?_) (fun h => nomatch h))
    refine tup2_run (EvD.run (K := K) ev_str fun v5 w5 g5 r5 => EvN.run (en_call3 (ev_var rfl (rp_gr ((g3.trans g4).trans g5) ro)) (ev_varI rfl) ev_bl ⟨h2, h3, by omega, by omega⟩) fun p w6 g6 n6 o6 => ⟨by show 2 ≤ sizeLine; decide, fun t ht => ?_⟩)
    cases r5
    have g16 := ((((g1.trans g2).trans g3).trans g4).trans g5).trans g6
    exact q t p (w6.put t _) (g16.trans (gr_put ht)) (fr_back ((((g1.trans g2).trans g3).trans g4).trans g5) n6) (SqT.of put_s) (o6.gr (gr_put ht))
  · have hpp : paper l L = (("apart" : Str), d) := by unfold paper; rw [e]
    rw [hpp] at q
    refine retX (ifX_run (K := K) (et_isRef rfl) (fun h => nomatch h) (fun _ w4 g4 => ?_))
    refine tup2_run (EvD.run (K := K) ev_str fun v5 w5 g5 r5 => ⟨_, rfl, by show 2 ≤ sizeLine; decide, fun t ht => ?_⟩)
    cases r5
    have g15 := (((g1.trans g2).trans g3).trans g4).trans g5
    exact q t p (w5.put t _) (g15.trans (gr_put ht)) (fr_back (g1.trans g2) n3) (SqT.of put_s) (((o3.gr g4).gr g5).gr (gr_put ht))
end
end WK

namespace WK
open PySem PySem.Spec PyProof.Rows L2
/-! ### what the law finds -/
def pD (x : Str × List Int) : PyData := .tuple [.str x.1, .list (x.2.map .int)]
def dueD (s : List Int) (L m : Int) : List PyData := [.int (peakI s L), .int (floorI s L m), .int (lspread s L), pD (paper s L)]
theorem dv_paper : DV (Rep.pair Rep.str (Rep.list Rep.int)) pD := dv_pair dv_str (rd_list rd_int).dv
structure PreL (s : List Int) (L m : Int) : Prop where
  w : PreW s L m
  x : ∃ x, Way s x L m
theorem way_bd {s x : List Int} {L m : Int} (y : Way s x L m) (v : VS s L) {i : Int} (h0 : 0 ≤ i) (h : i < (offs s L).length) : (gI (offs s L) i).natAbs ≤ m.natAbs := by
  have hl := v.offs; have hy := y.len; have h1 := v.lo; have h2 := v.ne
  rw [offs_way y v h0 (by omega)]
  have m0 := Int.emod_nonneg i (show L ≠ 0 by omega)
  have m1 := Int.emod_lt_of_pos i (show 0 < L by omega)
  have a := y.at (i := i) h0 (by omega)
  have b := y.at (i := i % L) m0 (by omega)
  omega
section
variable {s x : List Int} {L m : Int}
theorem lev_rg (y : Way s x L m) (v : VS s L) : 0 ≤ spread s L ∧ spread s L ≤ m ∧ 0 ≤ mhigh s L ∧ mhigh s L ≤ m ∧ 0 ≤ mlow s L ∧ mlow s L ≤ m := by
  have hl := v.offs; have hy := y.len; have h1 := v.lo; have h2 := v.ne
  have hat : ∀ hi r, 0 ≤ r → r < L → 0 ≤ gI x (endDay (offs s L) L hi r) ∧ gI x (endDay (offs s L) L hi r) ≤ m := fun hi r h3 h4 => by
    obtain ⟨a, b, _⟩ := end_spec (o := offs s L) (hi := hi) h1 h3 h4 (by omega)
    exact y.at a (by omega)
  have hn : L = (L.toNat : Int) := by omega
  have tot : ∀ hi, 0 ≤ gI s 0 + ((classes (offs s L) L).map (exV hi)).sum ∧ gI s 0 + ((classes (offs s L) L).map (exV hi)).sum ≤ L * m := fun hi => by
    have e := total_way (hi := hi) y v
    unfold totalIn at e
    rw [sum_exV h1 (by omega)] at e
    rw [e, show isum (fun r => gI x (endDay (offs s L) L hi r)) L = isum (fun r => gI x (endDay (offs s L) L hi r)) (L.toNat : Int) by rw [← hn]]
    have a := isum_le (f := fun r => gI x (endDay (offs s L) L hi r)) (b := m) (n := L.toNat) fun i a b => (hat hi i a (by omega)).2
    have b := isum_nonneg (f := fun r => gI x (endDay (offs s L) L hi r)) (n := L.toNat) fun i a b => (hat hi i a (by omega)).1
    refine ⟨b, ?_⟩
    rw [show L * m = (L.toNat : Int) * m by rw [← hn]]
    exact a
  have t1 := tot true
  have t2 := tot false
  have hs : 0 ≤ spread s L ∧ spread s L ≤ m := by
    obtain ⟨i, j, a, b, c, d, e, f⟩ := spread_at v
    rw [← f]
    have xa := y.at (i := i) a (by omega)
    have xb := y.at (i := j) c (by omega)
    rw [offs_way y v a (by omega), offs_way y v c (by omega), e]
    omega
  have ediv : ∀ a : Int, 0 ≤ a → a ≤ L * m → 0 ≤ a / L ∧ a / L ≤ m := fun a x0 x1 => ⟨Int.ediv_nonneg x0 (by omega), Int.le_of_mul_le_mul_left (a := L) (Int.le_trans (Int.mul_ediv_self_le (by omega)) x1) (by omega)⟩
  have hh : 0 ≤ mhigh s L ∧ mhigh s L ≤ m := by
    unfold mhigh
    have e : (maxs s L).sum = ((classes (offs s L) L).map (exV true)).sum := rfl
    rw [e]
    generalize gI s 0 + ((classes (offs s L) L).map (exV true)).sum = a at t1
    refine ⟨?_, ?_⟩
    · have : -a / L ≤ 0 := Int.ediv_nonpos_of_nonpos_of_neg (by omega) (by omega)
      omega
    · have : -m ≤ -a / L := (Int.le_ediv_iff_mul_le (by omega)).mpr (by rw [Int.neg_mul, Int.mul_comm]; omega)
      omega
  have hw : 0 ≤ mlow s L ∧ mlow s L ≤ m := ediv _ t2.1 t2.2
  exact ⟨hs.1, hs.2, hh.1, hh.2, hw.1, hw.2⟩
end
section
variable {K : PySem.W.Frag} {σ : L2.St} {w w' : Wd} {ta tb tc te : TE} {α β γ : Type} {r : Rep α} {rb : Rep β} {rc : Rep γ} {a : α} {b : β} {c : γ} {D : Ends} {tz : TS} {p t : Addr}
theorem q_par3 {i j l : Nat} (h : EvD K ta σ w r a) (h2 : EvD K tb σ w rb b) (h3 : EvD K tc σ w rc c) (k : ∀ v v' v'' w', Gr w w' → r.r K w'.S v a → rb.r K w'.S v' b → rc.r K w'.S v'' c → tz D (((σ.set i (some v)).set j (some v')).set l (some v'')) w'.H) :
    tSeq (tPar3 i j l (tCons ta (tCons tb (tCons tc tNil)))) tz D σ w.H :=
  h w (Gr.refl _) _ fun v w2 g2 x => h2 w2 g2 _ fun v' w3 g3 y => h3 w3 (g2.trans g3) _ fun v'' w4 g4 z => ⟨v, v', v'', rfl, k v v' v'' w4 ((g2.trans g3).trans g4) (r.m (g3.trans g4).s x) (rb.m g4.s y) z⟩
theorem q_tup3 {i j l n : Nat} (h : EvD K ta σ w r a) (h2 : EvD K tb σ w rb b) (h3 : EvD K tc σ w rc c) (hn : n = 3) (k : ∀ v v' v'' w', Gr w w' → r.r K w'.S v a → rb.r K w'.S v' b → rc.r K w'.S v'' c → tz D (((σ.set i (some v)).set j (some v')).set l (some v'')) w'.H) :
    tSeq (tAsg (tTup (tCons ta (tCons tb (tCons tc tNil)))) (gTup K n (gCons (gName i) (gCons (gName j) (gCons (gName l) gNil))))) tz D σ w.H :=
  h w (Gr.refl _) _ fun x w2 g2 rx => h2 w2 g2 _ fun y w3 g3 ry => h3 w3 (g2.trans g3) _ fun z w4 g4 rz => ⟨by show 3 ≤ sizeLine; decide, fun p hp => ⟨p, [x, y, z], rfl, SqT.of upd_same, hn.symm, x, [y, z], rfl, y, [z], rfl, z, [], rfl, rfl,
    k x y z (w4.put p _) (((g2.trans g3).trans g4).trans (gr_put hp)) (r.m ((g3.trans g4).trans (gr_put hp)).s rx) (rb.m (g4.trans (gr_put hp)).s ry) (rc.m (gr_put hp).s rz)⟩⟩
theorem q_appT {i : Nat} {u : V} {xs : List V} (hi : σ[i]? = some (some (.ref t))) (ht : SqT K w.S t [u, .ref p]) (o : OwnL K w p Rep.raw xs) (hz : xs.length < 100000) (k : ∀ w', Mt p w w' → tz D σ w'.H) :
    tSeq (tDrop (tBM K "list" rAppend (tOp (rIxT K) (tVar i) (tC (.int 1))) (tCons (tC .non) tNil))) tz D σ w.H := by
  obtain ⟨ys, ow, hp⟩ := id o
  exact ⟨_, hi, t, [u, .ref p], 1, .ref p, rfl, rfl, Evl.ex_t w.ex ht, rfl, .inl ⟨rfl, _, SqL.of ow.h⟩, app_core (Q := fun _ H => tz D σ H) (a := V.non) o rfl hz fun w' m _ => k w' m⟩
theorem eqD_run {H : Hp} {Q : VK} (h : ta σ H fun x H1 => tb σ H1 fun y H2 => rEqD K x y H2 Q) : tOp (rEqD K) ta tb σ H Q := h
theorem call3R {sp : Sp} {E : XK} {t0 t1 t2 : TE} {H : Hp} {Q : VK} (h : t0 σ H fun a H1 => t1 σ H1 fun b H2 => t2 σ H2 fun c H3 => sp [c, b, a] H3 Q E) : tCallR sp E (tCons t0 (tCons t1 (tCons t2 tNil))) σ H Q := h
end
theorem fold_mem {f : Int → Int} : ∀ (l : List Int) (b : Int), l.foldl (fun b one => if f b < f one then one else b) b ∈ b :: l
  | [], b => by simp
  | a :: t, b => by
    simp only [List.foldl_cons]
    have := fold_mem t (if f b < f a then a else b) (f := f)
    rcases List.mem_cons.mp this with e | h
    · rw [e]; split
      · exact List.mem_cons_of_mem _ List.mem_cons_self
      · exact List.mem_cons_self
    · exact List.mem_cons_of_mem _ (List.mem_cons_of_mem _ h)
theorem findSome_take {α β : Type} {f : α → Option β} {l : List α} {i : Nat} {a : α} (h : l[i]? = some a) : (l.take (i + 1)).findSome? f = ((l.take i).findSome? f).or (f a) := by
  rw [List.take_add_one, h, List.findSome?_append]; simp
theorem fold_take {α β : Type} {f : β → α → β} {l : List α} {i : Nat} {a : α} {b : β} (h : l[i]? = some a) : (l.take (i + 1)).foldl f b = f ((l.take i).foldl f b) a := by
  rw [List.take_add_one, h, List.foldl_append]; rfl
section
variable {P : Program} {w : World} {K : PySem.W.Frag} {mg : Str → Option Value} {base : Heap}
theorem ok__law_gaps (T : Tx K mg) : FnOk P w K mg base CX0 1 (He.ga K "_law_gaps") T.d__law_gaps ["sums_here", "size"] (spN2 K (Rep.list Rep.int) Rep.int VS Rep.int offs) := by
  have nd := sc__law_gaps.nd
  refine okN2 T.F__law_gaps sc__law_gaps rfl fun cdv A outer s H E hr => ⟨_, (pss_cons (ps_set (i := 2) nd rfl (Or.inl rfl) (pe_op op_rep (pe_lst (pa_cons pe_int pa_nil)) (pv 1)))
      (pss_cons (ps_for PassesOwn.never rfl (pi_range1 (by rfl) T.n_range (pa_cons (pe_op op_sub (pe_callB (show CallR _ _ (Evl.rLenS K) from call_len_seq) (by rfl) T.n_len (by decide +kernel) (pa_cons (pv 0) pa_nil)) pe_int) pa_nil)) (pg_name (i := 3) nd rfl (Or.inl rfl)) (pss_cons (ps_set (i := 4) nd rfl (Or.inl rfl) (pe_op op_sub (pe_ix (show IxR _ (rIxL K) from ix_list) (pv 0) (pe_op op_add (pv 3) pe_int) (fun _ _ => rfl)) (pe_ix (show IxR _ (rIxL K) from ix_list) (pv 0) (pv 3) (fun _ _ => rfl))))
      (pss_one (ps_expr (pe_bm PySem.F.plainAttrs_list PySem.F.slot_list_append PySem.F.type_list_append mt_append (pv 2) (pa_cons (pe_op op_add (pe_ix (show IxR _ (rIxL K) from ix_list) (pv 2) (pe_un un_neg (pv 1)) (fun _ _ => rfl)) (pv 4)) pa_nil))))))
      (pss_one (ps_ret (pv 2))))), fun wd x y l L Q hx hy hp q => ?_⟩
  cases hy
  have h1 := hp.ne; have h2 := hp.lo; have h3 := hp.hi; have h4 := hp.days
  refine q_asgN (K := K) (en_rep (en_lst (el_cons ev_int el_nil)) (ev_varI rfl) ⟨by omega, by simp; omega, by omega⟩) fun p w1 g1 n1 o1 => ?_
  have e0 : (List.replicate L.toNat ([0] : List Int)).flatten = offsK l L.toNat 0 := by
    unfold offsK; simp
  rw [e0] at o1
  refine q_for (K := K) (ei_range1 (ev_sub (ev_len (ev_var rfl (rp_gr g1 hx))) ev_int) (by omega)) (fun i σ z => ∃ y1 y2 : Option V, σ = [some x, some (.int L), some (.ref p), y1, y2] ∧ GrC wd z ∧ OwnL K z p Rep.int (offsK l L.toNat i)) (fun z g => ⟨none, none, rfl, ⟨g1.trans g⟩, o1.gr g⟩) ?_ ?_
  · intro i a v σ z z2 ha hxz hI gz hra
    obtain ⟨y1, y2, rfl, cz, oz⟩ := hI
    cases hra
    obtain ⟨rfl, hi⟩ := irange_get' ha
    have hr2 := rp_gr gz (rp_gr cz.g hx)
    have hlen : (offsK l L.toNat i).length = L.toNat + i := offsK_len
    refine q_asg (K := K) (ev_sub (ev_ix (ev_var rfl hr2) (ev_add (ev_varI rfl) ev_int) (atI_gI (by omega) (by omega))) (ev_ix (ev_var rfl hr2) (ev_varI rfl) (atI_gI (by omega) (by omega)))) fun vs z3 g3 r3 => ?_
    cases r3
    have o3 := (oz.gr gz).gr g3
    have hat : atI (offsK l L.toNat i) (-L) = some ((offsK l L.toNat i).getD i 0) := by
      have := atI_neg (l := offsK l L.toNat i) (j := L.toNat) (x := (offsK l L.toNat i).getD i 0) (by omega) (by rw [hlen, show L.toNat + i - L.toNat = i by omega]; exact getD_some (by omega)) (by omega)
      rwa [Int.toNat_of_nonneg (by omega)] at this
    refine s_app (K := K) o3 rfl (ev_add (ev_ixO o3 rfl (ev_neg (ev_varI rfl)) hat) (ev_varI rfl)) (by omega) fun w4 m4 o4 => ?_
    dsimp only
    refine nxt ?_ ?_
    · exact (gz.trans g3).s.trans m4.s
    · refine ⟨_, _, rfl, gc_mt (gc_gr cz (gz.trans g3)) m4 n1, ?_⟩
      rw [offsK_succ]
      have e : (offsK l L.toNat i).getD i 0 + (gI l (0 + (i : Int) + 1) - gI l (0 + (i : Int))) = (offsK l L.toNat i).getD i 0 + l.getD (i + 1) 0 - l.getD i 0 := by
        unfold gI
        rw [show (0 + (i : Int) + 1).toNat = i + 1 by omega, show (0 + (i : Int)).toNat = i by omega]
        omega
      rw [e] at o4
      exact o4
  · intro σ z hxz hI
    obtain ⟨y1, y2, rfl, cz, oz⟩ := hI
    refine s_retO rfl ?_
    refine q p z cz.g n1 ?_
    rw [irange_len] at oz
    unfold offs
    rw [show ((l.length : Int) - 1 - 0).toNat = l.length - 1 by omega] at oz
    exact oz
theorem ok__law_ends (T : Tx K mg) : FnOk P w K mg base CX0 1 (He.ga K "_law_ends") T.d__law_ends ["gaps", "size", "sign"] (spN3 K (Rep.list Rep.int) Rep.int Rep.int (fun o L sg => 1 ≤ L ∧ L ≤ 8 ∧ L ≤ o.length ∧ o.length ≤ 1000 ∧ sg.natAbs ≤ 1 ∧ ∀ i : Int, 0 ≤ i → i < o.length → (gI o i).natAbs < 2 ^ 200) Rep.int lends) := by
  have nd := sc__law_ends.nd
  refine okN3 T.F__law_ends sc__law_ends rfl fun cdv A outer s H E hr => ⟨_, (pss_cons (ps_set (i := 3) nd rfl (Or.inl rfl) (pe_lst pa_nil))
      (pss_cons (ps_for PassesOwn.never rfl (pi_range1 (by rfl) T.n_range (pa_cons (pv 1) pa_nil)) (pg_name (i := 4) nd rfl (Or.inl rfl)) (pss_cons (ps_set (i := 5) nd rfl (Or.inl rfl) (pv 4))
      (pss_cons (ps_for PassesOwn.never rfl (pi_range3 (by rfl) T.n_range (pa_cons (pv 4) (pa_cons (pe_callB (show CallR _ _ (Evl.rLenS K) from call_len_seq) (by rfl) T.n_len (by decide +kernel) (pa_cons (pv 0) pa_nil)) (pa_cons (pv 1) pa_nil)))) (pg_name (i := 6) nd rfl (Or.inl rfl)) (pss_one (ps_if (pt_cmpR op_gt (pe_op op_mulW (pv 2) (pe_ix (show IxR _ (rIxL K) from ix_list) (pv 0) (pv 6) (fun _ _ => rfl))) (pe_op op_mulW (pv 2) (pe_ix (show IxR _ (rIxL K) from ix_list) (pv 0) (pv 5) (fun _ _ => rfl))) (nomark _)) (pss_one (ps_set (i := 5) nd rfl (Or.inl rfl) (pv 6))) pss_nil)))
      (pss_one (ps_expr (pe_bm PySem.F.plainAttrs_list PySem.F.slot_list_append PySem.F.type_list_append mt_append (pv 3) (pa_cons (pv 5) pa_nil)))))))
      (pss_one (ps_ret (pe_callB (show CallR _ _ (rSortedI K) from cr_sortedI) (by rfl) T.n_sorted (by decide +kernel) (pa_cons (pv 3) pa_nil)))))), fun wd x y z o L sg Q hx hy hz hp q => ?_⟩
  cases hy; cases hz
  obtain ⟨hL, hL8, hLo, hlo, hsg, hbd⟩ := hp
  have hmul : ∀ i : Int, 0 ≤ i → i < o.length → CMulW sg (gI o i) := fun i h0 h1 => wide_mul (a := 2) (b := 200) (by omega) (hbd i h0 h1) (by decide) (by decide) (by decide)
  refine q_asgN (K := K) (en_lst (e := Rep.int) el_nil) fun p w1 g1 n1 o1 => ?_
  refine q_for (K := K) (ei_range1 (ev_varI rfl) (by omega)) (fun i σ z => ∃ y1 y2 y3 : Option V, σ = [some x, some (.int L), some (.int sg), some (.ref p), y1, y2, y3] ∧ GrC wd z ∧ OwnL K z p Rep.int (((irange 0 L).map (lendU o L sg)).take i)) (fun z g => ⟨none, none, none, rfl, ⟨g1.trans g⟩, o1.gr g⟩) ?_ ?_
  · intro i a v σ z z2 ha hxz hI gz hra
    obtain ⟨y1, y2, y3, rfl, cz, oz⟩ := hI
    cases hra
    have ham := irange_mem.mp (List.mem_of_getElem? ha)
    refine q_asg (K := K) (ev_varI rfl) fun v0 z3 g3 r3 => ?_
    cases r3
    refine q_for (K := K) (ei_srange (ev_varI rfl) (ev_len (ev_var rfl (rp_gr (cz.g.trans (gz.trans g3)) hx))) (ev_varI rfl) (by omega) (by omega) (by omega)) (fun m σ u => ∃ y3 : Option V, σ = [some x, some (.int L), some (.int sg), some (.ref p), some (.int a), some (.int (((srange a o.length L).take m).foldl (fun b one => if sg * gI o b < sg * gI o one then one else b) a)), y3] ∧ GrC wd u ∧ Gr z u) (fun u g => ⟨y3, rfl, ⟨((cz.g.trans gz).trans g3).trans g⟩, (gz.trans g3).trans g⟩) ?_ ?_
    · intro m b v σ u u2 hb hxu hI gu hrb
      obtain ⟨y3, rfl, cu, gzu⟩ := hI
      cases hrb
      have inr : ∀ c, c ∈ srange a o.length L → 0 ≤ c ∧ c < o.length := fun c hc => by
        obtain ⟨k, e, hlt⟩ := (srange_mem hL).mp hc
        have := Int.mul_nonneg (show (0 : Int) ≤ k by omega) (show 0 ≤ L by omega)
        omega
      have hbm := inr b (List.mem_of_getElem? hb)
      have hst := fold_take (f := fun b one => if sg * gI o b < sg * gI o one then one else b) (b := a) hb
      have hcm : 0 ≤ ((srange a o.length L).take m).foldl (fun b one => if sg * gI o b < sg * gI o one then one else b) a ∧ ((srange a o.length L).take m).foldl (fun b one => if sg * gI o b < sg * gI o one then one else b) a < o.length := by
        rcases List.mem_cons.mp (fold_mem (f := fun y => sg * gI o y) ((srange a o.length L).take m) a) with e | h
        · have e : ((srange a o.length L).take m).foldl (fun b one => if sg * gI o b < sg * gI o one then one else b) a = a := e
          rw [e]; omega
        · exact inr _ (List.mem_of_mem_take h)
      generalize ((srange a o.length L).take m).foldl (fun b one => if sg * gI o b < sg * gI o one then one else b) a = c at hst hcm ⊢
      have hr2 := rp_gr (cu.g.trans gu) hx
      refine s_when (K := K) (et_test (ev_gt (ev_mul (ev_varI rfl) (ev_ix (ev_var rfl hr2) (ev_varI rfl) (atI_gI (by omega) (by omega))) (hmul b hbm.1 hbm.2)) (ev_mul (ev_varI rfl) (ev_ix (ev_var rfl hr2) (ev_varI rfl) (atI_gI (by omega) (by omega))) (hmul c hcm.1 hcm.2)))) (fun ht u3 g3 => ?_) (fun ht u3 g3 => ?_)
      · refine s_asg (K := K) (ev_varI rfl) fun v4 u4 g4 r4 => ?_
        cases r4
        dsimp only
        refine nxt ?_ ?_
        · exact ((gu.trans g3).trans g4).s
        · exact ⟨some (.int b), by rw [hst, if_pos (of_decide_eq_true ht)]; rfl, ⟨cu.g.trans ((gu.trans g3).trans g4)⟩, gzu.trans ((gu.trans g3).trans g4)⟩
      · dsimp only
        refine nxt ?_ ?_
        · exact (gu.trans g3).s
        · exact ⟨some (.int b), by rw [hst, if_neg (of_decide_eq_false ht)]; rfl, ⟨cu.g.trans (gu.trans g3)⟩, gzu.trans (gu.trans g3)⟩
    · intro σ u hxu hI
      obtain ⟨y3, rfl, cu, gzu⟩ := hI
      rw [List.take_length]
      have hs : ((irange 0 L).map (lendU o L sg))[i]? = some (lendU o L sg a) := by rw [List.getElem?_map, ha]; rfl
      refine s_app (K := K) (oz.gr gzu) rfl (ev_varI rfl) (by rw [List.length_take, List.length_map, irange_len]; omega) fun w4 m4 o4 => ?_
      dsimp only
      refine nxt ?_ ?_
      · exact gzu.s.trans m4.s
      · refine ⟨_, _, _, rfl, gc_mt cu m4 n1, ?_⟩
        rw [List.take_add_one, hs]
        exact o4
  · intro σ z hxz hI
    obtain ⟨y1, y2, y3, rfl, cz, oz⟩ := hI
    have : (irange 0 L).length = ((irange 0 L).map (lendU o L sg)).length := by rw [List.length_map]
    rw [this, List.take_length] at oz
    exact s_retN (K := K) (en_sortV oz rfl) fun p2 w2 g2 n2 o2 => q p2 w2 (cz.g.trans g2) (fr_back cz.g n2) o2
theorem ok__law_due (T : Tx K mg) : FnOk P w K mg base CX0 2 (He.ga K "_law_due") T.d__law_due ["sums_here", "size", "top"] (spD3 K (Rep.list Rep.int) Rep.int Rep.int PreL (Rep.list Rep.dat) dueD) := by
  have nd := sc__law_due.nd
  refine okD3 T.F__law_due sc__law_due rfl fun cdv A outer s H E hr => ⟨_, (pss_cons (ps_asg (pe_tup (pa_cons (pe_call (ok__law_gaps T) (hr.mono (by decide)) (by rfl) T.g__law_gaps T.F__law_gaps.kp (b__law_gaps T) .nil pass0 (pa_cons (pv 0) (pa_cons (pv 1) pa_nil))) (pa_cons pe_int (pa_cons pe_non pa_nil)))) (pg_tup rfl (pgs_cons (pg_name (i := 3) nd rfl (Or.inr rfl)) (pgs_cons (pg_name (i := 4) nd rfl (Or.inl rfl)) (pgs_cons (pg_name (i := 5) nd rfl (Or.inl rfl)) pgs_nil)))))
      (pss_cons (ps_for PassesOwn.never rfl (pi_range1 (by rfl) T.n_range (pa_cons (pe_callB (show CallR _ _ (Evl.rLenS K) from call_len_seq) (by rfl) T.n_len (by decide +kernel) (pa_cons (pv 3) pa_nil)) pa_nil)) (pg_name (i := 6) nd rfl (Or.inl rfl)) (pss_one (ps_for PassesOwn.never rfl (pi_range3 (by rfl) T.n_range (pa_cons (pe_op op_add (pv 6) (pv 1)) (pa_cons (pe_callB (show CallR _ _ (Evl.rLenS K) from call_len_seq) (by rfl) T.n_len (by decide +kernel) (pa_cons (pv 3) pa_nil)) (pa_cons (pv 1) pa_nil)))) (pg_name (i := 7) nd rfl (Or.inl rfl)) (pss_one (ps_set (i := 4) nd rfl (Or.inl rfl) (pe_callB (call_max2 rfl) (by rfl) T.n_max (by decide +kernel) (pa_cons (pv 4) (pa_cons (pe_callB call_abs (by rfl) T.n_abs (by decide +kernel) (pa_cons (pe_op op_sub (pe_ix (show IxR _ (rIxL K) from ix_list) (pv 3) (pv 7) (fun _ _ => rfl)) (pe_ix (show IxR _ (rIxL K) from ix_list) (pv 3) (pv 6) (fun _ _ => rfl))) pa_nil)) pa_nil))))))))
      (pss_cons (ps_par (i := 8) (j := 9) (by rfl) nd rfl rfl (by decide) rfl rfl (pa_cons (pe_call (ok__law_ends T) (hr.mono (by decide)) (by rfl) T.g__law_ends T.F__law_ends.kp (b__law_ends T) .nil pass0 (pa_cons (pv 3) (pa_cons (pv 1) (pa_cons pe_int pa_nil)))) (pa_cons (pe_call (ok__law_ends T) (hr.mono (by decide)) (by rfl) T.g__law_ends T.F__law_ends.kp (b__law_ends T) .nil pass0 (pa_cons (pv 3) (pa_cons (pv 1) (pa_cons (pe_un un_neg pe_int) pa_nil)))) pa_nil)) (by rfl))
      (pss_cons (ps_set (i := 10) nd rfl (Or.inl rfl) (pe_op op_fdivW (pe_op op_sub (pe_op op_add (pe_op op_add (pe_ix (show IxR _ (rIxL K) from ix_list) (pv 0) pe_int (fun _ _ => rfl)) (pe_callB (show CallR _ _ (rSum K) from (cr_sum rfl)) (by rfl) T.n_sum (by decide +kernel) (pa_cons (pe_lc (own := [("one", 6)]) (g := gName 6) (tt := tYes) rfl nd (pi_list (pv 8)) (blkOk_by (own := [("one", 6)]) (N := ["sums_here", "size", "top", "gaps", "wide", "pair_here", "one", "two", "high_days", "low_days", "high", "low", "peak", "paper"]) (sc := defScope s__law_due) (by decide +kernel)) (fun _ _ _ _ _ => (pg_name (i := 6) nd rfl (by first | exact Or.inl rfl | exact Or.inr rfl))) (fun _ _ _ _ _ => pts_nil) (fun _ _ _ _ _ => (pe_ix (show IxR _ (rIxL K) from ix_list) (pv 3) (pv 6) (fun _ _ => rfl)))) pa_nil))) (pv 1)) pe_int) (pv 1)))
      (pss_cons (ps_set (i := 11) nd rfl (Or.inl rfl) (pe_op op_fdivW (pe_op op_add (pe_ix (show IxR _ (rIxL K) from ix_list) (pv 0) pe_int (fun _ _ => rfl)) (pe_callB (show CallR _ _ (rSum K) from (cr_sum rfl)) (by rfl) T.n_sum (by decide +kernel) (pa_cons (pe_lc (own := [("one", 6)]) (g := gName 6) (tt := tYes) rfl nd (pi_list (pv 9)) (blkOk_by (own := [("one", 6)]) (N := ["sums_here", "size", "top", "gaps", "wide", "pair_here", "one", "two", "high_days", "low_days", "high", "low", "peak", "paper"]) (sc := defScope s__law_due) (by decide +kernel)) (fun _ _ _ _ _ => (pg_name (i := 6) nd rfl (by first | exact Or.inl rfl | exact Or.inr rfl))) (fun _ _ _ _ _ => pts_nil) (fun _ _ _ _ _ => (pe_ix (show IxR _ (rIxL K) from ix_list) (pv 3) (pv 6) (fun _ _ => rfl)))) pa_nil))) (pv 1)))
      (pss_cons (ps_set (i := 12) nd rfl (Or.inl rfl) (pe_callB (call_max2 rfl) (by rfl) T.n_max (by decide +kernel) (pa_cons (pv 4) (pa_cons (pv 10) pa_nil))))
      (pss_cons (ps_for PassesOwn.never rfl (pi_range1 (by rfl) T.n_range (pa_cons (pe_callB (show CallR _ _ (Evl.rLenS K) from call_len_seq) (by rfl) T.n_len (by decide +kernel) (pa_cons (pv 3) pa_nil)) pa_nil)) (pg_name (i := 6) nd rfl (Or.inl rfl)) (pss_one (ps_for PassesOwn.never rfl (pi_range3 (by rfl) T.n_range (pa_cons (pe_op op_add (pv 6) (pv 1)) (pa_cons (pe_callB (show CallR _ _ (Evl.rLenS K) from call_len_seq) (by rfl) T.n_len (by decide +kernel) (pa_cons (pv 3) pa_nil)) (pa_cons (pv 1) pa_nil)))) (pg_name (i := 7) nd rfl (Or.inl rfl)) (pss_one (ps_if (PW.pt (pw_and (pt_cmpR op_isN (pv 5) pe_non (nomark _)) (pw_and1 (pt_cmpR op_eq (pe_callB call_abs (by rfl) T.n_abs (by decide +kernel) (pa_cons (pe_op op_sub (pe_ix (show IxR _ (rIxL K) from ix_list) (pv 3) (pv 7) (fun _ _ => rfl)) (pe_ix (show IxR _ (rIxL K) from ix_list) (pv 3) (pv 6) (fun _ _ => rfl))) pa_nil)) (pv 12) (nomark _))))) (pss_one (ps_set (i := 5) nd rfl (Or.inl rfl) (pe_lst (pa_cons (pv 6) (pa_cons (pv 7) pa_nil))))) pss_nil)))))
      (pss_cons (ps_set (i := 13) nd rfl (Or.inl rfl) (pe_ifExp (pt_cmpR op_isN (pv 5) pe_non (nomark _)) (pe_tup (pa_cons pe_str (pa_cons (pv 8) pa_nil))) (pe_tup (pa_cons pe_str (pa_cons (pv 5) pa_nil)))))
      (pss_one (ps_ret (pe_lst (pa_cons (pv 12) (pa_cons (pe_callB (call_min2 rfl) (by rfl) T.n_min (by decide +kernel) (pa_cons (pe_op op_sub (pv 2) (pv 4)) (pa_cons (pv 11) pa_nil))) (pa_cons (pe_callB (call_max2 rfl) (by rfl) T.n_max (by decide +kernel) (pa_cons (pv 4) (pa_cons (pe_op op_sub (pv 10) (pv 11)) pa_nil))) (pa_cons (pv 13) pa_nil))))))))))))))), fun wd x y z l L m Q hx hy hz hp q => ?_⟩
  cases hy; cases hz
  have hv := hp.w.1
  obtain ⟨xs, hw⟩ := hp.x
  have h1 := hv.ne; have h2 := hv.lo; have h3 := hv.hi; have h4 := hv.days
  have hl := hv.offs
  have hm1 := hp.w.2.2.1
  have hm0 := hp.w.2.1
  have hbd : ∀ i : Int, 0 ≤ i → i < (offs l L).length → (gI (offs l L) i).natAbs < 2 ^ 200 := fun i a b => Nat.lt_of_le_of_lt (way_bd hw hv a b) (Nat.lt_of_lt_of_le (show m.natAbs < 2 ^ 110 by omega) (Nat.pow_le_pow_right (by decide) (by decide)))
  refine q_tup3 (K := K) (EvN.d (en_call2 (ev_var rfl hx) (ev_varI rfl) hv)) ev_int ev_non rfl fun vo v0 vn w1 g1 ro r0 rn => ?_
  cases r0; cases rn
  have inr : ∀ a b : Int, 0 ≤ a → b ∈ srange (a + L) (offs l L).length L → 0 ≤ b ∧ b < (offs l L).length := fun a b h0 hb => by
    obtain ⟨k, e, hlt⟩ := (srange_mem h2).mp hb
    have := Int.mul_nonneg (show (0 : Int) ≤ k by omega) (show 0 ≤ L by omega)
    omega
  -- the greatest distance
  refine q_for (K := K) (ei_range1 (ev_len (ev_var rfl ro)) (by omega)) (fun i σ z => ∃ y6 y7 y8 y9 y10 y11 y12 y13 : Option V, σ = [some x, some (.int L), some (.int m), some vo, some (.int (((irange 0 (offs l L).length).take i).foldl (fun w i => (srange (i + L) (offs l L).length L).foldl (fun w j => max w ((gI (offs l L) j - gI (offs l L) i).natAbs : Int)) w) 0)), some .non, y6, y7, y8, y9, y10, y11, y12, y13] ∧ Gr w1 z) (fun z g => ⟨none, none, none, none, none, none, none, none, rfl, g⟩) ?_ ?_
  · intro i a v σ z z2 ha hxz hI gz hra
    obtain ⟨y6, y7, y8, y9, y10, y11, y12, y13, rfl, cz⟩ := hI
    cases hra
    have ham := irange_mem.mp (List.mem_of_getElem? ha)
    have hst := fold_take (f := fun w i => (srange (i + L) (offs l L).length L).foldl (fun w j => max w ((gI (offs l L) j - gI (offs l L) i).natAbs : Int)) w) (b := (0 : Int)) ha
    generalize ((irange 0 (offs l L).length).take i).foldl (fun w i => (srange (i + L) (offs l L).length L).foldl (fun w j => max w ((gI (offs l L) j - gI (offs l L) i).natAbs : Int)) w) 0 = W at hst ⊢
    refine s_for (K := K) (ei_srange (ev_add (ev_varI rfl) (ev_varI rfl)) (ev_len (ev_var rfl (rp_gr (cz.trans gz) ro))) (ev_varI rfl) (by omega) (by omega) (by omega)) (fun n σ u => ∃ y7 : Option V, σ = [some x, some (.int L), some (.int m), some vo, some (.int (((srange (a + L) (offs l L).length L).take n).foldl (fun w j => max w ((gI (offs l L) j - gI (offs l L) a).natAbs : Int)) W)), some .non, some (.int a), y7, y8, y9, y10, y11, y12, y13] ∧ Gr w1 u) (fun u g => ⟨y7, rfl, (cz.trans gz).trans g⟩) ?_ ?_
    · intro n b v σ u u2 hb hxu hI gu hrb
      obtain ⟨y7, rfl, cu⟩ := hI
      cases hrb
      have hbm := inr a b ham.1 (List.mem_of_getElem? hb)
      have hst2 := fold_take (f := fun w j => max w ((gI (offs l L) j - gI (offs l L) a).natAbs : Int)) (b := W) hb
      have hr2 := rp_gr (cu.trans gu) ro
      refine s_asg (K := K) (ev_max2 (ev_varI rfl) (ev_abs (ev_sub (ev_ix (ev_var rfl hr2) (ev_varI rfl) (atI_gI hbm.1 hbm.2)) (ev_ix (ev_var rfl hr2) (ev_varI rfl) (atI_gI ham.1 ham.2))))) fun v4 u4 g4 r4 => ?_
      cases r4
      dsimp only
      refine nxt ?_ ?_
      · exact (gu.trans g4).s
      · exact ⟨some (.int b), by rw [hst2]; rfl, cu.trans (gu.trans g4)⟩
    · intro σ u hxu hI
      obtain ⟨y7, rfl, cu⟩ := hI
      rw [List.take_length]
      dsimp only
      refine nxt ?_ ?_
      · exact gz.s.trans hxu
      · exact ⟨_, _, _, _, _, _, _, _, by rw [hst], cu⟩
  intro σ z hxz hI
  obtain ⟨y6, y7, y8, y9, y10, y11, y12, y13, rfl, cz⟩ := hI
  rw [List.take_length, show (irange 0 (offs l L).length).foldl (fun w i => (srange (i + L) (offs l L).length L).foldl (fun w j => max w ((gI (offs l L) j - gI (offs l L) i).natAbs : Int)) w) 0 = spread l L from wide_eq hv]
  -- the ends
  have ro2 := rp_gr cz ro
  refine q_par (K := K) (EvN.d (en_call3 (ev_var rfl ro2) (ev_varI rfl) ev_int ⟨h2, h3, by omega, by omega, by decide, hbd⟩)) (EvN.d (en_call3 (ev_var rfl ro2) (ev_varI rfl) (ev_neg ev_int) ⟨h2, h3, by omega, by omega, by decide, hbd⟩)) fun vh vl w2 g2 rh rl => ?_
  have hx2 := rp_gr (g1.trans (cz.trans g2)) hx
  have ro3 := rp_gr g2 ro2
  have mem : ∀ hi, ∀ d ∈ ends (offs l L) L hi, 0 ≤ d ∧ d < (offs l L).length := fun hi d hd => ends_mem h2 (by omega) hd
  have eh : lends (offs l L) L 1 = ends (offs l L) L true := lends_eq (hi := true) h2 (by omega)
  have el : lends (offs l L) L (-1) = ends (offs l L) L false := lends_eq (hi := false) h2 (by omega)
  have lnh : ∀ hi, (ends (offs l L) L hi).length ≤ 8 := fun hi => by unfold ends endsU; rw [sortI_len, List.length_map, irange_len]; omega
  have l1 : (lends (offs l L) L 1).length ≤ 100000 := by rw [eh]; have := lnh true; omega
  have l2 : (lends (offs l L) L (-1)).length ≤ 100000 := by rw [el]; have := lnh false; omega
  refine q_asg (K := K) (EvD.eq (ev_div (ev_sub (ev_add (ev_add (ev_ix (ev_var rfl hx2) ev_int (atI_gI (by omega) (by omega))) (ev_sum (EvN.d (en_lc (e' := Rep.int) l1 (gI (offs l L)) (ei_list (ev_var rfl rh)) (fun _ => rfl) fun a v w' ha g r => by
    cases r
    rw [eh] at ha
    exact ev_ix (ev_var rfl (rp_gr g ro3)) (ev_varI rfl) (atI_gI (mem _ a ha).1 (mem _ a ha).2))))) (ev_varI rfl)) ev_int) (ev_varI rfl) (wide_div (b := 5) (by omega) (by omega) (by decide) (by decide))) (high_eq hv)) fun v5 w3 g3 r3 => ?_
  cases r3
  refine q_asg (K := K) (EvD.eq (ev_div (ev_add (ev_ix (ev_var rfl (rp_gr g3 hx2)) ev_int (atI_gI (by omega) (by omega))) (ev_sum (EvN.d (en_lc (e' := Rep.int) l2 (gI (offs l L)) (ei_list (ev_var rfl (rp_gr g3 rl))) (fun _ => rfl) fun a v w' ha g r => by
    cases r
    rw [el] at ha
    exact ev_ix (ev_var rfl (rp_gr (g3.trans g) ro3)) (ev_varI rfl) (atI_gI (mem _ a ha).1 (mem _ a ha).2))))) (ev_varI rfl) (wide_div (b := 5) (by omega) (by omega) (by decide) (by decide))) (low_eq hv)) fun v6 w4 g4 r4 => ?_
  cases r4
  refine q_asg (K := K) (EvD.eq (ev_max2 (ev_varI rfl) (ev_varI rfl)) (show _ = peakI l L from rfl)) fun v7 w5 g5 r5 => ?_
  cases r5
  have g25 := (g3.trans g4).trans g5
  have ro5 := rp_gr g25 ro3
  -- the first pair as far apart
  refine q_for (K := K) (ei_range1 (ev_len (ev_var rfl ro5)) (by omega)) (fun i σ z => ∃ (yp : V) (y6 y7 y13 : Option V), σ = [some x, some (.int L), some (.int m), some vo, some (.int (spread l L)), some yp, y6, y7, some vh, some vl, some (.int (mhigh l L)), some (.int (mlow l L)), some (.int (peakI l L)), y13] ∧ Gr w5 z ∧
    (Rep.opt (Rep.list Rep.int)).r K z.S yp (((irange 0 (offs l L).length).take i).findSome? fun i => (srange (i + L) (offs l L).length L).findSome? fun j => if ((gI (offs l L) j - gI (offs l L) i).natAbs : Int) = peakI l L then some [i, j] else none)) (fun z g => ⟨.non, y6, y7, y13, rfl, g, rfl⟩) ?_ ?_
  · intro i a v σ z z2 ha hxz hI gz hra
    obtain ⟨yp, y6, y7, y13, rfl, cz, rp⟩ := hI
    cases hra
    have ham := irange_mem.mp (List.mem_of_getElem? ha)
    have hst := findSome_take (f := fun i => (srange (i + L) (offs l L).length L).findSome? fun j => if ((gI (offs l L) j - gI (offs l L) i).natAbs : Int) = peakI l L then some [i, j] else none) ha
    generalize (((irange 0 (offs l L).length).take i).findSome? fun i => (srange (i + L) (offs l L).length L).findSome? fun j => if ((gI (offs l L) j - gI (offs l L) i).natAbs : Int) = peakI l L then some [i, j] else none) = W at hst rp
    refine s_for (K := K) (ei_srange (ev_add (ev_varI rfl) (ev_varI rfl)) (ev_len (ev_var rfl (rp_gr (cz.trans gz) ro5))) (ev_varI rfl) (by omega) (by omega) (by omega)) (fun n σ u => ∃ (yp : V) (y7 : Option V), σ = [some x, some (.int L), some (.int m), some vo, some (.int (spread l L)), some yp, some (.int a), y7, some vh, some vl, some (.int (mhigh l L)), some (.int (mlow l L)), some (.int (peakI l L)), y13] ∧ Gr w5 u ∧
      (Rep.opt (Rep.list Rep.int)).r K u.S yp (W.or (((srange (a + L) (offs l L).length L).take n).findSome? fun j => if ((gI (offs l L) j - gI (offs l L) a).natAbs : Int) = peakI l L then some [a, j] else none))) (fun u g => ⟨yp, y7, rfl, (cz.trans gz).trans g, by rw [List.take_zero]; simpa using rp_gr (gz.trans g) rp⟩) ?_ ?_
    · intro n b v σ u u2 hb hxu hI gu hrb
      obtain ⟨yp, y7, rfl, cu, rp⟩ := hI
      cases hrb
      have hbm := inr a b ham.1 (List.mem_of_getElem? hb)
      have hst2 := findSome_take (f := fun j => if ((gI (offs l L) j - gI (offs l L) a).natAbs : Int) = peakI l L then some [a, j] else none) hb
      have hr2 := rp_gr (cu.trans gu) ro5
      have rp2 := rp_gr gu rp
      rw [hst2, ← Option.or_assoc]
      generalize W.or (((srange (a + L) (offs l L).length L).take n).findSome? fun j => if ((gI (offs l L) j - gI (offs l L) a).natAbs : Int) = peakI l L then some [a, j] else none) = O at rp rp2 ⊢
      refine s_when (K := K) (et_and (et_test (ev_isN nn_list (ev_var rfl rp2))) fun _ => et_test (ev_eqI (ev_abs (ev_sub (ev_ix (ev_var rfl hr2) (ev_varI rfl) (atI_gI hbm.1 hbm.2)) (ev_ix (ev_var rfl hr2) (ev_varI rfl) (atI_gI ham.1 ham.2)))) (ev_varI rfl))) (fun ht u3 g3 => ?_) (fun ht u3 g3 => ?_)
      · obtain ⟨t1, t2⟩ := Bool.and_eq_true_iff.mp ht
        refine s_asg (K := K) (EvN.d (en_lst (e := Rep.int) (el_cons (ev_varI rfl) (el_cons (ev_varI rfl) el_nil)))) fun v4 u4 g4 r4 => ?_
        dsimp only
        refine nxt ?_ ?_
        · exact ((gu.trans g3).trans g4).s
        · refine ⟨v4, some (.int b), rfl, cu.trans ((gu.trans g3).trans g4), ?_⟩
          rw [Option.isNone_iff_eq_none.mp t1, if_pos (of_decide_eq_true t2)]
          exact r4
      · dsimp only
        refine nxt ?_ ?_
        · exact (gu.trans g3).s
        · refine ⟨yp, some (.int b), rfl, cu.trans (gu.trans g3), ?_⟩
          have : O.or (if ((gI (offs l L) b - gI (offs l L) a).natAbs : Int) = peakI l L then some [a, b] else none) = O := by
            cases O with
            | some d => rfl
            | none =>
              rw [if_neg (fun z => ?_)]
              · rfl
              · simp [z] at ht
          rw [this]
          exact rp_gr g3 rp2
    · intro σ u hxu hI
      obtain ⟨yp, y7, rfl, cu, rp⟩ := hI
      rw [List.take_length] at rp
      dsimp only
      refine nxt ?_ ?_
      · exact gz.s.trans hxu
      · exact ⟨_, _, _, _, rfl, cu, by rw [hst]; exact rp⟩
  intro σ z hxz hI
  obtain ⟨yp, y6, y7, y13, rfl, cz2, rp⟩ := hI
  rw [List.take_length, show ((irange 0 (offs l L).length).findSome? fun i => (srange (i + L) (offs l L).length L).findSome? fun j => if ((gI (offs l L) j - gI (offs l L) i).natAbs : Int) = peakI l L then some [i, j] else none) = apart (offs l L) L (peakI l L) from lpair_eq hv (by unfold peakI; omega)] at rp
  have gz : Gr wd z := g1.trans (cz.trans (g2.trans (g25.trans cz2)))
  have rh2 := rp_gr (g25.trans cz2) rh
  rw [eh] at rh2
  have hpap : EvD K (tIf (tTest (tOp (fun x y H Q => y = .non ∧ Q (.bl (decide (x = .non))) H) (tVar 5) (tC .non))) (tTup (tCons (tC (.str "high")) (tCons (tVar 8) tNil))) (tTup (tCons (tC (.str "apart")) (tCons (tVar 5) tNil)))) [some x, some (.int L), some (.int m), some vo, some (.int (spread l L)), some yp, y6, y7, some vh, some vl, some (.int (mhigh l L)), some (.int (mlow l L)), some (.int (peakI l L)), y13] z (Rep.pair Rep.str (Rep.list Rep.int)) (paper l L) := by
    unfold paper
    cases ha : apart (offs l L) L (peakI l L) with
    | none =>
      rw [ha] at rp
      cases (show yp = .non from rp)
      exact ev_if (b := true) (et_isNon rfl) (fun _ => ev_pair ev_str (ev_var rfl rh2)) (fun h => nomatch h)
    | some d =>
      rw [ha] at rp
      have rp : (Rep.list Rep.int).r K z.S yp d := rp
      obtain ⟨pp, xs, rfl, _⟩ := id rp
      exact ev_if (b := false) (et_isRef rfl) (fun h => nomatch h) (fun _ => ev_pair ev_str (ev_var rfl rp))
  refine q_asg (K := K) hpap fun vp w6 g6 r6 => ?_
  exact s_ret (K := K) (EvN.d (en_lst (el_cons (ev_dat rd_int.dv (ev_varI rfl)) (el_cons (ev_dat rd_int.dv (ev_min2 (ev_sub (ev_varI rfl) (ev_varI rfl)) (ev_varI rfl))) (el_cons (ev_dat rd_int.dv (ev_max2 (ev_varI rfl) (ev_sub (ev_varI rfl) (ev_varI rfl)))) (el_cons (ev_dat dv_paper (ev_var rfl r6)) el_nil)))))) fun v w7 g7 r7 => q v w7 (gz.trans (g6.trans g7)) r7
end
end WK

namespace WK
open PySem PySem.Spec PyProof.Rows L2
/-- a word of the papers -/
def Word (w : Str) : Prop := w = "high" ∨ w = "apart" ∨ w = "low"
theorem word_ok {w : Str} (h : Word w) : (PyData.str w).canLay0 = true ∧ (PyData.str w).showable = true ∧ (PyData.str w).shown.length ≤ 20 ∧ (PyData.str w).hasDict = false ∧ (PyData.str w).depth ≤ 0 := by
  rcases h with rfl | rfl | rfl
  · exact ⟨by decide +kernel, by decide +kernel, by decide +kernel, rfl, Nat.le_refl _⟩
  · exact ⟨by decide +kernel, by decide +kernel, by decide +kernel, rfl, Nat.le_refl _⟩
  · exact ⟨by decide +kernel, by decide +kernel, by decide +kernel, rfl, Nat.le_refl _⟩
theorem ints_nd (l : List Int) : (PyData.list (l.map .int)).hasDict = false := (rd_list rd_int).nd l
theorem ints_dep (l : List Int) : (PyData.list (l.map .int)).depth ≤ 1 := (rd_list rd_int).dep l
structure PapOk (x : Str × List Int) : Prop where
  w : Word x.1
  n : x.2.length ≤ 8
  d : ∀ i ∈ x.2, i.natAbs < 10 ^ 3
theorem pD_nd {x : Str × List Int} (h : PapOk x) : (pD x).hasDict = false := by
  show ((PyData.str x.1).hasDict || ((PyData.list (x.2.map .int)).hasDict || false)) = false
  rw [(word_ok h.w).2.2.2.1, ints_nd]; rfl
theorem pD_able {x : Str × List Int} (h : PapOk x) : (pD x).showable = true := by
  show ((PyData.str x.1).showable && ((PyData.list (x.2.map .int)).showable && true)) = true
  rw [(word_ok h.w).2.1, ints_able fun i hi => Nat.lt_of_lt_of_le (h.d i hi) (by decide +kernel)]; rfl
theorem pD_dep {x : Str × List Int} (h : PapOk x) : (pD x).depth ≤ 3 := by
  show max (PyData.str x.1).depth (max (PyData.list (x.2.map .int)).depth 0) + 1 ≤ 3
  have := (word_ok h.w).2.2.2.2
  have := ints_dep x.2
  omega
theorem pD_show {x : Str × List Int} (h : PapOk x) : (pD x).shown.length ≤ 204 := by
  have h1 := (word_ok h.w).2.2.1
  have h2 := ints_show (l := x.2) (k := 3) (by decide) h.d
  have := Nat.mul_le_mul_right 6 h.n
  have := tup_show (ds := [.str x.1, .list (x.2.map .int)]) (k := 98) fun d hd => by
    rcases List.mem_cons.mp hd with e | hd
    · rw [e]; omega
    · rw [List.mem_singleton.mp hd]; omega
  exact this
theorem pD_shaped {x : Str × List Int} (h : PapOk x) : SeqAt.shaped (pD x) = true := by
  unfold SeqAt.shaped
  have h1 : (pD x).canLay0 = true := by
    show ((PyData.str x.1).canLay0 && ((PyData.list (x.2.map .int)).canLay0 && true)) = true
    rw [(word_ok h.w).1, (rd_list rd_int).can]; rfl
  rw [h1, decide_eq_true (Nat.le_trans (pD_dep h) (by decide))]; rfl
theorem pD_eqv (x : Str × List Int) : PyData.eqv (pD x) (pD x) = true := by
  show PyData.eqv (.tuple [.str x.1, .list (x.2.map .int)]) (.tuple [.str x.1, .list (x.2.map .int)]) = true
  have := (rd_list rd_int).re x.2
  simp only [PyData.eqv, PyData.eqvAll] at this ⊢
  simp [this]
section
variable {s : List Int} {L m : Int}
theorem paper_ok (v : VS s L) : PapOk (paper s L) := by
  have hl := v.offs; have h1 := v.ne; have h2 := v.lo; have h3 := v.hi; have h4 := v.days
  unfold paper
  cases ha : apart (offs s L) L (peakI s L) with
  | none =>
    refine ⟨.inl rfl, ?_, fun i hi => ?_⟩
    · show (ends (offs s L) L true).length ≤ 8
      unfold ends endsU; rw [sortI_len, List.length_map, irange_len]; omega
    · have := ends_mem h2 (by omega) hi
      omega
  | some d =>
    unfold apart at ha
    obtain ⟨i, hi, e⟩ := List.exists_of_findSome?_eq_some ha
    obtain ⟨j, hj, e⟩ := List.exists_of_findSome?_eq_some e
    have hi := irange_mem.mp hi
    obtain ⟨k, e2, hj⟩ := (srange_mem h2).mp hj
    have := Int.mul_nonneg (show (0 : Int) ≤ k by omega) (show 0 ≤ L by omega)
    split at e
    · cases e
      refine ⟨.inr (.inl rfl), by show 2 ≤ 8; decide, fun y hy => ?_⟩
      have : y = i ∨ y = j := by simpa using hy
      omega
    · cases e
theorem due_ok (hp : PreL s L m) : (PyData.list (dueD s L m)).hasDict = false ∧ (PyData.list (dueD s L m)).showable = true ∧ (PyData.list (dueD s L m)).depth ≤ 64 ∧ (PyData.list (dueD s L m)).shown.length ≤ sizeLine := by
  obtain ⟨x, hw⟩ := hp.x
  have hv := hp.w.1
  have hm := hp.w.2.2.1
  have hq := paper_ok hv
  have rg := lev_rg hw hv
  have b1 : (peakI s L).natAbs < 10 ^ 31 := by unfold peakI; omega
  have b2 : (floorI s L m).natAbs < 10 ^ 31 := by unfold floorI; omega
  have b3 : (lspread s L).natAbs < 10 ^ 31 := by unfold lspread; omega
  have a : ∀ i : Int, i.natAbs < 10 ^ 31 → (PyData.int i).showable = true := fun i h => int_able (k := 120) (by decide) (Nat.lt_of_lt_of_le h (by decide +kernel)) (by decide)
  refine ⟨?_, ?_, ?_, ?_⟩
  · show (false || (false || (false || ((pD (paper s L)).hasDict || false)))) = false
    rw [pD_nd hq]; rfl
  · show ((PyData.int (peakI s L)).showable && ((PyData.int (floorI s L m)).showable && ((PyData.int (lspread s L)).showable && ((pD (paper s L)).showable && true)))) = true
    rw [a _ b1, a _ b2, a _ b3, pD_able hq]; rfl
  · show max 0 (max 0 (max 0 (max (pD (paper s L)).depth 0))) + 1 ≤ 64
    have := pD_dep hq
    omega
  · have := list_show (ds := dueD s L m) (k := 204) fun d hd => by
      unfold dueD at hd
      rcases List.mem_cons.mp hd with e | hd
      · rw [e]; have := int_show (k := 31) (by decide) b1; omega
      rcases List.mem_cons.mp hd with e | hd
      · rw [e]; have := int_show (k := 31) (by decide) b2; omega
      rcases List.mem_cons.mp hd with e | hd
      · rw [e]; have := int_show (k := 31) (by decide) b3; omega
      · rw [List.mem_singleton.mp hd]; exact pD_show hq
    refine size_le (Nat.le_trans this ?_)
    show 4 * (204 + 2) + 2 ≤ _
    decide
end
section
variable {P : Program} {w : World} {K : PySem.W.Frag} {mg : Str → Option Value} {base : Heap}
def spRight (K : PySem.W.Frag) : Sp := spD3 K (Rep.list Rep.int) Rep.int Rep.int PreL Rep.bl (fun _ _ _ => true)
theorem ok__law_right (T : Tx K mg) : FnG P w K mg base CX0 8 (He.ga K "_law_right") T.d__law_right ["sums_here", "size", "top"] (spRight K) := by
  have nd := sc__law_right.nd
  refine okG T.F__law_right sc__law_right (fun vs H Q E h => by obtain ⟨wd, x, y, z, l, L, m, _, rfl, _⟩ := h; rfl) fun cdv A outer s H vs Q E hr hg h => ⟨_, PSs.nox (pss_cons (ps_par (i := 3) (j := 4) (by rfl) nd rfl rfl (by decide) rfl rfl (pa_cons (pe_callTy (show CallR _ _ (Evl.rListS K) from call_list_of) (by rfl) T.n_list (by decide +kernel) (pa_cons (pv 0) pa_nil)) (pa_cons (pe_call (ok__law_due T) (hr.mono (by decide)) (by rfl) T.g__law_due T.F__law_due.kp (b__law_due T) .nil pass0 (pa_cons (pv 0) (pa_cons (pv 1) (pa_cons (pv 2) pa_nil)))) pa_nil)) (by rfl))
      (pss_cons (ps_set (i := 5) nd rfl (Or.inl rfl) (pe_lst (pa_cons (pe_call (ok_least_peak T) (hr.mono (by decide)) (by rfl) T.g_least_peak T.F_least_peak.kp (b_least_peak T) .nil pass0 (pa_cons (pv 0) (pa_cons (pv 1) (pa_cons (pv 2) pa_nil)))) (pa_cons (pe_call (ok_greatest_floor T) (hr.mono (by decide)) (by rfl) T.g_greatest_floor T.F_greatest_floor.kp (b_greatest_floor T) .nil pass0 (pa_cons (pv 0) (pa_cons (pv 1) (pa_cons (pv 2) pa_nil)))) (pa_cons (pe_call (ok_least_spread T) (hr.mono (by decide)) (by rfl) T.g_least_spread T.F_least_spread.kp (b_least_spread T) .nil pass0 (pa_cons (pv 0) (pa_cons (pv 1) (pa_cons (pv 2) pa_nil)))) pa_nil)))))
      (pss_cons (ps_set (i := 6) nd rfl (Or.inl rfl) (pe_callR (ok_peak_paper T) (hr.mono (by decide)) (by rfl) T.g_peak_paper T.F_peak_paper.kp (kr_peak_paper T) pass0 (pk_cons (pv 2) (pk_cons (pv 1) (pk_cons (pv 0) pk_nil)))))
      (pss_cons (ps_if (PW.pt (pw_or (pt_cmpR op_ne (pe_callB (show CallR _ _ (rRepr K) from (call_repr hg hr)) (by rfl) T.n_repr (by decide +kernel) (pa_cons (pe_op op_cat (pv 5) (pe_lst (pa_cons (pv 6) pa_nil))) pa_nil)) (pe_callB (show CallR _ _ (rRepr K) from (call_repr hg hr)) (by rfl) T.n_repr (by decide +kernel) (pa_cons (pv 4) pa_nil)) (nomark _)) (pw_or1 (pt_cmpR (show OpR _ _ (rNeD K) from (op_neD hr.units)) (pv 0) (pv 3) (nomark _))))) (pss_one (ps_ret pe_bl)) pss_nil)
      (pss_cons (ps_expr (pe_bm PySem.F.plainAttrs_list PySem.F.slot_list_append PySem.F.type_list_append mt_append (pe_ix (show IxR _ (rIxT K) from ix_tup) (pv 6) pe_int (fun _ _ => rfl)) (pa_cons pe_non pa_nil)))
      (pss_one (ps_ret (pe_cmpR (show OpR _ _ (rEqD K) from (op_eqD hr.units)) (pe_call (ok_peak_paper T) (hr.mono (by decide)) (by rfl) T.g_peak_paper T.F_peak_paper.kp (b_peak_paper T) .nil pass0 (pa_cons (pv 0) (pa_cons (pv 1) (pa_cons (pv 2) pa_nil)))) (pe_ix (show IxR _ (rIxL K) from ix_list) (pv 4) pe_int (fun _ _ => rfl)) (nomark _))))))))), ?_⟩
  try dsimp only [cxOf]
  obtain ⟨wd, x, y, z, l, L, m, rfl, rfl, hx, hy, hz, hp, q⟩ := h
  cases hy; cases hz
  have hd := due_ok hp
  have hv := hp.w.1
  have hq := paper_ok hv
  refine q_par (K := K) (EvN.d (en_list (ev_var rfl hx))) (ev_call3 (ev_var rfl hx) (ev_varI rfl) (ev_varI rfl) hp) fun vb vd w1 g1 rb rd => ?_
  have hx1 := rp_gr g1 hx
  refine q_asgN (K := K) (en_lst (e := Rep.dat) (el_cons (ev_dat rd_int.dv (ev_call3 (ev_var rfl hx1) (ev_varI rfl) (ev_varI rfl) hp.w)) (el_cons (ev_dat rd_int.dv (ev_call3 (ev_var rfl hx1) (ev_varI rfl) (ev_varI rfl) hp.w)) (el_cons (ev_dat rd_int.dv (ev_call3 (ev_var rfl hx1) (ev_varI rfl) (ev_varI rfl) hp.w)) el_nil)))) fun pt w2 g2 n2 o2 => ?_
  refine asgX (call3R ⟨_, rfl, _, rfl, _, rfl, w2, x, l, L, m, rfl, rfl, rp_gr g2 hx1, hp.w, fun t pp w3 g3 n3 a3 o3 => ?_⟩)
  have ne : pt ≠ pp := fun e => o2.ne (e ▸ n3)
  have hX : Owns w3 [pp] := fun a ha => by rw [List.mem_singleton.mp ha]; exact o3.owns
  have hpap : (Rep.pair Rep.str (Rep.list Rep.int)).r K (w3.fixs [pp]).S (.ref t) (paper l L) := ⟨t, .str (paper l L).1, .ref pp, rfl, Evl.ex_t fixs_ex a3, rfl, o3.in_fixs List.mem_cons_self⟩
  have rd3 : (Rep.list Rep.dat).r K w3.S vd (dueD l L m) := rp_gr (g2.trans g3) rd
  have ot : OwnL K (w3.fixs [pp]) pt Rep.dat [.int (peakI l L), .int (floorI l L m), .int (lspread l L)] := (o2.gr g3).fixs (by rw [List.mem_singleton]; exact ne)
  refine q_when (K := K) (b := false) (EvT.eq (et_or (et_test (ev_neS (ev_peeks hX Rep.flat_str (ev_reprX (ds := dueD l L m) (EvN.d (en_catO (m := [pD (paper l L)]) ot rfl (en_lst (el_cons (ev_dat dv_paper (ev_var rfl hpap)) el_nil)) (by show 4 ≤ 100000; decide))) hd.1 hd.2.1 hd.2.2.1 hd.2.2.2)) (ev_reprX (ev_var rfl rd3) hd.1 hd.2.1 hd.2.2.1 hd.2.2.2))) fun _ => et_test (ev_neD (rd_list rd_int) (ev_var rfl (rp_gr (g2.trans g3) hx1)) (ev_var rfl (rp_gr (g2.trans g3) rb)))) (by simp)) (fun h => nomatch h) fun _ w4 g4 => ?_
  obtain ⟨ys, oy, hy⟩ := (o3.gr g4).raw
  refine q_appT (K := K) rfl (Evl.ex_t g4.s a3) oy (by rw [hy]; have := hq.n; omega) fun w5 m5 => ?_
  have hx5 : (Rep.list Rep.int).r K w5.S x l := rp_mt m5 (rp_gr ((g2.trans g3).trans g4) hx1)
  have rd5 : (Rep.list Rep.dat).r K w5.S vd (dueD l L m) := rp_mt m5 (rp_gr g4 rd3)
  have n3' : wd.H pp = none := fr_back (g1.trans g2) n3
  have g05 : Gr wd w5 := m5.gr wd (((g1.trans g2).trans g3).trans g4) n3'
  refine retX (eqD_run ⟨_, rfl, _, rfl, _, rfl, w5, x, l, L, m, rfl, rfl, hx5, hp.w, fun t2 p2 w6 g6 n6 a6 o6 => EvD.run (K := K) (r := Rep.dat) (a := pD (paper l L)) (ev_ix (ev_var rfl (rp_gr g6 rd5)) ev_int rfl) fun v3 w7 g7 r7 => ?_⟩)
  obtain ⟨xs, ow, hxs⟩ := o6.gr g7
  refine ⟨pD (paper l L), pD (paper l L), .tup (Evl.ex_t (g7.s.trans w7.ex) a6) (.cons (.str _) (.cons (.lst (SqL.of ow.h) (dpAll_of rd_int (paired_mono hxs fun _ _ z => z))) .nil)), dp_ex w7.ex r7, pD_shaped hq, pD_shaped hq, ?_⟩
  rw [pD_eqv]
  exact q (.bl true) w7 ((g05.trans g6).trans g7) rfl
end
end WK

namespace WK
open PySem PySem.Spec PyProof.Rows L2
/-! ### what is asked of a law; draws within its statements -/
def spLaw (K : PySem.W.Frag) : Sp := fun vs H Q _ => ∃ (wd : Wd) (sv : V) (ns : List Int), wd.H = H ∧ vs = [sv] ∧ (Rep.list Rep.int).r K wd.S sv ns ∧ ns.length ≤ 63 ∧ Bits ns ∧ ∀ w' : Wd, Q (.bl true) w'.H
theorem spLaw_mk {K : PySem.W.Frag} {H : Hp} {a : Addr} {ns : List Int} {E : XK} (hl : ns.length ≤ 63) (hb : Bits ns) (h : SqL K H a (ns.map V.int)) : spLaw K [.ref a] H (fun v _ => v = .bl true) E :=
  ⟨⟨H, H, exr H⟩, .ref a, ns, rfl, rfl, ⟨a, _, rfl, h, ints_paired ns⟩, hl, hb, fun _ => rfl⟩
section
variable {K : PySem.W.Frag} {σ : L2.St} {w : Wd} {ta tb te : TE} {tu tz : TS} {D : Ends}
theorem jar_run {tk : TE} {sv : V} {ns : List Int} {k : Int} {E : XK} {Q : VK} {i : Nat} (hi : σ[i]? = some (some sv)) (hs : (Rep.list Rep.int).r K w.S sv ns) (hk : EvD K tk σ w Rep.int k) (h0 : 0 ≤ k ∧ k ≤ 1000)
    (q : ∀ p w', Gr w w' → w.H p = none → Jar K w' p (2 ^ 59) → Q (.ref p) w'.H) : tCall (spJar K) [] E (tCons (tVar i) (tCons tk tNil)) σ w.H Q :=
  ⟨_, hi, hk.run fun v w2 g2 r2 => by
    cases r2
    exact ⟨w2, sv, ns, k, rfl, rfl, (Rep.list Rep.int).m g2.s hs, h0.1, h0.2, fun p w' g n j => q p w' (g2.trans g) (fr_back g2 n) j⟩⟩
theorem notX {H : Hp} (h : te σ H fun x H1 => ∃ c, x = .bl c ∧ if (!c) = true then tu { D with nx := tz D } σ H1 else tz D σ H1) : tSeq (tIfS (tNot (tB te)) tu tNext) tz D σ H := h
theorem notX1 {H : Hp} (h : te σ H fun x H1 => ∃ c, x = .bl c ∧ if (!c) = true then tu D σ H1 else D.nx σ H1) : tIfS (tNot (tB te)) tu tNext D σ H := h
theorem ifNT {A B : Prop} (h : B) : if (!true) = true then A else B := by rw [if_neg (by decide)]; exact h
theorem call_add1 {sp : Sp} {dvs : List V} {E : XK} {ts : TA} {H : Hp} {Q : VK} (h : ta σ H fun x H1 => tb σ H1 fun y H2 => ∃ i j, x = .int i ∧ y = .int j ∧ ts σ H2 fun vs H3 => sp ((.int (i + j) :: vs) ++ dvs) H3 Q E) :
    tCall sp dvs E (tCons (tOp (rI0 fun i j => .int (i + j)) ta tb) ts) σ H Q := h
end
end WK

namespace WK
open PySem PySem.Spec PyProof.Rows L2
section
variable {K : PySem.W.Frag} {σ : L2.St} {w : Wd} {ta tb te tn tm ts ts2 tm2 : TE} {tu tz tbd : TS} {D : Ends} {g : TG} {p : Addr}
theorem right_run {j : Nat} {E E1 E2 : XK} {Q : VK} {L m : Int} {f : Nat} (hj : σ[j]? = some (some (.ref p))) (hL : 1 ≤ L ∧ L ≤ 8) (hm : 0 ≤ m ∧ m ≤ 10 ^ 30 - 1)
    (hn : ∀ Q' : VK, (∀ w1 n, Mt p w w1 → Jar K w1 p (f + 135) → L ≤ n → n ≤ 67 → Q' (.int n) w1.H) → tn σ w.H Q') (em : ∀ w1, EvD K tm σ w1 Rep.int m) (es : ∀ w1, EvD K ts σ w1 Rep.int L) (es2 : ∀ w1, EvD K ts2 σ w1 Rep.int L) (em2 : ∀ w1, EvD K tm2 σ w1 Rep.int m)
    (k : ∀ w', Mt p w w' → Jar K w' p f → Q (.bl true) w'.H) :
    tCall (spRight K) [] E (tCons (tCall (spN2 K (Rep.list Rep.int) Rep.int (fun x L => 1 ≤ L ∧ L ≤ 8 ∧ L ≤ x.length ∧ x.length ≤ 67) Rep.int sumsL) [] E1 (tCons (tCall (spDays K) [] E2 (tCons (tVar j) (tCons tn (tCons tm tNil)))) (tCons ts tNil))) (tCons ts2 (tCons tm2 tNil))) σ w.H Q := by
  refine ⟨_, hj, hn _ fun w1 n m1 j1 h1 h2 => ?_⟩
  refine EvD.run (em w1) fun v w2 g2 r2 => ?_
  refine ⟨w2, p, n, m, f, rfl, by cases r2; rfl, by omega, h2, hm.1, by omega, (j1.gr g2).le (by omega), fun v l w3 m3 j3 r3 hl hr => ?_⟩
  refine EvD.run (es w3) fun v' w4 g4 r4 => ?_
  refine ⟨w4, v, v', l, L, rfl, rfl, rp_gr g4 r3, r4, ⟨hL.1, hL.2, by omega, by omega⟩, fun q w5 g5 n5 o5 => ?_⟩
  obtain ⟨w6, e6, m6, r6⟩ := o5.fix
  rw [← e6]
  refine EvD.run (es2 w6) fun v7 w7 g7 r7 => EvD.run (em2 w7) fun v8 w8 g8 r8 => ?_
  have hwy : Way (sumsL l L) l L m := sumsL_way hL.1 (by omega) hr
  have hvs : VS (sumsL l L) L := sumsL_VS hL.1 hL.2 (by omega) (by omega)
  refine ⟨w8, .ref q, v7, v8, sumsL l L, L, m, rfl, rfl, rp_gr (g7.trans g8) r6, rp_gr g8 r7, r8, ⟨⟨hvs, hm.1, hm.2, conf_none hwy hvs⟩, l, hwy⟩, fun v9 w9 g9 r9 => ?_⟩
  cases r9
  have j4 := j3.gr (g4.trans g5)
  have jq : p ≠ q := fun e => (j3.gr g4).ne (e ▸ n5)
  have m36 : Mt p w3 w6 := ((g4.trans g5).mt j3.ne).then m6 (fr_back g4 n5)
  have j6 := j4.mt m6 jq
  exact k w9 (m1.trans ((g2.mt j1.ne).trans (m3.trans (m36.trans (((g7.trans g8).trans g9).mt j6.ne))))) (j6.gr ((g7.trans g8).trans g9))
theorem size_run {j i1 i2 n : Nat} {E : XK} {tmm : TE} {mm : Int} {f : Nat} (hn : n = 2) (hj : σ[j]? = some (some (.ref p))) (h : 8 ≤ mm ∧ mm ≤ 67) (jr : Jar K w p (f + 2)) (em : EvD K tmm σ w Rep.int mm)
    (k : ∀ a b w', Mt p w w' → Jar K w' p f → 1 ≤ a → a ≤ 8 → a ≤ b → b ≤ mm → tz D ((σ.set i1 (some (.int a))).set i2 (some (.int b))) w'.H) :
    tSeq (tAsg (tCall (spSize K) [] E (tCons (tVar j) (tCons tmm tNil))) (gTup K n (gCons (gName i1) (gCons (gName i2) gNil)))) tz D σ w.H :=
  ⟨_, hj, em.run fun v w2 g2 r2 => ⟨w2, p, mm, f, rfl, by cases r2; rfl, h.1, h.2, jr.gr g2, fun t a b w3 m3 j3 a1 a8 ab bm rp => g_pair (Q := tz D) rp hn fun v1 v2 r1 r2 => by
    cases r1; cases r2
    exact k a b w3 ((g2.mt jr.ne).trans m3) j3 a1 a8 ab bm⟩⟩
theorem high_run {j : Nat} {E : XK} {Q : VK} {tmm : TE} {mm : Int} {f : Nat} (hj : σ[j]? = some (some (.ref p))) (h : 1 ≤ mm ∧ mm ≤ 1000) (jr : Jar K w p (f + 2)) (em : EvD K tmm σ w Rep.int mm)
    (k : ∀ a w', Mt p w w' → Jar K w' p f → 0 ≤ a → a ≤ 10 ^ 30 - 1 → Q (.int a) w'.H) : tCall (spHigh K) [] E (tCons (tVar j) (tCons tmm tNil)) σ w.H Q :=
  ⟨_, hj, em.run fun v w2 g2 r2 => ⟨w2, p, mm, f, rfl, by cases r2; rfl, h.1, h.2, jr.gr g2, fun a w3 m3 j3 a0 a1 => k a w3 ((g2.mt jr.ne).trans m3) j3 a0 a1⟩⟩
theorem for_tup3 {t1 t2 t3 : TE} {H : Hp} (h : t1 σ H fun a H1 => t2 σ H1 fun b H2 => t3 σ H2 fun c H3 => tSeq (tFor (iTup K (tTup (tCons (tC a) (tCons (tC b) (tCons (tC c) tNil))))) g tbd) tz D σ H3) :
    tSeq (tFor (iTup K (tTup (tCons t1 (tCons t2 (tCons t3 tNil))))) g tbd) tz D σ H := h
theorem ev_paper {t0 t1 t2 : TE} {E : XK} {l : List Int} {L m : Int} (h0 : EvD K t0 σ w (Rep.list Rep.int) l) (h1 : EvD K t1 σ w Rep.int L) (h2 : EvD K t2 σ w Rep.int m) (hp : PreW l L m) : EvD K (tCall (spPaper K) [] E (tCons t0 (tCons t1 (tCons t2 tNil)))) σ w (Rep.pair Rep.str (Rep.list Rep.int)) (paper l L) := fun w1 g Q q =>
  h0 w1 g _ fun v0 u0 k0 z0 => h1 u0 (g.trans k0) _ fun v1 u1 k1 z1 => h2 u1 ((g.trans k0).trans k1) _ fun v2 u2 k2 z2 => ⟨u2, v0, l, L, m, rfl, by cases z1; cases z2; rfl, (Rep.list Rep.int).m (k1.s.trans k2.s) z0, hp, fun t pp w' g' n a o => by
    obtain ⟨w3, e3, m3, rr⟩ := o.fix
    rw [← e3]
    exact q _ w3 (m3.gr w1 (((k0.trans k1).trans k2).trans g') (fr_back ((k0.trans k1).trans k2) n)) ⟨t, _, _, rfl, Evl.ex_t m3.s a, rfl, rr⟩⟩
end
theorem pw1 : PreW [6, 7, 5] 3 9 := ⟨⟨by decide, by decide, by decide, by decide⟩, by decide, by decide, by decide +kernel⟩
theorem pw2 : PreW [0, 0] 2 5 := ⟨⟨by decide, by decide, by decide, by decide⟩, by decide, by decide, by decide +kernel⟩
theorem pw3 : PreW [0] 2 5 := ⟨⟨by decide, by decide, by decide, by decide⟩, by decide, by decide, by decide +kernel⟩
theorem pw4 : PreW [5, 5, 0] 2 5 := ⟨⟨by decide, by decide, by decide, by decide⟩, by decide, by decide, by decide +kernel⟩
theorem pp1 : paper [6, 7, 5] 3 = (("high" : Str), [1, 2, 3]) := by decide +kernel
theorem pp2 : paper [0, 0] 2 = (("apart" : Str), [0, 2]) := by decide +kernel
theorem pp3 : paper [0] 2 = (("high" : Str), [0, 1]) := by decide +kernel
theorem pp4 : paper [5, 5, 0] 2 = (("apart" : Str), [1, 3]) := by decide +kernel
section
variable {P : Program} {w : World} {K : PySem.W.Frag} {mg : Str → Option Value} {base : Heap}
theorem ok_law (T : Tx K mg) : FnG P w K mg base CX0 9 (He.ga K "law") T.d_law ["script"] (spLaw K) := by
  have nd := sc_law.nd
  refine okG T.F_law sc_law (fun vs H Q E h => by obtain ⟨wd, sv, ns, _, rfl, _⟩ := h; rfl) fun cdv A outer s H vs Q E hr hg h => ⟨_, PSs.nox (pss_cons (ps_for PassesOwn.never rfl (pi_range1 (by rfl) T.n_range (pa_cons (pe_callB (call_max2 rfl) (by rfl) T.n_max (by decide +kernel) (pa_cons pe_int (pa_cons (pe_callB (call_min2 rfl) (by rfl) T.n_min (by decide +kernel) (pa_cons pe_int (pa_cons (pe_callB (show CallR _ _ (Evl.rLenS K) from call_len_seq) (by rfl) T.n_len (by decide +kernel) (pa_cons (pv 0) pa_nil)) pa_nil))) pa_nil))) pa_nil)) (pg_name (i := 1) nd rfl (Or.inl rfl)) (pss_cons (ps_set (i := 2) nd rfl (Or.inl rfl) (pe_call (ok__law_jar T) (hr.mono (by decide)) (by rfl) T.g__law_jar T.F__law_jar.kp (b__law_jar T) .nil pass0 (pa_cons (pv 0) (pa_cons (pv 1) pa_nil))))
      (pss_one (ps_for PassesOwn.never rfl (pi_range1 (by rfl) T.n_range (pa_cons pe_int pa_nil)) (pg_name (i := 3) nd rfl (Or.inl rfl)) (pss_cons (ps_asg (pe_call (ok__law_size T) (hr.mono (by decide)) (by rfl) T.g__law_size T.F__law_size.kp (b__law_size T) .nil pass0 (pa_cons (pv 2) (pa_cons pe_int pa_nil))) (pg_tup rfl (pgs_cons (pg_name (i := 4) nd rfl (Or.inl rfl)) (pgs_cons (pg_name (i := 5) nd rfl (Or.inl rfl)) pgs_nil))))
      (pss_cons (ps_set (i := 6) nd rfl (Or.inl rfl) (pe_call (ok__law_high T) (hr.mono (by decide)) (by rfl) T.g__law_high T.F__law_high.kp (b__law_high T) .nil pass0 (pa_cons (pv 2) (pa_cons pe_int pa_nil))))
      (pss_one (ps_if (pt_not (pt_val (pe_callG (ok__law_right T) hg (hr.mono (by decide)) (by rfl) T.g__law_right T.F__law_right.kp (b__law_right T) .nil pass0 (pa_cons (pe_call (ok__law_sums T) (hr.mono (by decide)) (by rfl) T.g__law_sums T.F__law_sums.kp (b__law_sums T) .nil pass0 (pa_cons (pe_call (ok__law_days T) (hr.mono (by decide)) (by rfl) T.g__law_days T.F__law_days.kp (b__law_days T) .nil pass0 (pa_cons (pv 2) (pa_cons (pv 5) (pa_cons (pv 6) pa_nil)))) (pa_cons (pv 4) pa_nil))) (pa_cons (pv 4) (pa_cons (pv 6) pa_nil)))))) (pss_one (ps_ret pe_bl)) pss_nil))))))))
      (pss_cons (ps_set (i := 2) nd rfl (Or.inl rfl) (pe_call (ok__law_jar T) (hr.mono (by decide)) (by rfl) T.g__law_jar T.F__law_jar.kp (b__law_jar T) .nil pass0 (pa_cons (pv 0) (pa_cons pe_int pa_nil))))
      (pss_cons (ps_for PassesOwn.never rfl (pi_tup (pe_tup (pa_cons pe_int (pa_cons pe_int (pa_cons (pe_op op_add pe_int (pe_call (ok__law_dip T) (hr.mono (by decide)) (by rfl) T.g__law_dip T.F__law_dip.kp (b__law_dip T) .nil pass0 (pa_cons (pv 2) (pa_cons pe_int pa_nil)))) pa_nil))))) (pg_name (i := 4) nd rfl (Or.inl rfl)) (pss_one (ps_if (pt_not (pt_val (pe_callG (ok__law_right T) hg (hr.mono (by decide)) (by rfl) T.g__law_right T.F__law_right.kp (b__law_right T) .nil pass0 (pa_cons (pe_call (ok__law_sums T) (hr.mono (by decide)) (by rfl) T.g__law_sums T.F__law_sums.kp (b__law_sums T) .nil pass0 (pa_cons (pe_call (ok__law_days T) (hr.mono (by decide)) (by rfl) T.g__law_days T.F__law_days.kp (b__law_days T) .nil pass0 (pa_cons (pv 2) (pa_cons pe_int (pa_cons (pe_op op_powW pe_int pe_int) pa_nil)))) (pa_cons (pv 4) pa_nil))) (pa_cons (pv 4) (pa_cons (pe_op op_powW pe_int pe_int) pa_nil)))))) (pss_one (ps_ret pe_bl)) pss_nil)))
      (pss_cons (ps_for PassesOwn.never rfl (pi_range1 (by rfl) T.n_range (pa_cons pe_int pa_nil)) (pg_name (i := 3) nd rfl (Or.inl rfl)) (pss_cons (ps_par (i := 4) (j := 6) (by rfl) nd rfl rfl (by decide) rfl rfl (pa_cons (pe_op op_add pe_int (pe_call (ok__law_dip T) (hr.mono (by decide)) (by rfl) T.g__law_dip T.F__law_dip.kp (b__law_dip T) .nil pass0 (pa_cons (pv 2) (pa_cons pe_int pa_nil)))) (pa_cons (pe_call (ok__law_high T) (hr.mono (by decide)) (by rfl) T.g__law_high T.F__law_high.kp (b__law_high T) .nil pass0 (pa_cons (pv 2) (pa_cons pe_int pa_nil))) pa_nil)) (by rfl))
      (pss_one (ps_if (pt_not (pt_val (pe_callG (ok__law_right T) hg (hr.mono (by decide)) (by rfl) T.g__law_right T.F__law_right.kp (b__law_right T) .nil pass0 (pa_cons (pe_call (ok__law_sums T) (hr.mono (by decide)) (by rfl) T.g__law_sums T.F__law_sums.kp (b__law_sums T) .nil pass0 (pa_cons (pe_call (ok__law_days T) (hr.mono (by decide)) (by rfl) T.g__law_days T.F__law_days.kp (b__law_days T) .nil pass0 (pa_cons (pv 2) (pa_cons (pe_op op_add pe_int (pe_call (ok__law_dip T) (hr.mono (by decide)) (by rfl) T.g__law_dip T.F__law_dip.kp (b__law_dip T) .nil pass0 (pa_cons (pv 2) (pa_cons pe_int pa_nil)))) (pa_cons (pv 6) pa_nil)))) (pa_cons (pv 4) pa_nil))) (pa_cons (pv 4) (pa_cons (pv 6) pa_nil)))))) (pss_one (ps_ret pe_bl)) pss_nil))))
      (pss_cons (ps_set (i := 7) nd rfl (Or.inl rfl) (pe_lst (pa_cons (pe_call (ok_peak_paper T) (hr.mono (by decide)) (by rfl) T.g_peak_paper T.F_peak_paper.kp (b_peak_paper T) .nil pass0 (pa_cons (pe_lst (pa_cons pe_int (pa_cons pe_int (pa_cons pe_int pa_nil)))) (pa_cons pe_int (pa_cons pe_int pa_nil)))) (pa_cons (pe_call (ok_peak_paper T) (hr.mono (by decide)) (by rfl) T.g_peak_paper T.F_peak_paper.kp (b_peak_paper T) .nil pass0 (pa_cons (pe_lst (pa_cons pe_int (pa_cons pe_int pa_nil))) (pa_cons pe_int (pa_cons pe_int pa_nil)))) (pa_cons (pe_call (ok_peak_paper T) (hr.mono (by decide)) (by rfl) T.g_peak_paper T.F_peak_paper.kp (b_peak_paper T) .nil pass0 (pa_cons (pe_lst (pa_cons pe_int pa_nil)) (pa_cons pe_int (pa_cons pe_int pa_nil)))) (pa_cons (pe_call (ok_peak_paper T) (hr.mono (by decide)) (by rfl) T.g_peak_paper T.F_peak_paper.kp (b_peak_paper T) .nil pass0 (pa_cons (pe_lst (pa_cons pe_int (pa_cons pe_int (pa_cons pe_int pa_nil)))) (pa_cons pe_int (pa_cons pe_int pa_nil)))) pa_nil))))))
      (pss_one (ps_ret (pe_cmpR (show OpR _ _ (rEqD K) from (op_eqD hr.units)) (pv 7) (pe_lst (pa_cons (pe_tup (pa_cons pe_str (pa_cons (pe_lst (pa_cons pe_int (pa_cons pe_int (pa_cons pe_int pa_nil)))) pa_nil))) (pa_cons (pe_tup (pa_cons pe_str (pa_cons (pe_lst (pa_cons pe_int (pa_cons pe_int pa_nil))) pa_nil))) (pa_cons (pe_tup (pa_cons pe_str (pa_cons (pe_lst (pa_cons pe_int (pa_cons pe_int pa_nil))) pa_nil))) (pa_cons (pe_tup (pa_cons pe_str (pa_cons (pe_lst (pa_cons pe_int (pa_cons pe_int pa_nil))) pa_nil))) pa_nil))))) (nomark _))))))))), ?_⟩
  obtain ⟨wd, sv, ns, rfl, rfl, rs, hlen, hbits, k⟩ := h
  try dsimp only [cxOf]
  refine q_for (K := K) (ei_range1 (ev_max2 ev_int (ev_min2 ev_int (ev_len (ev_var rfl rs)))) (by omega)) (fun i σ z => ∃ y1 y2 y3 y4 y5 y6 y7 : Option V, σ = [some sv, y1, y2, y3, y4, y5, y6, y7] ∧ Ex wd.S z.S) (fun z g => ⟨none, none, none, none, none, none, none, rfl, g.s⟩) ?_ ?_
  · intro i d vd σ z z2 hd hx hI gz hrd
    obtain ⟨y1, y2, y3, y4, y5, y6, y7, rfl, xz⟩ := hI
    cases hrd
    have hdm := irange_mem.mp (List.mem_of_getElem? hd)
    refine asgX (jar_run (K := K) (i := 0) rfl ((Rep.list Rep.int).m (xz.trans gz.s) rs) (ev_varI rfl) ⟨hdm.1, by omega⟩ fun p z3 g3 n3 j3 => ?_)
    refine s_for (K := K) (ei_range1 (ev_int) (by decide)) (fun m σ u => ∃ y3 y4 y5 y6 y7 : Option V, σ = [some sv, some (.int d), some (.ref p), y3, y4, y5, y6, y7] ∧ Ex z3.S u.S ∧ Jar K u p (1000 - 300 * m)) (fun u g => ⟨y3, y4, y5, y6, y7, rfl, g.s, (j3.gr g).le (by decide)⟩) ?_ ?_
    · intro m e ve σ u u2 he hxu hI gu hre
      obtain ⟨y3, y4, y5, y6, y7, rfl, xu, ju⟩ := hI
      cases hre
      have hm3 : m < 3 := by
        have := (List.getElem?_eq_some_iff.mp he).1
        rw [irange_len] at this
        simpa using this
      refine size_run (K := K) (f := 998 - 300 * m) rfl rfl (by decide) ((ju.gr gu).le (by omega)) ev_int fun a b u3 m3 j3 a1 a8 ab bm => ?_
      refine asgX (high_run (K := K) (f := 996 - 300 * m) rfl (by decide) (j3.le (by omega)) ev_int fun h u4 m4 j4 h0 h1 => ?_)
      refine notX1 (right_run (K := K) (p := p) (j := 2) (L := a) (m := h) (f := 861 - 300 * m) rfl ⟨a1, a8⟩ ⟨h0, h1⟩ (fun Q' q => ⟨_, rfl, q u4 b Mt.self (j4.le (by omega)) ab (by omega)⟩) (fun _ => ev_varI rfl) (fun _ => ev_varI rfl) (fun _ => ev_varI rfl) (fun _ => ev_varI rfl) fun u5 m5 j5 => ⟨true, rfl, ifNT ?_⟩)
      dsimp only
      refine nxt ?_ ?_
      · exact gu.s.trans (m3.s.trans (m4.s.trans m5.s))
      · exact ⟨_, _, _, _, _, rfl, xu.trans (gu.s.trans (m3.s.trans (m4.s.trans m5.s))), j5.le (by omega)⟩
    · intro σ u hxu hI
      obtain ⟨y3, y4, y5, y6, y7, rfl, xu, ju⟩ := hI
      dsimp only
      refine nxt ?_ ?_
      · exact gz.s.trans (g3.s.trans xu)
      · exact ⟨_, _, _, _, _, _, _, rfl, xz.trans (gz.s.trans (g3.s.trans xu))⟩
  intro σ z hx hI
  obtain ⟨y1, y2, y3, y4, y5, y6, y7, rfl, xz⟩ := hI
  refine asgX (jar_run (K := K) (i := 0) rfl ((Rep.list Rep.int).m xz rs) ev_int (by decide) fun p z3 g3 n3 j3 => ?_)
  refine for_tup3 (EvD.run (K := K) (r := Rep.int) ev_int fun v1 z4 g4 r4 => EvD.run (K := K) (r := Rep.int) ev_int fun v2 z5 g5 r5 => add_run (EvD.run (K := K) (r := Rep.int) ev_int fun v3 z6 g6 r6 => dip_run (K := K) (i := 2) (f := 10000) rfl ((j3.gr ((g4.trans g5).trans g6)).le (by decide)) ev_int (by decide) (by decide) fun d z7 m7 j7 d0 d1 => ⟨_, _, r6, rfl, ?_⟩))
  cases r4; cases r5
  refine q_for (K := K) (ei_tup (el_cons (e := Rep.int) ev_int (el_cons ev_int (el_cons ev_int el_nil)))) (fun m σ u => ∃ y3 y4 y5 y6 y7 : Option V, σ = [some sv, y1, some (.ref p), y3, y4, y5, y6, y7] ∧ Jar K u p (5000 - 300 * m)) (fun u g => ⟨y3, y4, y5, y6, y7, rfl, (j7.gr g).le (by decide)⟩) ?_ ?_
  · intro m a v σ u u2 ha hxu hI gu hra
    obtain ⟨y3, y4, y5, y6, y7, rfl, ju⟩ := hI
    cases hra
    have ham : a = 8 ∨ a = 1 ∨ a = 1 + d := by simpa using List.mem_of_getElem? ha
    have hm3 : m < 3 := (List.getElem?_eq_some_iff.mp ha).1
    have p28 : (10 : Int) ^ (28 : Int).toNat = 10000000000000000000000000000 := by decide +kernel
    have e28 : ∀ u, EvD K (tOp (rI CPowW fun i j => V.int (i ^ j.toNat)) (tC (.int 10)) (tC (.int 28))) [some sv, y1, some (.ref p), y3, some (.int a), y5, y6, y7] u Rep.int 10000000000000000000000000000 := fun u => EvD.eq (ev_pow ev_int ev_int (pow_ok (n := 4) (by decide) (by decide) (by decide) (by decide))) p28
    refine notX1 (right_run (K := K) (p := p) (j := 2) (L := a) (m := 10000000000000000000000000000) (f := 4800 - 300 * m) rfl (by omega) (by decide) (fun Q' q => q u2 67 Mt.self ((ju.gr gu).le (by omega)) (by omega) (by decide)) e28 (fun _ => ev_varI rfl) (fun _ => ev_varI rfl) e28 fun u5 m5 j5 => ⟨true, rfl, ifNT ?_⟩)
    dsimp only
    refine nxt ?_ ?_
    · exact gu.s.trans m5.s
    · exact ⟨_, _, _, _, _, rfl, j5.le (by omega)⟩
  intro σ u hxu hI
  obtain ⟨y3, y4, y5, y6, y7, rfl, ju⟩ := hI
  refine q_for (K := K) (ei_range1 (ev_int) (by decide)) (fun m σ u => ∃ y3 y4 y5 y6 y7 : Option V, σ = [some sv, y1, some (.ref p), y3, y4, y5, y6, y7] ∧ Jar K u p (2000 - 300 * m)) (fun u g => ⟨y3, y4, y5, y6, y7, rfl, (ju.gr g).le (by show 2000 ≤ 5000 - 300 * 3; decide)⟩) ?_ ?_
  · intro m e ve σ u u2 he hxu hI gu hre
    obtain ⟨y3, y4, y5, y6, y7, rfl, ju⟩ := hI
    cases hre
    have hm3 : m < 3 := by
      have := (List.getElem?_eq_some_iff.mp he).1
      rw [irange_len] at this
      simpa using this
    refine par2x (add_run (EvD.run (K := K) (r := Rep.int) ev_int fun v1 u3 g3 r3 => dip_run (K := K) (i := 2) (f := 1998 - 300 * m) rfl (((ju.gr gu).gr g3).le (by omega)) ev_int (by decide) (by decide) fun a u4 m4 j4 a0 a1 => ⟨_, _, r3, rfl, high_run (K := K) (f := 1996 - 300 * m) rfl (by decide) (j4.le (by omega)) ev_int fun h u5 m5 j5 h0 h1 => ⟨_, _, rfl, ?_⟩⟩))
    refine notX1 (right_run (K := K) (p := p) (j := 2) (L := 1 + a) (m := h) (f := 1860 - 300 * m) rfl (by omega) ⟨h0, h1⟩ (fun Q' q => add_run (EvD.run (K := K) (r := Rep.int) ev_int fun v1 u6 g6 r6 => dip_run (K := K) (i := 2) (f := 1995 - 300 * m) rfl ((j5.gr g6).le (by omega)) ev_int (by decide) (by decide) fun b u7 m7 j7 b0 b1 => ⟨_, _, r6, rfl, q u7 (25 + b) ((g6.mt j5.ne).trans m7) (j7.le (by omega)) (by omega) (by omega)⟩)) (fun _ => ev_varI rfl) (fun _ => ev_varI rfl) (fun _ => ev_varI rfl) (fun _ => ev_varI rfl) fun u5 m5 j5 => ⟨true, rfl, ifNT ?_⟩)
    dsimp only
    refine nxt ?_ ?_
    · exact gu.s.trans (g3.s.trans (m4.s.trans (‹Mt p u4 _›.s.trans m5.s)))
    · exact ⟨_, _, _, _, _, rfl, j5.le (by omega)⟩
  intro σ u hxu hI
  obtain ⟨y3, y4, y5, y6, y7, rfl, ju⟩ := hI
  refine q_asg (K := K) (EvN.d (en_lst (e := Rep.dat) (el_cons (ev_dat dv_paper (ev_paper (EvN.d (en_lst (el_cons ev_int (el_cons ev_int (el_cons ev_int el_nil))))) ev_int ev_int pw1)) (el_cons (ev_dat dv_paper (ev_paper (EvN.d (en_lst (el_cons ev_int (el_cons ev_int el_nil)))) ev_int ev_int pw2)) (el_cons (ev_dat dv_paper (ev_paper (EvN.d (en_lst (el_cons ev_int el_nil))) ev_int ev_int pw3)) (el_cons (ev_dat dv_paper (ev_paper (EvN.d (en_lst (el_cons ev_int (el_cons ev_int (el_cons ev_int el_nil))))) ev_int ev_int pw4)) el_nil)))))) fun vt u3 g3 r3 => ?_
  rw [pp1, pp2, pp3, pp4] at r3
  refine s_ret (K := K) (EvD.eq (ev_eqX (ev_datL (ev_var rfl r3)) (ev_datL (EvN.d (en_lst (e := Rep.dat) (el_cons (ev_dat dv_paper (ev_pair ev_str (EvN.d (en_lst (el_cons ev_int (el_cons ev_int (el_cons ev_int el_nil))))))) (el_cons (ev_dat dv_paper (ev_pair ev_str (EvN.d (en_lst (el_cons ev_int (el_cons ev_int el_nil)))))) (el_cons (ev_dat dv_paper (ev_pair ev_str (EvN.d (en_lst (el_cons ev_int (el_cons ev_int el_nil)))))) (el_cons (ev_dat dv_paper (ev_pair ev_str (EvN.d (en_lst (el_cons ev_int (el_cons ev_int el_nil)))))) el_nil))))))) (by decide +kernel) (by decide +kernel)) (show _ = true by
      simp only [PyData.eqv, PyData.eqvAll, pD_eqv, Bool.and_self])) fun v u4 g4 r4 => ?_
  cases r4
  exact k u4
end
end WK

namespace WK
open PySem PySem.Spec PyProof.Rows L2
set_option maxHeartbeats 0
def dd_is_integer : He.DefD := ⟨("is_integer", none), "is_integer", "is_integer", defArgs s_is_integer, defBody s_is_integer, defScope s_is_integer, [], []⟩
def dd_are_integers : He.DefD := ⟨("are_integers", none), "are_integers", "are_integers", defArgs s_are_integers, defBody s_are_integers, defScope s_are_integers, [], []⟩
def dd_is_sums : He.DefD := ⟨("is_sums", none), "is_sums", "is_sums", defArgs s_is_sums, defBody s_is_sums, defScope s_is_sums, [], []⟩
def dd_need_length : He.DefD := ⟨("need_length", none), "need_length", "need_length", defArgs s_need_length, defBody s_need_length, defScope s_need_length, [], []⟩
def dd_need_sums : He.DefD := ⟨("need_sums", none), "need_sums", "need_sums", defArgs s_need_sums, defBody s_need_sums, defScope s_need_sums, [], []⟩
def dd_offsets_in : He.DefD := ⟨("offsets_in", none), "offsets_in", "offsets_in", defArgs s_offsets_in, defBody s_offsets_in, defScope s_offsets_in, [], []⟩
def dd_total_in : He.DefD := ⟨("total_in", none), "total_in", "total_in", defArgs s_total_in, defBody s_total_in, defScope s_total_in, [], []⟩
def dd_need_most : He.DefD := ⟨("need_most", none), "need_most", "need_most", defArgs s_need_most, defBody s_need_most, defScope s_need_most, [], []⟩
def dd_need_all : He.DefD := ⟨("need_all", none), "need_all", "need_all", defArgs s_need_all, defBody s_need_all, defScope s_need_all, [], []⟩
def dd_classes_in : He.DefD := ⟨("classes_in", none), "classes_in", "classes_in", defArgs s_classes_in, defBody s_classes_in, defScope s_classes_in, [], []⟩
def dd_apart_days : He.DefD := ⟨("apart_days", none), "apart_days", "apart_days", defArgs s_apart_days, defBody s_apart_days, defScope s_apart_days, [], []⟩
def dd_end_days : He.DefD := ⟨("end_days", none), "end_days", "end_days", defArgs s_end_days, defBody s_end_days, defScope s_end_days, [], []⟩
def dd_conflict_in : He.DefD := ⟨("conflict_in", none), "conflict_in", "conflict_in", defArgs s_conflict_in, defBody s_conflict_in, defScope s_conflict_in, [], []⟩
def dd_need_way : He.DefD := ⟨("need_way", none), "need_way", "need_way", defArgs s_need_way, defBody s_need_way, defScope s_need_way, [], []⟩
def dd_class_ends : He.DefD := ⟨("class_ends", none), "class_ends", "class_ends", defArgs s_class_ends, defBody s_class_ends, defScope s_class_ends, [], []⟩
def dd_greatest_spread : He.DefD := ⟨("greatest_spread", none), "greatest_spread", "greatest_spread", defArgs s_greatest_spread, defBody s_greatest_spread, defScope s_greatest_spread, [], []⟩
def dd_middle_high : He.DefD := ⟨("middle_high", none), "middle_high", "middle_high", defArgs s_middle_high, defBody s_middle_high, defScope s_middle_high, [], []⟩
def dd_middle_low : He.DefD := ⟨("middle_low", none), "middle_low", "middle_low", defArgs s_middle_low, defBody s_middle_low, defScope s_middle_low, [], []⟩
def dd_peak_in : He.DefD := ⟨("peak_in", none), "peak_in", "peak_in", defArgs s_peak_in, defBody s_peak_in, defScope s_peak_in, [], []⟩
def dd_floor_in : He.DefD := ⟨("floor_in", none), "floor_in", "floor_in", defArgs s_floor_in, defBody s_floor_in, defScope s_floor_in, [], []⟩
def dd_least_peak : He.DefD := ⟨("least_peak", none), "least_peak", "least_peak", defArgs s_least_peak, defBody s_least_peak, defScope s_least_peak, [], []⟩
def dd_peak_paper : He.DefD := ⟨("peak_paper", none), "peak_paper", "peak_paper", defArgs s_peak_paper, defBody s_peak_paper, defScope s_peak_paper, [], []⟩
def dd_greatest_floor : He.DefD := ⟨("greatest_floor", none), "greatest_floor", "greatest_floor", defArgs s_greatest_floor, defBody s_greatest_floor, defScope s_greatest_floor, [], []⟩
def dd_least_spread : He.DefD := ⟨("least_spread", none), "least_spread", "least_spread", defArgs s_least_spread, defBody s_least_spread, defScope s_least_spread, [], []⟩
def dd__law_jar : He.DefD := ⟨("_law_jar", none), "_law_jar", "_law_jar", defArgs s__law_jar, defBody s__law_jar, defScope s__law_jar, [], []⟩
def dd__law_dip : He.DefD := ⟨("_law_dip", none), "_law_dip", "_law_dip", defArgs s__law_dip, defBody s__law_dip, defScope s__law_dip, [], []⟩
def dd__law_sums : He.DefD := ⟨("_law_sums", none), "_law_sums", "_law_sums", defArgs s__law_sums, defBody s__law_sums, defScope s__law_sums, [], []⟩
def dd__law_days : He.DefD := ⟨("_law_days", none), "_law_days", "_law_days", defArgs s__law_days, defBody s__law_days, defScope s__law_days, [], []⟩
def dd__law_top : He.DefD := ⟨("_law_top", none), "_law_top", "_law_top", defArgs s__law_top, defBody s__law_top, defScope s__law_top, [], []⟩
def dd__law_high : He.DefD := ⟨("_law_high", none), "_law_high", "_law_high", defArgs s__law_high, defBody s__law_high, defScope s__law_high, [], []⟩
def dd__law_size : He.DefD := ⟨("_law_size", none), "_law_size", "_law_size", defArgs s__law_size, defBody s__law_size, defScope s__law_size, [], []⟩
def dd__law_gaps : He.DefD := ⟨("_law_gaps", none), "_law_gaps", "_law_gaps", defArgs s__law_gaps, defBody s__law_gaps, defScope s__law_gaps, [], []⟩
def dd__law_box : He.DefD := ⟨("_law_box", none), "_law_box", "_law_box", defArgs s__law_box, defBody s__law_box, defScope s__law_box, [], []⟩
def dd__law_fits : He.DefD := ⟨("_law_fits", none), "_law_fits", "_law_fits", defArgs s__law_fits, defBody s__law_fits, defScope s__law_fits, [], []⟩
def dd__law_ends : He.DefD := ⟨("_law_ends", none), "_law_ends", "_law_ends", defArgs s__law_ends, defBody s__law_ends, defScope s__law_ends, [], []⟩
def dd__law_due : He.DefD := ⟨("_law_due", none), "_law_due", "_law_due", defArgs s__law_due, defBody s__law_due, defScope s__law_due, [], []⟩
def dd__law_right : He.DefD := ⟨("_law_right", none), "_law_right", "_law_right", defArgs s__law_right, defBody s__law_right, defScope s__law_right, [], []⟩
def dd_law : He.DefD := ⟨("law", none), "law", "law", defArgs s_law, defBody s_law, defScope s_law, [], []⟩
def hfn : List He.DefD := (([dd_is_integer, dd_are_integers, dd_is_sums, dd_need_length, dd_need_sums, dd_offsets_in, dd_total_in, dd_need_most, dd_need_all, dd_classes_in, dd_apart_days, dd_end_days, dd_conflict_in, dd_need_way, dd_class_ends, dd_greatest_spread, dd_middle_high, dd_middle_low, dd_peak_in, dd_floor_in, dd_least_peak, dd_peak_paper, dd_greatest_floor, dd_least_spread, dd__law_jar, dd__law_dip, dd__law_sums, dd__law_days, dd__law_top, dd__law_high] : List He.DefD) ++ ([dd__law_size, dd__law_gaps, dd__law_box, dd__law_fits, dd__law_ends, dd__law_due, dd__law_right, dd_law] : List He.DefD))
def hfa : List He.Fa := (([.glo "is_integer", .glo "are_integers", .glo "is_sums", .glo "need_length", .glo "need_sums", .glo "offsets_in", .glo "total_in", .glo "need_most", .glo "need_all", .glo "classes_in", .glo "apart_days", .glo "end_days", .glo "conflict_in", .glo "need_way", .glo "class_ends", .glo "greatest_spread", .glo "middle_high", .glo "middle_low", .glo "peak_in", .glo "floor_in", .glo "least_peak", .glo "peak_paper", .glo "greatest_floor", .glo "least_spread", .glo "_law_jar", .glo "_law_dip", .glo "_law_sums", .glo "_law_days", .glo "_law_top", .glo "_law_high"] : List He.Fa) ++ ([.glo "_law_size", .glo "_law_gaps", .glo "_law_box", .glo "_law_fits", .glo "_law_ends", .glo "_law_due", .glo "_law_right", .glo "law", .free "range", .free "enumerate", .free "sorted", .free "max", .free "min", .free "isinstance", .free "int", .free "list", .free "all", .free "sum", .free "len", .free "abs", .free "bool", .free "repr", .free "zip", .int "MOST_DAYS" 67, .int "MOST_LENGTH" 8, .int "MOST_MOST" 999999999999999999999999999999] : List He.Fa))
abbrev hR : PySem.W.OpenRow := PySem.W.OpenLaw.row PySem.Challenge.rw_weeksums_k14_levels_of_great_numbers
abbrev hk : PySem.W.Hook := He.hookD 4 hfa hfn
def hob (s : PySem.W.SharedT) : He.AlD := He.obsDG 4 hfa hfn (HandSHeadRun.getT s)
theorem hob_eq (s : PySem.W.SharedT) : hob s = hk.obs s.abs := He.obsDG_eq (HandSHeadRun.getT_eq s)
def hloose : List PySem.Str := ((["__name__", "SumError", "InvalidSums", "InvalidLength", "InvalidMost", "Impossible", "MOST_DAYS", "MOST_LENGTH", "is_integer", "are_integers", "is_sums", "need_length", "need_sums", "offsets_in", "total_in", "MOST_MOST", "need_most", "need_all", "classes_in", "apart_days", "end_days", "conflict_in", "need_way", "class_ends", "greatest_spread", "middle_high", "middle_low", "peak_in", "floor_in", "least_peak"] : List PySem.Str) ++ (["peak_paper", "greatest_floor", "least_spread", "_law_jar", "_law_dip", "_law_sums", "_law_days", "_law_top", "_law_high", "_law_size", "_law_gaps", "_law_box", "_law_fits", "_law_ends", "_law_due", "_law_right"] : List PySem.Str))
theorem hrun (w : World) : HandSHeadRun.RunEq hR (PySem.W.view hR.prog [50]) hk hob 8000 hloose w := by
  intro os
  kernel_rfl
theorem htx {K : PySem.W.Frag} {h : Heap} {mg : Str → Option Value} (X : K.In h) (G : h.Ns mainGlobals mg) (c : He.SaysD hfa hfn K) : Nonempty (Tx K mg) := by
  obtain ⟨d0, F0⟩ := c.def_ 0 (d := dd_is_integer) rfl
  obtain ⟨d1, F1⟩ := c.def_ 1 (d := dd_are_integers) rfl
  obtain ⟨d2, F2⟩ := c.def_ 2 (d := dd_is_sums) rfl
  obtain ⟨d3, F3⟩ := c.def_ 3 (d := dd_need_length) rfl
  obtain ⟨d4, F4⟩ := c.def_ 4 (d := dd_need_sums) rfl
  obtain ⟨d5, F5⟩ := c.def_ 5 (d := dd_offsets_in) rfl
  obtain ⟨d6, F6⟩ := c.def_ 6 (d := dd_total_in) rfl
  obtain ⟨d7, F7⟩ := c.def_ 7 (d := dd_need_most) rfl
  obtain ⟨d8, F8⟩ := c.def_ 8 (d := dd_need_all) rfl
  obtain ⟨d9, F9⟩ := c.def_ 9 (d := dd_classes_in) rfl
  obtain ⟨d10, F10⟩ := c.def_ 10 (d := dd_apart_days) rfl
  obtain ⟨d11, F11⟩ := c.def_ 11 (d := dd_end_days) rfl
  obtain ⟨d12, F12⟩ := c.def_ 12 (d := dd_conflict_in) rfl
  obtain ⟨d13, F13⟩ := c.def_ 13 (d := dd_need_way) rfl
  obtain ⟨d14, F14⟩ := c.def_ 14 (d := dd_class_ends) rfl
  obtain ⟨d15, F15⟩ := c.def_ 15 (d := dd_greatest_spread) rfl
  obtain ⟨d16, F16⟩ := c.def_ 16 (d := dd_middle_high) rfl
  obtain ⟨d17, F17⟩ := c.def_ 17 (d := dd_middle_low) rfl
  obtain ⟨d18, F18⟩ := c.def_ 18 (d := dd_peak_in) rfl
  obtain ⟨d19, F19⟩ := c.def_ 19 (d := dd_floor_in) rfl
  obtain ⟨d20, F20⟩ := c.def_ 20 (d := dd_least_peak) rfl
  obtain ⟨d21, F21⟩ := c.def_ 21 (d := dd_peak_paper) rfl
  obtain ⟨d22, F22⟩ := c.def_ 22 (d := dd_greatest_floor) rfl
  obtain ⟨d23, F23⟩ := c.def_ 23 (d := dd_least_spread) rfl
  obtain ⟨d24, F24⟩ := c.def_ 24 (d := dd__law_jar) rfl
  obtain ⟨d25, F25⟩ := c.def_ 25 (d := dd__law_dip) rfl
  obtain ⟨d26, F26⟩ := c.def_ 26 (d := dd__law_sums) rfl
  obtain ⟨d27, F27⟩ := c.def_ 27 (d := dd__law_days) rfl
  obtain ⟨d28, F28⟩ := c.def_ 28 (d := dd__law_top) rfl
  obtain ⟨d29, F29⟩ := c.def_ 29 (d := dd__law_high) rfl
  obtain ⟨d30, F30⟩ := c.def_ 30 (d := dd__law_size) rfl
  obtain ⟨d31, F31⟩ := c.def_ 31 (d := dd__law_gaps) rfl
  obtain ⟨d32, F32⟩ := c.def_ 32 (d := dd__law_box) rfl
  obtain ⟨d33, F33⟩ := c.def_ 33 (d := dd__law_fits) rfl
  obtain ⟨d34, F34⟩ := c.def_ 34 (d := dd__law_ends) rfl
  obtain ⟨d35, F35⟩ := c.def_ 35 (d := dd__law_due) rfl
  obtain ⟨d36, F36⟩ := c.def_ 36 (d := dd__law_right) rfl
  obtain ⟨d37, F37⟩ := c.def_ 37 (d := dd_law) rfl
  refine ⟨{
    d_is_integer := d0,
    F_is_integer := F0,
    g_is_integer := He.glo_ok X G (c.fact 0 (f := .glo "is_integer") rfl),
    d_are_integers := d1,
    F_are_integers := F1,
    g_are_integers := He.glo_ok X G (c.fact 1 (f := .glo "are_integers") rfl),
    d_is_sums := d2,
    F_is_sums := F2,
    g_is_sums := He.glo_ok X G (c.fact 2 (f := .glo "is_sums") rfl),
    d_need_length := d3,
    F_need_length := F3,
    g_need_length := He.glo_ok X G (c.fact 3 (f := .glo "need_length") rfl),
    d_need_sums := d4,
    F_need_sums := F4,
    g_need_sums := He.glo_ok X G (c.fact 4 (f := .glo "need_sums") rfl),
    d_offsets_in := d5,
    F_offsets_in := F5,
    g_offsets_in := He.glo_ok X G (c.fact 5 (f := .glo "offsets_in") rfl),
    d_total_in := d6,
    F_total_in := F6,
    g_total_in := He.glo_ok X G (c.fact 6 (f := .glo "total_in") rfl),
    d_need_most := d7,
    F_need_most := F7,
    g_need_most := He.glo_ok X G (c.fact 7 (f := .glo "need_most") rfl),
    d_need_all := d8,
    F_need_all := F8,
    g_need_all := He.glo_ok X G (c.fact 8 (f := .glo "need_all") rfl),
    d_classes_in := d9,
    F_classes_in := F9,
    g_classes_in := He.glo_ok X G (c.fact 9 (f := .glo "classes_in") rfl),
    d_apart_days := d10,
    F_apart_days := F10,
    g_apart_days := He.glo_ok X G (c.fact 10 (f := .glo "apart_days") rfl),
    d_end_days := d11,
    F_end_days := F11,
    g_end_days := He.glo_ok X G (c.fact 11 (f := .glo "end_days") rfl),
    d_conflict_in := d12,
    F_conflict_in := F12,
    g_conflict_in := He.glo_ok X G (c.fact 12 (f := .glo "conflict_in") rfl),
    d_need_way := d13,
    F_need_way := F13,
    g_need_way := He.glo_ok X G (c.fact 13 (f := .glo "need_way") rfl),
    d_class_ends := d14,
    F_class_ends := F14,
    g_class_ends := He.glo_ok X G (c.fact 14 (f := .glo "class_ends") rfl),
    d_greatest_spread := d15,
    F_greatest_spread := F15,
    g_greatest_spread := He.glo_ok X G (c.fact 15 (f := .glo "greatest_spread") rfl),
    d_middle_high := d16,
    F_middle_high := F16,
    g_middle_high := He.glo_ok X G (c.fact 16 (f := .glo "middle_high") rfl),
    d_middle_low := d17,
    F_middle_low := F17,
    g_middle_low := He.glo_ok X G (c.fact 17 (f := .glo "middle_low") rfl),
    d_peak_in := d18,
    F_peak_in := F18,
    g_peak_in := He.glo_ok X G (c.fact 18 (f := .glo "peak_in") rfl),
    d_floor_in := d19,
    F_floor_in := F19,
    g_floor_in := He.glo_ok X G (c.fact 19 (f := .glo "floor_in") rfl),
    d_least_peak := d20,
    F_least_peak := F20,
    g_least_peak := He.glo_ok X G (c.fact 20 (f := .glo "least_peak") rfl),
    d_peak_paper := d21,
    F_peak_paper := F21,
    g_peak_paper := He.glo_ok X G (c.fact 21 (f := .glo "peak_paper") rfl),
    d_greatest_floor := d22,
    F_greatest_floor := F22,
    g_greatest_floor := He.glo_ok X G (c.fact 22 (f := .glo "greatest_floor") rfl),
    d_least_spread := d23,
    F_least_spread := F23,
    g_least_spread := He.glo_ok X G (c.fact 23 (f := .glo "least_spread") rfl),
    d__law_jar := d24,
    F__law_jar := F24,
    g__law_jar := He.glo_ok X G (c.fact 24 (f := .glo "_law_jar") rfl),
    d__law_dip := d25,
    F__law_dip := F25,
    g__law_dip := He.glo_ok X G (c.fact 25 (f := .glo "_law_dip") rfl),
    d__law_sums := d26,
    F__law_sums := F26,
    g__law_sums := He.glo_ok X G (c.fact 26 (f := .glo "_law_sums") rfl),
    d__law_days := d27,
    F__law_days := F27,
    g__law_days := He.glo_ok X G (c.fact 27 (f := .glo "_law_days") rfl),
    d__law_top := d28,
    F__law_top := F28,
    g__law_top := He.glo_ok X G (c.fact 28 (f := .glo "_law_top") rfl),
    d__law_high := d29,
    F__law_high := F29,
    g__law_high := He.glo_ok X G (c.fact 29 (f := .glo "_law_high") rfl),
    d__law_size := d30,
    F__law_size := F30,
    g__law_size := He.glo_ok X G (c.fact 30 (f := .glo "_law_size") rfl),
    d__law_gaps := d31,
    F__law_gaps := F31,
    g__law_gaps := He.glo_ok X G (c.fact 31 (f := .glo "_law_gaps") rfl),
    d__law_box := d32,
    F__law_box := F32,
    g__law_box := He.glo_ok X G (c.fact 32 (f := .glo "_law_box") rfl),
    d__law_fits := d33,
    F__law_fits := F33,
    g__law_fits := He.glo_ok X G (c.fact 33 (f := .glo "_law_fits") rfl),
    d__law_ends := d34,
    F__law_ends := F34,
    g__law_ends := He.glo_ok X G (c.fact 34 (f := .glo "_law_ends") rfl),
    d__law_due := d35,
    F__law_due := F35,
    g__law_due := He.glo_ok X G (c.fact 35 (f := .glo "_law_due") rfl),
    d__law_right := d36,
    F__law_right := F36,
    g__law_right := He.glo_ok X G (c.fact 36 (f := .glo "_law_right") rfl),
    d_law := d37,
    F_law := F37,
    g_law := He.glo_ok X G (c.fact 37 (f := .glo "law") rfl),
    n_range := He.free_ok X G (c.fact 38 (f := .free "range") rfl),
    n_enumerate := He.free_ok X G (c.fact 39 (f := .free "enumerate") rfl),
    n_sorted := He.free_ok X G (c.fact 40 (f := .free "sorted") rfl),
    n_max := He.free_ok X G (c.fact 41 (f := .free "max") rfl),
    n_min := He.free_ok X G (c.fact 42 (f := .free "min") rfl),
    n_isinstance := He.free_ok X G (c.fact 43 (f := .free "isinstance") rfl),
    n_int := He.free_ok X G (c.fact 44 (f := .free "int") rfl),
    n_list := He.free_ok X G (c.fact 45 (f := .free "list") rfl),
    n_all := He.free_ok X G (c.fact 46 (f := .free "all") rfl),
    n_sum := He.free_ok X G (c.fact 47 (f := .free "sum") rfl),
    n_len := He.free_ok X G (c.fact 48 (f := .free "len") rfl),
    n_abs := He.free_ok X G (c.fact 49 (f := .free "abs") rfl),
    n_bool := He.free_ok X G (c.fact 50 (f := .free "bool") rfl),
    n_repr := He.free_ok X G (c.fact 51 (f := .free "repr") rfl),
    n_zip := He.free_ok X G (c.fact 52 (f := .free "zip") rfl),
    c_MOST_DAYS := He.int_ok X G (c.fact 53 (f := .int "MOST_DAYS" 67) rfl),
    c_MOST_LENGTH := He.int_ok X G (c.fact 54 (f := .int "MOST_LENGTH" 8) rfl),
    c_MOST_MOST := He.int_ok X G (c.fact 55 (f := .int "MOST_MOST" 999999999999999999999999999999) rfl) }⟩
end WK

open PySem PySem.W PySem.Calls PyProof.Rows
theorem PySem.Challenge.cw_weeksums_k14_levels_of_great_numbers_holds : PySem.Challenge.rw_weeksums_k14_levels_of_great_numbers.Holds := by
  w_on; o_law
  refine HandSHeadRun.head_any (r := OpenLaw.row PySem.Challenge.rw_weeksums_k14_levels_of_great_numbers) (q := view (OpenLaw.row PySem.Challenge.rw_weeksums_k14_levels_of_great_numbers).prog [50]) (H := WK.hk) (ob := WK.hob) (M := 8000) (loose := WK.hloose) (d := HandSHeadRun.topDef (OpenLaw.row PySem.Challenge.rw_weeksums_k14_levels_of_great_numbers).prog 50) (kwd := []) WK.hob_eq
    (by kernel_rfl) (fun s => by kernel_rfl) WK.hrun (by kernel_rfl) (by kernel_rfl) (by kernel_rfl) (by rfl) (by first | assumption | decide +kernel) (by decide +kernel) ⟨rfl, rfl, rfl, rfl, rfl, by decide +kernel⟩ ?hw ?hc
  case hw => w_witness2
  case hc =>
    refine WK.walk_G (l := PySem.Challenge.rw_weeksums_k14_levels_of_great_numbers) (n := 63) (k := 9) (x := "script") (CX := L2.CX0) rfl (by decide) (by kernel_rfl) ⟨rfl, by decide, by decide⟩ ?F (fun _ _ _ _ z => z)
    intro w mg fa h Y G hmg0
    obtain ⟨K, KX, c⟩ := Y
    have hmg : mg ("law" : PySem.Str) = some (.ref fa) := by
      have e : (HandSHeadRun.topDef (OpenLaw.row PySem.Challenge.rw_weeksums_k14_levels_of_great_numbers).prog 50).name = ("law" : PySem.Str) := by kernel_rfl
      rw [← e]
      exact hmg0
    obtain ⟨T⟩ := WK.htx KX G c
    have e := hmg.symm.trans T.g_law
    cases e
    have b := fun s (v : Value) => L2.FunD.bindsA (ps := ["script"]) T.F_law (fun _ _ _ _ _ _ us hl => match us, hl with | [_], _ => rfl) s [v] rfl
    exact ⟨K, T.d_law, WK.spLaw K, KX, b, fun H a ns hl hbits _ hS => WK.spLaw_mk hl hbits hS, fun base _ _ => WK.ok_law T⟩

