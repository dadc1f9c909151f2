import PyProof.Rows.All
import Wide.All
import OpenK.AllK
import Wide.FinOn
import HandS.ForMost
import HandS.Deep
import HandS.IsInst
import HandS.TupAny
import HandS.TupMul
import HandS.Style
import HandS.Exc
import HandS.TryOnly
import HandS.ExcOwn
import HandS.WordsExc
import HandS.Conv
import HandS.Walk
import KE.GoesMore
import KE.GoesEnum
import KE.KTupSum
import PySem.Challenge.RW_comboscores_k01_rules_recognized
set_option Elab.async false
set_option linter.all false
set_option autoImplicit false
set_option maxRecDepth 100000
/-! The data layer: slots hold data, lists of one's own, decks; the heap is out of sight. -/
namespace DL
open PySem PySem.Spec L2
open PyProof.Rows hiding St

abbrev D := PyData
inductive Sl where
  | un | v (d : D) | ol (ds : List D) | dk (n : Nat) | ld (n : Nat)
abbrev En := List Sl
def Sl.isLd : Sl → Bool
  | .ld _ => true
  | _ => false
def Sl.own : Sl → Bool
  | .ol _ => true | .dk _ => true | .ld _ => true | _ => false
def Ex (F H : Hp) : Prop := ∀ a o, F a = some o → H a = some o
theorem Ex.refl (H : Hp) : Ex H H := fun _ _ h => h
theorem Ex.trans {A B C : Hp} (a : Ex A B) (b : Ex B C) : Ex A C := fun x o h => b x o (a x o h)
theorem Ex.new {H : Hp} {p : Addr} {o : HO} (h : H p = none) : Ex H (upd H p o) := fun a u e => by
  rw [upd_ne (ne_of_none e h)]; exact e
theorem Ex.none {F H : Hp} (e : Ex F H) {p : Addr} (h : H p = none) : F p = none := by
  cases q : F p with
  | none => rfl
  | some o => rw [e p o q] at h; cases h
theorem Ex.upd2 {F H : Hp} (e : Ex F H) (p : Addr) (o : HO) : Ex (upd F p o) (upd H p o) := fun a u h => by
  by_cases ha : a = p
  · subst ha; rw [upd_same] at h ⊢; exact h
  · rw [upd_ne ha] at h ⊢; exact e a u h
theorem Ex.rd {H H' : Hp} {a : Addr} {u : HO} (e : Ex H H') (h : Rd H a u) : Rd H' a u := by
  rcases h with h | ⟨o, h⟩
  · exact .inl (e a _ h)
  · exact .inr ⟨o, e a _ h⟩
theorem Ex.sqL {K : PySem.W.Frag} {H H' : Hp} {a : Addr} {xs : List V} (e : Ex H H') (h : SqL K H a xs) : SqL K H' a xs := by
  rcases h with h | h
  · exact .inl (e.rd h)
  · exact .inr h
theorem Ex.sqT {K : PySem.W.Frag} {H H' : Hp} {a : Addr} {xs : List V} (e : Ex H H') (h : SqT K H a xs) : SqT K H' a xs := by
  rcases h with h | h
  · exact .inl (e.rd h)
  · exact .inr h

def keyD : Key → D
  | .inl i => .int i
  | .inr x => .str x
mutual
/-- a value is a piece of data, read off what stands still -/
inductive Rep (K : PySem.W.Frag) (F : Hp) : V → D → Prop
  | non : Rep K F .non .none
  | bl (b : Bool) : Rep K F (.bl b) (.bool b)
  | int (i : Int) : Rep K F (.int i) (.int i)
  | str (x : Str) : Rep K F (.str x) (.str x)
  | lst {a : Addr} {xs : List V} {ds : List D} : SqL K F a xs → RepL K F xs ds → Rep K F (.ref a) (.list ds)
  | tup {a : Addr} {xs : List V} {ds : List D} : SqT K F a xs → RepL K F xs ds → Rep K F (.ref a) (.tuple ds)
  | dcT {a : Addr} {kvs : List (List Key × V)} {ds : List (D × D)} : F a = some (.dT kvs) → RepT K F kvs ds → Rep K F (.ref a) (.dict ds)
  | dcK {a : Addr} {kvs : List (Key × V)} {ds : List (D × D)} : F a = some (.dK kvs) → RepK K F kvs ds → Rep K F (.ref a) (.dict ds)
inductive RepL (K : PySem.W.Frag) (F : Hp) : List V → List D → Prop
  | nil : RepL K F [] []
  | cons {v : V} {vs : List V} {d : D} {ds : List D} : Rep K F v d → RepL K F vs ds → RepL K F (v :: vs) (d :: ds)
inductive RepT (K : PySem.W.Frag) (F : Hp) : List (List Key × V) → List (D × D) → Prop
  | nil : RepT K F [] []
  | cons {k : List Key} {v : V} {vs : List (List Key × V)} {d : D} {ds : List (D × D)} : Rep K F v d → RepT K F vs ds → RepT K F ((k, v) :: vs) ((.tuple (k.map keyD), d) :: ds)
inductive RepK (K : PySem.W.Frag) (F : Hp) : List (Key × V) → List (D × D) → Prop
  | nil : RepK K F [] []
  | cons {k : Key} {v : V} {vs : List (Key × V)} {d : D} {ds : List (D × D)} : Rep K F v d → RepK K F vs ds → RepK K F ((k, v) :: vs) ((keyD k, d) :: ds)
end
section
variable {K : PySem.W.Frag} {F F' H : Hp}
mutual
theorem Rep.mono (e : Ex F F') : ∀ {v : V} {d : D}, Rep K F v d → Rep K F' v d
  | _, _, .non => .non
  | _, _, .bl b => .bl b
  | _, _, .int i => .int i
  | _, _, .str x => .str x
  | _, _, .lst h r => .lst (e.sqL h) (RepL.mono e r)
  | _, _, .tup h r => .tup (e.sqT h) (RepL.mono e r)
  | _, _, .dcT h r => .dcT (e _ _ h) (RepT.mono e r)
  | _, _, .dcK h r => .dcK (e _ _ h) (RepK.mono e r)
theorem RepL.mono (e : Ex F F') : ∀ {vs : List V} {ds : List D}, RepL K F vs ds → RepL K F' vs ds
  | _, _, .nil => .nil
  | _, _, .cons h r => .cons (Rep.mono e h) (RepL.mono e r)
theorem RepT.mono (e : Ex F F') : ∀ {vs : List (List Key × V)} {ds : List (D × D)}, RepT K F vs ds → RepT K F' vs ds
  | _, _, .nil => .nil
  | _, _, .cons h r => .cons (Rep.mono e h) (RepT.mono e r)
theorem RepK.mono (e : Ex F F') : ∀ {vs : List (Key × V)} {ds : List (D × D)}, RepK K F vs ds → RepK K F' vs ds
  | _, _, .nil => .nil
  | _, _, .cons h r => .cons (Rep.mono e h) (RepK.mono e r)
end
mutual
theorem Rep.dp (e : Ex F H) : ∀ {v : V} {d : D}, Rep K F v d → d.canLay0 = true → Dp K H v d
  | _, _, .non, _ => .non
  | _, _, .bl b, _ => .bl b
  | _, _, .int i, _ => .int i
  | _, _, .str x, _ => .str x
  | _, _, .lst h r, c => .lst (e.sqL h) (RepL.dp e r (by simpa [PyData.canLay0] using c))
  | _, _, .tup h r, c => .tup (e.sqT h) (RepL.dp e r (by simpa [PyData.canLay0] using c))
  | _, _, .dcT h r, c => by simp [PyData.canLay0] at c
  | _, _, .dcK h r, c => by simp [PyData.canLay0] at c
theorem RepL.dp (e : Ex F H) : ∀ {vs : List V} {ds : List D}, RepL K F vs ds → PyData.canLayAll0 ds = true → DpAll K H vs ds
  | _, _, .nil, _ => .nil
  | _, _, .cons h r, c => by
    have c' := c
    simp only [PyData.canLayAll0, Bool.and_eq_true] at c'
    exact .cons (Rep.dp e h c'.1) (RepL.dp e r c'.2)
end
theorem RepL.length : ∀ {vs : List V} {ds : List D}, RepL K F vs ds → vs.length = ds.length
  | _, _, .nil => rfl
  | _, _, .cons _ r => by simp [RepL.length r]
theorem RepL.append : ∀ {vs ws : List V} {ds es : List D}, RepL K F vs ds → RepL K F ws es → RepL K F (vs ++ ws) (ds ++ es)
  | _, _, _, _, .nil, s => s
  | _, _, _, _, .cons h r, s => .cons h (RepL.append r s)
theorem RepL.get : ∀ {vs : List V} {ds : List D} {i : Nat} {d : D}, RepL K F vs ds → ds[i]? = some d → ∃ v, vs[i]? = some v ∧ Rep K F v d
  | _, _, _, _, .nil, e => by simp at e
  | _, _, 0, _, .cons h r, e => by simp at e; subst e; exact ⟨_, rfl, h⟩
  | _, _, i + 1, d, .cons h r, e => by
    obtain ⟨v, h1, h2⟩ := RepL.get (i := i) (d := d) r (by simpa using e)
    exact ⟨v, by simpa using h1, h2⟩
theorem RepL.get' : ∀ {vs : List V} {ds : List D} {i : Nat} {v : V}, RepL K F vs ds → vs[i]? = some v → ∃ d, ds[i]? = some d ∧ Rep K F v d
  | _, _, _, _, .nil, e => by simp at e
  | _, _, 0, _, .cons h r, e => by simp at e; subst e; exact ⟨_, rfl, h⟩
  | _, _, i + 1, d, .cons h r, e => by
    obtain ⟨v, h1, h2⟩ := RepL.get' (i := i) (v := d) r (by simpa using e)
    exact ⟨v, by simpa using h1, h2⟩
theorem RepL.set {x : V} {d : D} (h : Rep K F x d) : ∀ {vs : List V} {ds : List D} (i : Nat), RepL K F vs ds → RepL K F (vs.set i x) (ds.set i d)
  | _, _, _, .nil => .nil
  | _, _, 0, .cons _ r => .cons h r
  | _, _, i + 1, .cons q r => .cons q (RepL.set h i r)
theorem RepL.take : ∀ {vs : List V} {ds : List D} (n : Nat), RepL K F vs ds → RepL K F (vs.take n) (ds.take n)
  | _, _, 0, _ => .nil
  | _, _, _ + 1, .nil => .nil
  | _, _, n + 1, .cons h r => .cons h (RepL.take n r)
theorem RepL.drop : ∀ {vs : List V} {ds : List D} (n : Nat), RepL K F vs ds → RepL K F (vs.drop n) (ds.drop n)
  | _, _, 0, r => r
  | _, _, _ + 1, .nil => .nil
  | _, _, n + 1, .cons _ r => RepL.drop n r
theorem RepL.rev : ∀ {vs : List V} {ds : List D}, RepL K F vs ds → RepL K F vs.reverse ds.reverse
  | _, _, .nil => .nil
  | _, _, .cons h r => by
    rw [List.reverse_cons, List.reverse_cons]
    exact (RepL.rev r).append (.cons h .nil)
theorem RepL.ints : ∀ {vs : List V} {ns : List Int}, RepL K F vs (ns.map PyData.int) → vs = ns.map V.int
  | _, [], .nil => rfl
  | _, n :: ns, .cons h r => by
    cases h
    rw [RepL.ints (ns := ns) r]
    rfl
theorem RepL.of_ints : ∀ (ns : List Int), RepL K F (ns.map V.int) (ns.map PyData.int)
  | [] => .nil
  | n :: ns => .cons (.int n) (RepL.of_ints ns)
theorem RepL.bools : ∀ {vs : List V} {ns : List Bool}, RepL K F vs (ns.map PyData.bool) → vs = ns.map V.bl
  | _, [], .nil => rfl
  | _, n :: ns, .cons h r => by
    cases h
    rw [RepL.bools (ns := ns) r]
    rfl
theorem RepL.strs : ∀ {vs : List V} {ns : List Str}, RepL K F vs (ns.map PyData.str) → vs = ns.map V.str
  | _, [], .nil => rfl
  | _, n :: ns, .cons h r => by
    cases h
    rw [RepL.strs (ns := ns) r]
    rfl
end

/-- the world of a body: F what stands still, B what is others' own, L the lent objects by slot -/
structure Wd where
  F : Hp
  B : Hp
  L : Nat → Option Addr
/-- a deck whose third number is at most n -/
def DkOk (n : Nat) (xs : List V) : Prop := ∃ d0 d1 t : Int, xs = [.int d0, .int d1, .int t] ∧ 0 ≤ d0 ∧ 0 ≤ d1 ∧ d1 < 2147483579 ∧ 0 ≤ t ∧ t ≤ n
theorem DkOk.mono {n m : Nat} {xs : List V} (h : DkOk n xs) (l : n ≤ m) : DkOk m xs := by
  obtain ⟨a, b, c, e, h1, h2, h3, h4, h5⟩ := h
  exact ⟨a, b, c, e, h1, h2, h3, h4, by omega⟩
/-- an object of one's own -/
structure Own (W : Wd) (H : Hp) (a : Addr) (o : HO) : Prop where
  at_ : H a = some o
  f : W.F a = none
  b : W.B a = none
def SlOk (K : PySem.W.Frag) (W : Wd) (H : Hp) (i : Nat) : Sl → Option V → Prop
  | .un, _ => True
  | .v d, x => ∃ y, x = some y ∧ Rep K W.F y d
  | .ol ds, x => ∃ a vs, x = some (.ref a) ∧ Own W H a (.lst vs) ∧ RepL K W.F vs ds
  | .dk n, x => ∃ a vs, x = some (.ref a) ∧ Own W H a (.lst vs) ∧ DkOk n vs
  | .ld n, x => ∃ a vs, x = some (.ref a) ∧ Own W H a (.lst vs) ∧ DkOk n vs ∧ W.L i = some a
/-- an address that a slot owns -/
def Mine (δ : En) (σ : St) (a : Addr) : Prop := ∃ (i : Nat) (s : Sl), δ[i]? = some s ∧ s.own = true ∧ σ[i]? = some (some (.ref a))
structure R (K : PySem.W.Frag) (W : Wd) (δ : En) (σ : St) (H : Hp) : Prop where
  len : δ.length = σ.length
  sub : Ex W.F H
  bs : ∀ (a : Addr) (o : HO), W.B a = some o → H a = some o ∧ W.F a = none
  sl : ∀ (i : Nat) (s : Sl), δ[i]? = some s → ∃ x, σ[i]? = some x ∧ SlOk K W H i s x
  ne : ∀ (i j : Nat) (s s' : Sl), i ≠ j → δ[i]? = some s → δ[j]? = some s' → s.own = true → s'.own = true → σ[i]? ≠ σ[j]?
structure Stp (W W' : Wd) : Prop where
  ex : Ex W.F W'.F
  b : W'.B = W.B
  l : W'.L = W.L
theorem Stp.refl (W : Wd) : Stp W W := ⟨Ex.refl _, rfl, rfl⟩
theorem Stp.trans {A B C : Wd} (a : Stp A B) (b : Stp B C) : Stp A C := ⟨a.ex.trans b.ex, b.b.trans a.b, b.l.trans a.l⟩
section
variable {K : PySem.W.Frag} {W W' : Wd} {δ : En} {σ : St} {H H' : Hp}
theorem R.mine (h : R K W δ σ H) {a : Addr} (m : Mine δ σ a) : ∃ o, Own W H a o := by
  obtain ⟨i, s, e, o, q⟩ := m
  obtain ⟨x, ex, k⟩ := h.sl i s e
  rw [q] at ex
  cases ex
  cases s with
  | un => cases o
  | v d => cases o
  | ol ds => obtain ⟨b, vs, e1, w, _⟩ := k; cases e1; exact ⟨_, w⟩
  | dk n => obtain ⟨b, vs, e1, w, _⟩ := k; cases e1; exact ⟨_, w⟩
  | ld n => obtain ⟨b, vs, e1, w, _⟩ := k; cases e1; exact ⟨_, w⟩
/-- the world grows; what is owned stays -/
theorem R.ext (h : R K W δ σ H) (st : Stp W W') (s : Ex W'.F H') (hB : ∀ a o, W.B a = some o → H' a = some o ∧ W'.F a = none)
    (hM : ∀ a, Mine δ σ a → H' a = H a ∧ W'.F a = none) : R K W' δ σ H' := by
  refine ⟨h.len, s, fun a o e => ?_, fun i sl e => ?_, h.ne⟩
  · rw [st.b] at e; exact hB a o e
  · obtain ⟨x, ex, k⟩ := h.sl i sl e
    refine ⟨x, ex, ?_⟩
    have own : ∀ a o, x = some (.ref a) → sl.own = true → Own W H a o → Own W' H' a o := fun a o e1 hs w => by
      obtain ⟨m1, m2⟩ := hM a ⟨i, sl, e, hs, by rw [ex, e1]⟩
      exact ⟨by rw [m1]; exact w.at_, m2, by rw [st.b]; exact w.b⟩
    cases sl with
    | un => trivial
    | v d => obtain ⟨y, e1, r⟩ := k; exact ⟨y, e1, r.mono st.ex⟩
    | ol ds => obtain ⟨a, vs, e1, w, r⟩ := k; exact ⟨a, vs, e1, own a _ e1 rfl w, r.mono st.ex⟩
    | dk n => obtain ⟨a, vs, e1, w, r⟩ := k; exact ⟨a, vs, e1, own a _ e1 rfl w, r⟩
    | ld n => obtain ⟨a, vs, e1, w, r, l⟩ := k; exact ⟨a, vs, e1, own a _ e1 rfl w, r, by rw [st.l]; exact l⟩
/-- a free address is nobody's -/
theorem R.free (h : R K W δ σ H) {p : Addr} (hp : H p = none) : W.F p = none ∧ W.B p = none ∧ ¬ Mine δ σ p := by
  refine ⟨h.sub.none hp, ?_, fun m => ?_⟩
  · cases q : W.B p with
    | none => rfl
    | some o => rw [(h.bs p o q).1] at hp; cases hp
  · obtain ⟨o, w⟩ := h.mine m
    rw [w.at_] at hp; cases hp
def Wd.fz (W : Wd) (p : Addr) (o : HO) : Wd := { W with F := upd W.F p o }
theorem Stp.fz {p : Addr} {o : HO} (h : W.F p = none) : Stp W (W.fz p o) := ⟨Ex.new h, rfl, rfl⟩
/-- a thing that stands at p, and is nobody's, stands still from now on -/
theorem R.froz (h : R K W δ σ H) {p : Addr} {o : HO} (hp : H p = some o) (hf : W.F p = none) (hb : W.B p = none) (hm : ¬ Mine δ σ p) : R K (W.fz p o) δ σ H := by
  refine h.ext (Stp.fz hf) (fun a u e => ?_) (fun a u e => ⟨(h.bs a u e).1, ?_⟩) (fun a m => ⟨rfl, ?_⟩)
  · by_cases ha : a = p
    · subst ha
      have : (upd W.F a o) a = some u := e
      rw [upd_same] at this; rw [hp]; exact this
    · have : (upd W.F p o) a = some u := e
      rw [upd_ne ha] at this
      exact h.sub a u this
  · show (upd W.F p o) a = none
    have : a ≠ p := fun z => by rw [z, hb] at e; cases e
    rw [upd_ne this]; exact (h.bs a u e).2
  · show (upd W.F p o) a = none
    have : a ≠ p := fun z => hm (z ▸ m)
    rw [upd_ne this]
    obtain ⟨o', w⟩ := h.mine m
    exact w.f
/-- a new thing is laid, nobody's -/
theorem R.laid (h : R K W δ σ H) {p : Addr} {o : HO} (hp : H p = none) : R K W δ σ (upd H p o) := by
  obtain ⟨f1, f2, f3⟩ := h.free hp
  refine h.ext (Stp.refl W) (h.sub.trans (Ex.new hp)) (fun a u e => ⟨?_, (h.bs a u e).2⟩) (fun a m => ⟨?_, ?_⟩)
  · have : a ≠ p := fun z => by rw [z, f2] at e; cases e
    rw [upd_ne this]; exact (h.bs a u e).1
  · have : a ≠ p := fun z => f3 (z ▸ m)
    rw [upd_ne this]
  · obtain ⟨o', w⟩ := h.mine m
    exact w.f
/-- a new thing that stands still -/
theorem R.new (h : R K W δ σ H) {p : Addr} {o : HO} (hp : H p = none) : R K (W.fz p o) δ σ (upd H p o) := by
  obtain ⟨f1, f2, f3⟩ := h.free hp
  exact (h.laid hp).froz upd_same f1 f2 f3
theorem R.newStp (h : R K W δ σ H) {p : Addr} {o : HO} (hp : H p = none) : Stp W (W.fz p o) := Stp.fz (h.free hp).1
/-- a slot gets data -/
theorem R.setV (h : R K W δ σ H) {i : Nat} {y : V} {d : D} (r : Rep K W.F y d) : R K W (δ.set i (.v d)) (σ.set i (some y)) H := by
  refine ⟨by rw [List.length_set, List.length_set]; exact h.len, h.sub, h.bs, fun j s e => ?_, fun j k s s' hjk e1 e2 o1 o2 => ?_⟩
  · by_cases hj : i = j
    · subst hj
      have hi : i < δ.length := by
        have := (List.getElem?_eq_some_iff.mp e).1
        rw [List.length_set] at this; exact this
      rw [List.getElem?_set_self hi] at e
      cases e
      exact ⟨some y, List.getElem?_set_self (by rw [← h.len]; exact hi), y, rfl, r⟩
    · rw [List.getElem?_set_ne hj] at e
      obtain ⟨x, ex, k⟩ := h.sl j s e
      exact ⟨x, by rw [List.getElem?_set_ne hj]; exact ex, k⟩
  · have nj : i ≠ j := fun z => by
      subst z
      have hi : i < δ.length := by
        have := (List.getElem?_eq_some_iff.mp e1).1
        rw [List.length_set] at this; exact this
      rw [List.getElem?_set_self hi] at e1; cases e1; cases o1
    have nk : i ≠ k := fun z => by
      subst z
      have hi : i < δ.length := by
        have := (List.getElem?_eq_some_iff.mp e2).1
        rw [List.length_set] at this; exact this
      rw [List.getElem?_set_self hi] at e2; cases e2; cases o2
    rw [List.getElem?_set_ne nj] at e1
    rw [List.getElem?_set_ne nk] at e2
    rw [List.getElem?_set_ne nj, List.getElem?_set_ne nk]
    exact h.ne j k s s' hjk e1 e2 o1 o2
/-- a slot gets a thing of its own at p, told by the slot's word s -/
theorem R.setO (h : R K W δ σ H) {i : Nat} {p : Addr} {s : Sl} (hp : ¬ Mine δ σ p) (k : SlOk K W H i s (some (.ref p))) (hi : i < δ.length) : R K W (δ.set i s) (σ.set i (some (.ref p))) H := by
  have hi' : i < σ.length := by rw [← h.len]; exact hi
  refine ⟨by rw [List.length_set, List.length_set]; exact h.len, h.sub, h.bs, fun j s' e => ?_, fun j l s1 s2 hjl e1 e2 o1 o2 z => ?_⟩
  · by_cases hj : i = j
    · subst hj
      rw [List.getElem?_set_self hi] at e
      cases e
      exact ⟨_, List.getElem?_set_self hi', k⟩
    · rw [List.getElem?_set_ne hj] at e
      obtain ⟨x, ex, k'⟩ := h.sl j s' e
      exact ⟨x, by rw [List.getElem?_set_ne hj]; exact ex, k'⟩
  · by_cases hj : i = j
    · subst hj
      have nl : i ≠ l := hjl
      rw [List.getElem?_set_ne nl] at e2
      rw [List.getElem?_set_self hi', List.getElem?_set_ne nl] at z
      exact hp ⟨l, s2, e2, o2, z.symm⟩
    · by_cases hl : i = l
      · subst hl
        rw [List.getElem?_set_ne hj] at e1
        rw [List.getElem?_set_self hi', List.getElem?_set_ne hj] at z
        exact hp ⟨j, s1, e1, o1, z⟩
      · rw [List.getElem?_set_ne hj] at e1
        rw [List.getElem?_set_ne hl] at e2
        rw [List.getElem?_set_ne hj, List.getElem?_set_ne hl] at z
        exact h.ne j l s1 s2 hjl e1 e2 o1 o2 z
/-- an own thing changes: the slot's word changes from s0 (own) to s (own) -/
theorem R.chg (h : R K W δ σ H) {i : Nat} {p : Addr} {s0 s : Sl} {o : HO} (hi : δ[i]? = some s0) (ho : s0.own = true) (hσ : σ[i]? = some (some (.ref p)))
    (k : SlOk K W (upd H p o) i s (some (.ref p))) : R K W (δ.set i s) σ (upd H p o) := by
  have hlt : i < δ.length := (List.getElem?_eq_some_iff.mp hi).1
  obtain ⟨o0, w⟩ := h.mine ⟨i, s0, hi, ho, hσ⟩
  have oth : ∀ j s', i ≠ j → δ[j]? = some s' → s'.own = true → ∀ a, σ[j]? = some (some (.ref a)) → a ≠ p := fun j s' hj e hs a ha z => by
    subst z
    exact h.ne i j s0 s' hj hi e ho hs (hσ.trans ha.symm)
  refine ⟨by rw [List.length_set]; exact h.len, fun a u e => ?_, fun a u e => ⟨?_, (h.bs a u e).2⟩, fun j s' e => ?_, fun j l s1 s2 hjl e1 e2 o1 o2 => ?_⟩
  · have : a ≠ p := fun z => by rw [z, w.f] at e; cases e
    rw [upd_ne this]; exact h.sub a u e
  · have : a ≠ p := fun z => by rw [z, w.b] at e; cases e
    rw [upd_ne this]; exact (h.bs a u e).1
  · by_cases hj : i = j
    · subst hj
      rw [List.getElem?_set_self hlt] at e
      cases e
      exact ⟨_, hσ, k⟩
    · rw [List.getElem?_set_ne hj] at e
      obtain ⟨x, ex, k'⟩ := h.sl j s' e
      refine ⟨x, ex, ?_⟩
      have own : ∀ a o', x = some (.ref a) → s'.own = true → Own W H a o' → Own W (upd H p o) a o' := fun a o' e1 hs w' => by
        have := oth j s' hj e hs a (by rw [ex, e1])
        exact ⟨by rw [upd_ne this]; exact w'.at_, w'.f, w'.b⟩
      cases s' with
      | un => trivial
      | v d => exact k'
      | ol ds => obtain ⟨a, vs, e1, w', r⟩ := k'; exact ⟨a, vs, e1, own a _ e1 rfl w', r⟩
      | dk n => obtain ⟨a, vs, e1, w', r⟩ := k'; exact ⟨a, vs, e1, own a _ e1 rfl w', r⟩
      | ld n => obtain ⟨a, vs, e1, w', r, q⟩ := k'; exact ⟨a, vs, e1, own a _ e1 rfl w', r, q⟩
  · have : ∀ (m : Nat) (sm : Sl), (δ.set i s)[m]? = some sm → sm.own = true → ∃ sm' : Sl, δ[m]? = some sm' ∧ sm'.own = true := fun m sm e o' => by
      by_cases hm : i = m
      · subst hm; exact ⟨s0, hi, ho⟩
      · rw [List.getElem?_set_ne hm] at e; exact ⟨sm, e, o'⟩
    obtain ⟨s1', e1', o1'⟩ := this j s1 e1 o1
    obtain ⟨s2', e2', o2'⟩ := this l s2 e2 o2
    exact h.ne j l s1' s2' hjl e1' e2' o1' o2'
/-- a slot's word is forgotten, or turned to data that stands still -/
theorem R.drop (h : R K W δ σ H) {i : Nat} {s : Sl} (hs : s.own = false) (k : ∀ x, σ[i]? = some x → SlOk K W H i s x) : R K W (δ.set i s) σ H := by
  refine ⟨by rw [List.length_set]; exact h.len, h.sub, h.bs, fun j s' e => ?_, fun j l s1 s2 hjl e1 e2 o1 o2 => ?_⟩
  · by_cases hj : i = j
    · subst hj
      have hlt : i < δ.length := by
        have := (List.getElem?_eq_some_iff.mp e).1
        rw [List.length_set] at this; exact this
      rw [List.getElem?_set_self hlt] at e
      cases e
      have hσ : i < σ.length := by rw [← h.len]; exact hlt
      exact ⟨σ[i], List.getElem?_eq_getElem hσ, k _ (List.getElem?_eq_getElem hσ)⟩
    · rw [List.getElem?_set_ne hj] at e
      exact h.sl j s' e
  · have : ∀ (m : Nat) (sm : Sl), (δ.set i s)[m]? = some sm → sm.own = true → δ[m]? = some sm := fun m sm e o' => by
      by_cases hm : i = m
      · subst hm
        have hlt : i < δ.length := by
          have := (List.getElem?_eq_some_iff.mp e).1
          rw [List.length_set] at this; exact this
        rw [List.getElem?_set_self hlt] at e
        cases e
        rw [hs] at o'; cases o'
      · rw [List.getElem?_set_ne hm] at e; exact e
    exact h.ne j l s1 s2 hjl (this j s1 e1 o1) (this l s2 e2 o2) o1 o2
end
end DL
/-! The data layer: expressions. -/
namespace DL
open PySem PySem.Spec L2
open PyProof.Rows hiding St

abbrev DT := En → (D → En → Prop) → Prop
abbrev DTb := En → (Bool → En → Prop) → Prop
abbrev DTa := En → (List D → En → Prop) → Prop
def tD (K : PySem.W.Frag) (t : DT) : TE := fun σ H Q => ∃ W δ Qd, R K W δ σ H ∧ t δ Qd ∧ ∀ W' δ' v H' d, Stp W W' → R K W' δ' σ H' → Rep K W'.F v d → Qd d δ' → Q v H'
def tDb (K : PySem.W.Frag) (t : DTb) : TT := fun σ H Q => ∃ W δ Qd, R K W δ σ H ∧ t δ Qd ∧ ∀ W' δ' b H', Stp W W' → R K W' δ' σ H' → Qd b δ' → Q b H'
def tDa (K : PySem.W.Frag) (n : Nat) (t : DTa) : TA := fun σ H Q => ∃ W δ Qd, R K W δ σ H ∧ t δ Qd ∧ ∀ W' δ' vs H' ds, Stp W W' → R K W' δ' σ H' → RepL K W'.F vs ds → ds.length = n → Qd ds δ' → Q vs H'
abbrev DX (X : Cx) (e : Expr) (t : DT) : Prop := PE X e (tD X.K t)
abbrev DB (X : Cx) (e : Expr) (t : DTb) : Prop := PT X e (tDb X.K t)
abbrev DW (X : Cx) (e : Expr) (t : DTb) : Prop := PW X e (tDb X.K t)
abbrev DA (X : Cx) (es : List Expr) (n : Nat) (t : DTa) : Prop := PA X es (tDa X.K n t)
section
variable {X : Cx} {e : Expr} {te te' : TE} {tt tt' : TT}
theorem pe_imp (h : PE X e te) (k : ∀ σ H Q, te' σ H Q → te σ H Q) : PE X e te' := ⟨fun pins s σ H Q I q => h.run pins s σ H Q I (k σ H Q q)⟩
theorem pt_imp (h : PT X e tt) (k : ∀ σ H Q, tt' σ H Q → tt σ H Q) : PT X e tt' := ⟨fun pins s σ H Q I q => h.run pins s σ H Q I (k σ H Q q)⟩
theorem pw_imp (h : PW X e tt) (k : ∀ σ H Q, tt' σ H Q → tt σ H Q) : PW X e tt' := ⟨fun w pins s σ H Q I q => h.run w pins s σ H Q I (k σ H Q q)⟩
theorem pa_imp {es : List Expr} {ta ta' : TA} (h : PA X es ta) (k : ∀ σ H Q, ta' σ H Q → ta σ H Q) : PA X es ta' := ⟨fun pos pins s σ H Q I q => h.run pos pins s σ H Q I (k σ H Q q)⟩
end
/-- a result at once -/
theorem tD.now {K : PySem.W.Frag} {W : Wd} {δ : En} {σ : St} {H : Hp} {Qd : D → En → Prop} {Q : VK} {v : V} {d : D} (r : R K W δ σ H) (k : ∀ W' δ' v H' d, Stp W W' → R K W' δ' σ H' → Rep K W'.F v d → Qd d δ' → Q v H') (rv : Rep K W.F v d) (q : Qd d δ) : Q v H :=
  k W δ v H d (Stp.refl W) r rv q
/-! ### names, constants -/
def dVar (i : Nat) : DT := fun δ Q => match δ[i]? with
  | some (.v d) => Q d δ
  | _ => False
def dC (d : D) : DT := fun δ Q => Q d δ
section
variable {X : Cx} {e a b c : Expr} {es : List Expr} {t ta tb tc : DT} {n : Nat} {pos : Pos}
theorem d_var (i : Nat) {x : Str} {pos : Pos} (hN : X.N[i]? = some x := by rfl) (hv : Vis X.env.scope x := by first | exact Or.inl rfl | exact Or.inr (Or.inl rfl) | exact Or.inr (Or.inr rfl)) (hd : (x == ("__debug__" : Str)) = false := by decide)
    (hcd : (x == ("__classdict__" : Str)) = false := by decide) : DX X (.Name x pos) (dVar i) := by
  refine pe_imp (pe_var hN hv hd hcd) ?_
  rintro σ H Q ⟨W, δ, Qd, r, ht, k⟩
  unfold dVar at ht
  split at ht
  · rename_i d hd
    obtain ⟨x, ex, y, e1, ry⟩ := r.sl i _ hd
    exact ⟨y, by rw [ex, e1], k W δ y H d (Stp.refl W) r ry ht⟩
  · exact ht.elim
theorem d_of {te : TE} {d : D} {v : V} (h : PE X e te) (hv : ∀ F, Rep X.K F v d) (k : ∀ σ H (Q : VK), Q v H → te σ H Q) : DX X e (dC d) :=
  pe_imp h fun σ H Q ⟨W, δ, Qd, r, ht, q⟩ => k σ H Q (tD.now r q (hv _) ht)
theorem d_int {i j pos} : DX X (.Constant (.int i) j pos) (dC (.int i)) := d_of pe_int (fun _ => .int i) fun _ _ _ q => q
theorem d_bl {b j pos} : DX X (.Constant (.bool b) j pos) (dC (.bool b)) := d_of pe_bl (fun _ => .bl b) fun _ _ _ q => q
theorem d_non {j pos} : DX X (.Constant .none j pos) (dC .none) := d_of pe_non (fun _ => .non) fun _ _ _ q => q
theorem d_str {x j pos} : DX X (.Constant (.str x) j pos) (dC (.str x)) := d_of pe_str (fun _ => .str x) fun _ _ _ q => q
/-- a module's constant -/
theorem d_glob {x : Str} {v : V} {d : D} {u : Value} {pos : Pos} (hg : Gl X x) (hm : X.mg x = some u) (r : RelV v u) (hv : ∀ F, Rep X.K F v d) (hd : (x == ("__debug__" : Str)) = false := by decide) : DX X (.Name x pos) (dC d) :=
  d_of (pe_glob hg hm r hd) hv fun _ _ _ q => q
/-! ### operators -/
def OpD (K : PySem.W.Frag) (r : R2) (g : D → D → (D → Prop) → Prop) : Prop :=
  ∀ W δ σ H x y dx dy (Qd : D → Prop) (Q : VK), R K W δ σ H → Rep K W.F x dx → Rep K W.F y dy → g dx dy Qd → (∀ W' v H' d, Stp W W' → R K W' δ σ H' → Rep K W'.F v d → Qd d → Q v H') → r x y H Q
def dOp (g : D → D → (D → Prop) → Prop) (ta tb : DT) : DT := fun δ Q => ta δ fun x δ1 => tb δ1 fun y δ2 => g x y fun z => Q z δ2
theorem tD_op {K : PySem.W.Frag} {r : R2} {g : D → D → (D → Prop) → Prop} (hd : OpD K r g) {σ : St} {H : Hp} {Q : VK} (h : tD K (dOp g ta tb) σ H Q) : tOp r (tD K ta) (tD K tb) σ H Q := by
  obtain ⟨W, δ, Qd, R0, ht, k⟩ := h
  refine ⟨W, δ, _, R0, ht, fun W1 δ1 x H1 dx s1 R1 rx q1 => ⟨W1, δ1, _, R1, q1, fun W2 δ2 y H2 dy s2 R2 ry q2 => ?_⟩⟩
  exact hd W2 δ2 σ H2 x y dx dy _ Q R2 (rx.mono s2.ex) ry q2 fun W3 v H3 d s3 R3 rv q3 => k W3 δ2 v H3 d ((s1.trans s2).trans s3) R3 rv q3
theorem d_op {op : Operator} {r : R2} {g : D → D → (D → Prop) → Prop} (ho : OpR X (binaryOp op) r) (hd : OpD X.K r g) (ha : DX X a ta) (hb : DX X b tb) : DX X (.BinOp a op b pos) (dOp g ta tb) :=
  pe_imp (pe_op ho ha hb) fun _ _ _ h => tD_op hd h
theorem d_cmp {op : CmpOp} {r : R2} {g : D → D → (D → Prop) → Prop} (ho : OpR X (compareOp op) r) (hd : OpD X.K r g) (ha : DX X a ta) (hb : DX X b tb) (hm : behindInMarks op b = false) : DX X (.Compare a [op] [b] pos) (dOp g ta tb) :=
  pe_imp (pe_cmpR ho ha hb hm) fun _ _ _ h => tD_op hd h
def dTst (t : DT) : DTb := fun δ Q => t δ fun d δ' => match d with
  | .bool b => Q b δ'
  | _ => False
theorem tDb_tst {K : PySem.W.Frag} {te : TE} {σ : St} {H : Hp} {Q : Bool → Hp → Prop} (h : tDb K (dTst t) σ H Q) (k : ∀ (Q' : VK), tD K t σ H Q' → te σ H Q') : te σ H fun x H' => ∃ c, x = .bl c ∧ Q c H' := by
  obtain ⟨W, δ, Qd, R0, ht, q⟩ := h
  refine k _ ⟨W, δ, _, R0, ht, fun W1 δ1 v H1 d s1 R1 rv q1 => ?_⟩
  cases rv with
  | bl b => exact ⟨b, rfl, q W1 δ1 b H1 s1 R1 q1⟩
  | _ => exact q1.elim
/-- a comparison as a test -/
theorem b_cmp {op : CmpOp} {r : R2} {g : D → D → (D → Prop) → Prop} (ho : OpR X (compareOp op) r) (hd : OpD X.K r g) (ha : DX X a ta) (hb : DX X b tb) (hm : behindInMarks op b = false) : DB X (.Compare a [op] [b] pos) (dTst (dOp g ta tb)) :=
  pt_imp (pt_cmpR ho ha hb hm) fun _ _ _ h => tDb_tst h fun _ z => tD_op hd z
/-- any expression that gives a bool, as a test -/
theorem b_val (h : DX X e t) (he : ∀ whole, isTrue e X.env whole = (do let v ← whole; standAt e.pos; holding [v] (truthy v)) := by intro _; rfl) : DB X e (dTst t) :=
  pt_imp (pt_val h he) fun _ _ _ z => tDb_tst z fun _ w => w
def dChain (g g' : D → D → (D → Prop) → Prop) (ta tb tc : DT) : DT := fun δ Q => ta δ fun x δ1 => tb δ1 fun y δ2 => g x y fun z => match z with
  | .bool k => (match k with | true => tc δ2 fun w δ3 => g' y w fun z' => Q z' δ3 | false => Q (.bool false) δ2)
  | _ => False
theorem tD_chain {K : PySem.W.Frag} {r r' : R2} {g g' : D → D → (D → Prop) → Prop} (hd : OpD K r g) (hd' : OpD K r' g') {σ : St} {H : Hp} {Q : VK} (h : tD K (dChain g g' ta tb tc) σ H Q) : tChain r r' (tD K ta) (tD K tb) (tD K tc) σ H Q := by
  obtain ⟨W, δ, Qd, R0, ht, k⟩ := h
  refine ⟨W, δ, _, R0, ht, fun W1 δ1 x H1 dx s1 R1 rx q1 => ⟨W1, δ1, _, R1, q1, fun W2 δ2 y H2 dy s2 R2 ry q2 => ?_⟩⟩
  refine hd W2 δ2 σ H2 x y dx dy _ _ R2 (rx.mono s2.ex) ry q2 fun W3 v H3 d s3 R3 rv q3 => ?_
  cases rv with
  | bl b =>
    refine ⟨b, rfl, ?_⟩
    cases b with
    | false => exact k W3 δ2 _ H3 _ ((s1.trans s2).trans s3) R3 (.bl false) q3
    | true =>
      refine ⟨W3, δ2, _, R3, q3, fun W4 δ4 w H4 dw s4 R4 rw q4 => ?_⟩
      exact hd' W4 δ4 σ H4 y w dy dw _ Q R4 (ry.mono (s3.trans s4).ex) rw q4 fun W5 v H5 d s5 R5 rv q5 => k W5 δ4 v H5 d (((s1.trans s2).trans s3).trans (s4.trans s5)) R5 rv q5
  | _ => exact q3.elim
theorem d_chain {op op' : CmpOp} {r r' : R2} {g g' : D → D → (D → Prop) → Prop} (ho : OpR X (compareOp op) r) (hd : OpD X.K r g) (ho' : OpR X (compareOp op') r') (hd' : OpD X.K r' g') (ha : DX X a ta) (hb : DX X b tb) (hc : DX X c tc)
    (hm : lastMarks [op, op'] [b, c] = false := by with_unfolding_all rfl) : DX X (.Compare a [op, op'] [b, c] pos) (dChain g g' ta tb tc) :=
  pe_imp (pe_chain ho ho' ha hb hc hm) fun _ _ _ h => tD_chain hd hd' h
theorem b_chain {op op' : CmpOp} {r r' : R2} {g g' : D → D → (D → Prop) → Prop} (ho : OpR X (compareOp op) r) (hd : OpD X.K r g) (ho' : OpR X (compareOp op') r') (hd' : OpD X.K r' g') (ha : DX X a ta) (hb : DX X b tb) (hc : DX X c tc)
    (hm : lastMarks [op, op'] [b, c] = false := by with_unfolding_all rfl) : DB X (.Compare a [op, op'] [b, c] pos) (dTst (dChain g g' ta tb tc)) :=
  pt_imp (pt_chain ho ho' ha hb hc hm) fun _ _ _ h => tDb_tst h fun _ z => tD_chain hd hd' z
/-! ### and, or, not, if .. else -/
variable {ua ub : DTb} {rest : List Expr}
def bAnd (t u : DTb) : DTb := fun δ Q => t δ fun c δ1 => match c with | true => u δ1 Q | false => Q false δ1
def bOr (t u : DTb) : DTb := fun δ Q => t δ fun c δ1 => match c with | true => Q true δ1 | false => u δ1 Q
def bNot (t : DTb) : DTb := fun δ Q => t δ fun c δ1 => Q (!c) δ1
theorem w_and1 (ha : DB X a ua) : DW X (.BoolOp .And [a] pos) ua := pw_and1 ha
theorem w_or1 (ha : DB X a ua) : DW X (.BoolOp .Or [a] pos) ua := pw_or1 ha
theorem w_and (ha : DB X a ua) (hb : DW X (.BoolOp .And (b :: rest) pos) ub) : DW X (.BoolOp .And (a :: b :: rest) pos) (bAnd ua ub) :=
  pw_imp (pw_and ha hb) fun σ H Q ⟨W, δ, Qd, R0, ht, k⟩ => ⟨W, δ, _, R0, ht, fun W1 δ1 c H1 s1 R1 q1 => by
    cases c with
    | true => exact ⟨W1, δ1, _, R1, q1, fun W2 δ2 b H2 s2 R2 q2 => k W2 δ2 b H2 (s1.trans s2) R2 q2⟩
    | false => exact k W1 δ1 false H1 s1 R1 q1⟩
theorem w_or (ha : DB X a ua) (hb : DW X (.BoolOp .Or (b :: rest) pos) ub) : DW X (.BoolOp .Or (a :: b :: rest) pos) (bOr ua ub) :=
  pw_imp (pw_or ha hb) fun σ H Q ⟨W, δ, Qd, R0, ht, k⟩ => ⟨W, δ, _, R0, ht, fun W1 δ1 c H1 s1 R1 q1 => by
    cases c with
    | false => exact ⟨W1, δ1, _, R1, q1, fun W2 δ2 b H2 s2 R2 q2 => k W2 δ2 b H2 (s1.trans s2) R2 q2⟩
    | true => exact k W1 δ1 true H1 s1 R1 q1⟩
theorem b_w (h : DW X e ua) : DB X e ua := h.pt
theorem b_not (ha : DB X a ua) : DB X (.UnaryOp .Not a pos) (bNot ua) :=
  pt_imp (pt_not ha) fun σ H Q ⟨W, δ, Qd, R0, ht, k⟩ => ⟨W, δ, _, R0, ht, fun W1 δ1 c H1 s1 R1 q1 => k W1 δ1 (!c) H1 s1 R1 q1⟩
def dAnd (ta tb : DT) : DT := fun δ Q => ta δ fun x δ1 => match x with | .bool c => (match c with | true => tb δ1 Q | false => Q (.bool false) δ1) | _ => False
def dOr (ta tb : DT) : DT := fun δ Q => ta δ fun x δ1 => match x with | .bool c => (match c with | true => Q (.bool true) δ1 | false => tb δ1 Q) | _ => False
def dNot (ta : DT) : DT := fun δ Q => ta δ fun x δ1 => match x with | .bool c => Q (.bool (!c)) δ1 | _ => False
theorem d_one {op} (h : DX X a ta) : DX X (.BoolOp op [a] pos) ta := pe_one h
theorem d_and (ha : DX X a ta) (hb : DX X (.BoolOp .And (b :: rest) pos) tb) : DX X (.BoolOp .And (a :: b :: rest) pos) (dAnd ta tb) :=
  pe_imp (pe_and ha hb) fun σ H Q ⟨W, δ, Qd, R0, ht, k⟩ => ⟨W, δ, _, R0, ht, fun W1 δ1 v H1 d s1 R1 rv q1 => by
    cases rv with
    | bl c =>
      refine ⟨c, rfl, ?_⟩
      cases c with
      | true => exact ⟨W1, δ1, _, R1, q1, fun W2 δ2 v H2 d s2 R2 r2 q2 => k W2 δ2 v H2 d (s1.trans s2) R2 r2 q2⟩
      | false => exact k W1 δ1 _ H1 _ s1 R1 (.bl false) q1
    | _ => exact q1.elim⟩
theorem d_or (ha : DX X a ta) (hb : DX X (.BoolOp .Or (b :: rest) pos) tb) : DX X (.BoolOp .Or (a :: b :: rest) pos) (dOr ta tb) :=
  pe_imp (pe_or ha hb) fun σ H Q ⟨W, δ, Qd, R0, ht, k⟩ => ⟨W, δ, _, R0, ht, fun W1 δ1 v H1 d s1 R1 rv q1 => by
    cases rv with
    | bl c =>
      refine ⟨c, rfl, ?_⟩
      cases c with
      | false => exact ⟨W1, δ1, _, R1, q1, fun W2 δ2 v H2 d s2 R2 r2 q2 => k W2 δ2 v H2 d (s1.trans s2) R2 r2 q2⟩
      | true => exact k W1 δ1 _ H1 _ s1 R1 (.bl true) q1
    | _ => exact q1.elim⟩
theorem d_not (ha : DX X a ta) : DX X (.UnaryOp .Not a pos) (dNot ta) :=
  pe_imp (pe_not ha) fun σ H Q ⟨W, δ, Qd, R0, ht, k⟩ => ⟨W, δ, _, R0, ht, fun W1 δ1 v H1 d s1 R1 rv q1 => by
    cases rv with
    | bl c => exact ⟨c, rfl, k W1 δ1 _ H1 _ s1 R1 (.bl _) q1⟩
    | _ => exact q1.elim⟩
def dIf (t : DTb) (ta tb : DT) : DT := fun δ Q => t δ fun c δ1 => match c with | true => ta δ1 Q | false => tb δ1 Q
theorem d_if {c : Expr} (hc : DB X c ua) (ha : DX X a ta) (hb : DX X b tb) : DX X (.IfExp c a b pos) (dIf ua ta tb) :=
  pe_imp (pe_ifExp hc ha hb) fun σ H Q ⟨W, δ, Qd, R0, ht, k⟩ => ⟨W, δ, _, R0, ht, fun W1 δ1 c H1 s1 R1 q1 => by
    cases c with
    | true => exact ⟨W1, δ1, _, R1, q1, fun W2 δ2 v H2 d s2 R2 r2 q2 => k W2 δ2 v H2 d (s1.trans s2) R2 r2 q2⟩
    | false => exact ⟨W1, δ1, _, R1, q1, fun W2 δ2 v H2 d s2 R2 r2 q2 => k W2 δ2 v H2 d (s1.trans s2) R2 r2 q2⟩⟩
/-! ### argument lists, displays -/
def dNil : DTa := fun δ Q => Q [] δ
def dCons (ta : DT) (tr : DTa) : DTa := fun δ Q => ta δ fun x δ1 => tr δ1 fun xs δ2 => Q (x :: xs) δ2
variable {tr : DTa}
theorem a_nil : DA X [] 0 dNil := pa_imp pa_nil fun σ H Q ⟨W, δ, Qd, R0, ht, k⟩ => k W δ [] H [] (Stp.refl W) R0 .nil rfl ht
theorem a_cons (ha : DX X e ta) (hr : DA X es n tr) (hs : starEach (e :: es) X.env = (false, eval e X.env) :: starEach es X.env := by rfl) : DA X (e :: es) (n + 1) (dCons ta tr) :=
  pa_imp (pa_cons ha hr hs) fun σ H Q ⟨W, δ, Qd, R0, ht, k⟩ => ⟨W, δ, _, R0, ht, fun W1 δ1 x H1 d s1 R1 rx q1 => ⟨W1, δ1, _, R1, q1, fun W2 δ2 xs H2 ds s2 R2 rxs hl q2 =>
    k W2 δ2 (x :: xs) H2 (d :: ds) (s1.trans s2) R2 (.cons (rx.mono s2.ex) rxs) (by rw [List.length_cons, hl]) q2⟩⟩
def dTup (tr : DTa) : DT := fun δ Q => tr δ fun ds δ' => Q (.tuple ds) δ'
def dLst (tr : DTa) : DT := fun δ Q => tr δ fun ds δ' => Q (.list ds) δ'
theorem d_tup {x1} (h : DA X es n tr) (hn : n ≤ 1000 := by decide) : DX X (.Tuple es x1 pos) (dTup tr) :=
  pe_imp (pe_tup h) fun σ H Q ⟨W, δ, Qd, R0, ht, k⟩ => ⟨W, δ, _, R0, ht, fun W1 δ1 xs H1 ds s1 R1 rx hl q1 => ⟨Nat.le_of_lt (small1000 (by rw [rx.length, hl]; exact hn)), fun p hp =>
    k (W1.fz p (.tup xs)) δ1 _ _ _ (s1.trans (R1.newStp hp)) (R1.new hp) (.tup (SqT.of upd_same) (rx.mono (R1.newStp (o := .tup xs) hp).ex)) q1⟩⟩
theorem d_lst (h : DA X es n tr) (hn : n ≤ 1000 := by decide) : DX X (.List es pos) (dLst tr) :=
  pe_imp (pe_lst h) fun σ H Q ⟨W, δ, Qd, R0, ht, k⟩ => ⟨W, δ, _, R0, ht, fun W1 δ1 xs H1 ds s1 R1 rx hl q1 => ⟨Nat.le_of_lt (small1000 (by rw [rx.length, hl]; exact hn)), fun p hp =>
    k (W1.fz p (.lst xs)) δ1 _ _ _ (s1.trans (R1.newStp hp)) (R1.new hp) (.lst (SqL.of upd_same) (rx.mono (R1.newStp (o := .lst xs) hp).ex)) q1⟩⟩
/-! ### subscripts, calls of built-ins, methods -/
theorem d_ix {r : R2} {g : D → D → (D → Prop) → Prop} (hr : IxR X r) (hd : OpD X.K r g) (ha : DX X a ta) (hb : DX X b tb) (hs : PlainIx b) : DX X (.Subscript a b pos) (dOp g ta tb) :=
  pe_imp (pe_ix hr ha hb hs) fun _ _ _ h => tD_op hd h
def CalD (K : PySem.W.Frag) (r : List V → Hp → VK → Prop) (g : List D → (D → Prop) → Prop) : Prop :=
  ∀ W δ σ H vs ds (Qd : D → Prop) (Q : VK), R K W δ σ H → RepL K W.F vs ds → g ds Qd → (∀ W' v H' d, Stp W W' → R K W' δ σ H' → Rep K W'.F v d → Qd d → Q v H') → r vs H Q
def dCall (g : List D → (D → Prop) → Prop) (tr : DTa) : DT := fun δ Q => tr δ fun ds δ' => g ds fun d => Q d δ'
theorem tD_cb {K : PySem.W.Frag} {r : List V → Hp → VK → Prop} {g : List D → (D → Prop) → Prop} (hd : CalD K r g) {σ : St} {H : Hp} {Q : VK} (h : tD K (dCall g tr) σ H Q) : tCB r (tDa K n tr) σ H Q := by
  obtain ⟨W, δ, Qd, R0, ht, k⟩ := h
  exact ⟨W, δ, _, R0, ht, fun W1 δ1 vs H1 ds s1 R1 rx hl q1 => hd W1 δ1 σ H1 vs ds _ Q R1 rx q1 fun W2 v H2 d s2 R2 rv q2 => k W2 δ1 v H2 d (s1.trans s2) R2 rv q2⟩
theorem d_callB {x : Str} {id : String} {p : Pos} {r : List V → Hp → VK → Prop} {g : List D → (D → Prop) → Prop} (hc : CallR X (.builtin id) r) (hd : CalD X.K r g) (hg : Gl X x) (hm : X.mg x = none) (hv : bootBuiltins x = some (.builtin id)) (ha : DA X (e :: es) n tr) (hn : x ≠ "__name__" := by decide)
    (hdb : (x == ("__debug__" : Str)) = false := by decide) (he : starEach (e :: es) X.env = (false, eval e X.env) :: starEach es X.env := by rfl) (hpl : (backTo pos (starEach es X.env)).any (·.1) = false := by rfl) :
    DX X (.Call (.Name x p) (e :: es) [] pos) (dCall g tr) := pe_imp (pe_callB hc hg hm hv ha hn hdb he hpl) fun _ _ _ h => tD_cb hd h
theorem d_callTy {x : Str} {T : String} {p : Pos} {r : List V → Hp → VK → Prop} {g : List D → (D → Prop) → Prop} (hc : CallR X (.type T) r) (hd : CalD X.K r g) (hg : Gl X x) (hm : X.mg x = none) (hv : bootBuiltins x = some (.type T)) (ha : DA X (e :: es) n tr) (hn : x ≠ "__name__" := by decide)
    (hdb : (x == ("__debug__" : Str)) = false := by decide) (he : starEach (e :: es) X.env = (false, eval e X.env) :: starEach es X.env := by rfl) (hpl : (backTo pos (starEach es X.env)).any (·.1) = false := by rfl) :
    DX X (.Call (.Name x p) (e :: es) [] pos) (dCall g tr) := pe_imp (pe_callTy hc hg hm hv ha hn hdb he hpl) fun _ _ _ h => tD_cb hd h
def MtD (K : PySem.W.Frag) (T : String) (r : V → List V → Hp → VK → Prop) (g : D → List D → (D → Prop) → Prop) : Prop :=
  (∀ W δ σ H x dx ds (Qd : D → Prop), R K W δ σ H → Rep K W.F x dx → g dx ds Qd → tyV K T x H) ∧
  ∀ W δ σ H x dx vs ds (Qd : D → Prop) (Q : VK), R K W δ σ H → Rep K W.F x dx → RepL K W.F vs ds → g dx ds Qd → (∀ W' v H' d, Stp W W' → R K W' δ σ H' → Rep K W'.F v d → Qd d → Q v H') → r x vs H Q
end
end DL
/-! The data layer: operators of data. -/
namespace DL
open PySem PySem.Spec L2
open PyProof.Rows hiding St
theorem OpR.or {X : Cx} {f : Value → Value → Sem Value} {r r' : R2} (h : OpR X f r) (h' : OpR X f r') : OpR X f (fun x y H Q => r x y H Q ∨ r' x y H Q) := by
  intro pins s σ H x y v u Q I rx ry q
  rcases q with q | q
  · exact h pins s σ H x y v u Q I rx ry q
  · exact h' pins s σ H x y v u Q I rx ry q
theorem CallR.or {X : Cx} {f : Value} {r r' : List V → Hp → VK → Prop} (h : CallR X f r) (h' : CallR X f r') : CallR X f (fun xs H Q => r xs H Q ∨ r' xs H Q) := by
  intro pins s σ H xs us Q I rx q
  rcases q with q | q
  · exact h pins s σ H xs us Q I rx q
  · exact h' pins s σ H xs us Q I rx q
theorem op_or {X : Cx} {f : Value → Value → Sem Value} {r : R2} (h : OpR X f r) : OpR X f r := h
/-- list + list, each read -/
def rCatSq (K : PySem.W.Frag) : R2 := fun x y H Q => ∃ l b xs zs, x = .ref l ∧ y = .ref b ∧ SqL K H l xs ∧ SqL K H b zs ∧ xs.length + zs.length ≤ sizeLine ∧ ∀ p, H p = none → Q (.ref p) (upd H p (.lst (xs ++ zs)))
theorem op_catSq {X : Cx} : OpR X (binaryOp .Add) (rCatSq X.K) := by
  intro pins s σ H x y v u Q I rx ry h
  obtain ⟨l, b, xs, zs, rfl, rfl, hH, hB, hz, q⟩ := h
  cases rx
  cases ry
  obtain ⟨its, r, ⟨⟨cls, dd, data, sl⟩, n, ho, hc, hdd, hd⟩, _⟩ := I.list hH
  obtain ⟨its2, r2, ⟨⟨cls2, dd2, data2, sl2⟩, n2, ho2, hc2, hdd2, hd2⟩, _⟩ := I.list hB
  simp only at hc hd hc2 hd2
  subst hc hd hc2 hd2
  have hl := r.length
  have hl2 := r2.length
  have ea : its.toArray ++ its2.toArray = (its ++ its2).toArray := by simp
  refine concat_meets ⟨_, ho, rfl⟩ ⟨_, ho2, rfl⟩ noFill_list_add seq_list_add PySem.F.slot_list_add PySem.F.entry_list_add (PySem.F.args_list_add_2 _ _) (list_addW l b its.toArray its2.toArray n n2 dd dd2 sl sl2 (by rw [List.size_toArray, List.size_toArray]; omega)) ⟨ho, ho2, ?_⟩
  rw [ea]
  exact ⟨.ref _, _, I.lnew (t' := s.toks) (r.append r2) (by rw [List.length_append]; omega), rfl, q _ I.fresh⟩
section
variable {K : PySem.W.Frag}
/-! ### + -/
def rAddB : R2 := fun x y H Q => ∃ (k : Bool) (i : Int), x = .bl k ∧ y = .int i ∧ Q (.int ((if k = true then (1 : Int) else 0) + i)) H
theorem op_add_bi {X : Cx} : OpR X (binaryOp .Add) rAddB := by
  intro pins s σ H x y v u Q I rx ry h
  obtain ⟨k, i, rfl, rfl, q⟩ := h
  obtain ⟨t, rfl⟩ := ry
  cases rx
  exact PySem.IntBool.add_bool_int ⟨.int _, H, I.tok _, ⟨_, rfl⟩, q⟩
def rAddU (K : PySem.W.Frag) : R2 := fun x y H Q => (rI0 fun i j => .int (i + j)) x y H Q ∨ (∃ i j, x = .str i ∧ y = .str j ∧ i.length + j.length ≤ sizeLine ∧ Q (.str (i ++ j)) H) ∨ rCatA K x y H Q ∨ rCatSq K x y H Q ∨ rAddB x y H Q
theorem op_addU {X : Cx} : OpR X (binaryOp .Add) (rAddU X.K) := OpR.or op_add (OpR.or op_add_str (OpR.or op_catA (OpR.or op_catSq op_add_bi)))
def gAdd : D → D → (D → Prop) → Prop
  | .int i, .int j, Q => Q (.int (i + j))
  | .str x, .str y, Q => x.length + y.length ≤ 16777216 ∧ Q (.str (x ++ y))
  | .tuple xs, .tuple ys, Q => xs.length + ys.length ≤ 16777216 ∧ Q (.tuple (xs ++ ys))
  | .list xs, .list ys, Q => xs.length + ys.length ≤ 16777216 ∧ Q (.list (xs ++ ys))
  | .bool k, .int i, Q => Q (.int ((if k = true then (1 : Int) else 0) + i))
  | _, _, _ => False
theorem sz {n : Nat} (h : n ≤ 16777216) : n ≤ sizeLine := by rw [sizeLine_eq]; exact h
theorem od_add : OpD K (rAddU K) gAdd := by
  intro W δ σ H x y dx dy Qd Q R0 rx ry q k
  cases rx with
  | int i => cases ry with
    | int j => exact .inl ⟨i, j, rfl, rfl, k W _ H _ (Stp.refl W) R0 (.int _) q⟩
    | _ => exact q.elim
  | str i => cases ry with
    | str j => exact .inr (.inl ⟨i, j, rfl, rfl, sz q.1, k W _ H _ (Stp.refl W) R0 (.str _) q.2⟩)
    | _ => exact q.elim
  | tup ha rs => cases ry with
    | tup hb rs' =>
      have e1 := rs.length
      have e2 := rs'.length
      refine .inr (.inr (.inl ⟨_, _, _, _, rfl, rfl, R0.sub.sqT ha, R0.sub.sqT hb, sz (by rw [e1, e2]; exact q.1), fun z => ?_, fun _ z => ?_, fun _ _ p hp => ?_⟩))
      · subst z
        cases rs
        exact k W _ H _ (Stp.refl W) R0 (.tup hb rs') q.2
      · subst z
        cases rs'
        have q2 := q.2
        rw [List.append_nil] at q2
        exact k W _ H _ (Stp.refl W) R0 (.tup ha rs) q2
      · exact k _ _ _ _ (R0.newStp hp) (R0.new hp) (.tup (SqT.of upd_same) ((rs.append rs').mono (R0.newStp (o := .tup _) hp).ex)) q.2
    | _ => exact q.elim
  | lst ha rs => cases ry with
    | lst hb rs' =>
      have e1 := rs.length
      have e2 := rs'.length
      refine .inr (.inr (.inr (.inl ⟨_, _, _, _, rfl, rfl, R0.sub.sqL ha, R0.sub.sqL hb, sz (by rw [e1, e2]; exact q.1), fun p hp => ?_⟩)))
      exact k _ _ _ _ (R0.newStp hp) (R0.new hp) (.lst (SqL.of upd_same) ((rs.append rs').mono (R0.newStp (o := .lst _) hp).ex)) q.2
    | _ => exact q.elim
  | bl b => cases ry with
    | int j => exact .inr (.inr (.inr (.inr ⟨b, j, rfl, rfl, k W _ H _ (Stp.refl W) R0 (.int _) q⟩)))
    | _ => exact q.elim
  | _ => exact q.elim
/-! ### ints -/
def gI (f : Int → Int → D) : D → D → (D → Prop) → Prop
  | .int i, .int j, Q => Q (f i j)
  | _, _, _ => False
def gIC (C : Int → Int → Prop) (f : Int → Int → D) : D → D → (D → Prop) → Prop
  | .int i, .int j, Q => C i j ∧ Q (f i j)
  | _, _, _ => False
theorem od_I {g : Int → Int → V} {f : Int → Int → D} (h : ∀ F i j, Rep K F (g i j) (f i j)) : OpD K (rI0 g) (gI f) := by
  intro W δ σ H x y dx dy Qd Q R0 rx ry q k
  cases rx with
  | int i => cases ry with
    | int j => exact ⟨i, j, rfl, rfl, k W _ H _ (Stp.refl W) R0 (h _ _ _) q⟩
    | _ => exact q.elim
  | _ => exact q.elim
theorem od_IC {C : Int → Int → Prop} {g : Int → Int → V} {f : Int → Int → D} (h : ∀ F i j, Rep K F (g i j) (f i j)) : OpD K (rI C g) (gIC C f) := by
  intro W δ σ H x y dx dy Qd Q R0 rx ry q k
  cases rx with
  | int i => cases ry with
    | int j => exact ⟨i, j, rfl, rfl, q.1, k W _ H _ (Stp.refl W) R0 (h _ _ _) q.2⟩
    | _ => exact q.elim
  | _ => exact q.elim
abbrev gSub := gI fun i j => .int (i - j)
theorem od_sub : OpD K (rI0 fun i j => .int (i - j)) gSub := od_I fun _ _ _ => .int _
abbrev gMod := gIC (fun _ j => 0 < j) fun i j => .int (i % j)
theorem od_mod : OpD K (rI (fun _ j => 0 < j) fun i j => .int (i % j)) gMod := od_IC fun _ _ _ => .int _
abbrev gDiv := gIC CDiv fun i j => .int (i / j)
theorem od_div : OpD K (rI CDiv fun i j => .int (i / j)) gDiv := od_IC fun _ _ _ => .int _
abbrev gPow := gIC CPow fun i j => .int (i ^ j.toNat)
theorem od_pow : OpD K (rI CPow fun i j => .int (i ^ j.toNat)) gPow := od_IC fun _ _ _ => .int _
abbrev gLt := gI fun i j => .bool (decide (i < j))
theorem od_lt : OpD K (rI0 fun i j => .bl (decide (i < j))) gLt := od_I fun _ _ _ => .bl _
abbrev gLe := gI fun i j => .bool (decide (i ≤ j))
theorem od_le : OpD K (rI0 fun i j => .bl (decide (i ≤ j))) gLe := od_I fun _ _ _ => .bl _
abbrev gGt := gI fun i j => .bool (decide (j < i))
theorem od_gt : OpD K (rI0 fun i j => .bl (decide (j < i))) gGt := od_I fun _ _ _ => .bl _
abbrev gGe := gI fun i j => .bool (decide (j ≤ i))
theorem od_ge : OpD K (rI0 fun i j => .bl (decide (j ≤ i))) gGe := od_I fun _ _ _ => .bl _
/-! ### * -/
def rMulU (K : PySem.W.Frag) : R2 := fun x y H Q => (rI CMul fun i j => .int (i * j)) x y H Q ∨ rRepT K x y H Q ∨ rRep x y H Q
theorem op_mulU {X : Cx} : OpR X (binaryOp .Mult) (rMulU X.K) := OpR.or op_mul (OpR.or op_repT op_rep)
def repD (k : Int) (ds : List D) : List D := (List.replicate k.toNat ds).flatten
def gMul : D → D → (D → Prop) → Prop
  | .int i, .int j, Q => CMul i j ∧ Q (.int (i * j))
  | .tuple xs, .int k, Q => (xs ≠ [] ∧ 2 ≤ k ∧ k ≤ 1000 ∧ xs.length ≤ 1000) ∧ Q (.tuple (repD k xs))
  | _, _, _ => False
theorem RepL.rep {F : Hp} {vs : List V} {ds : List D} (h : RepL K F vs ds) : ∀ n : Nat, RepL K F (List.replicate n vs).flatten (List.replicate n ds).flatten
  | 0 => .nil
  | n + 1 => by
    rw [List.replicate_succ, List.replicate_succ, List.flatten_cons, List.flatten_cons]
    exact h.append (RepL.rep h n)
theorem od_mul : OpD K (rMulU K) gMul := by
  intro W δ σ H x y dx dy Qd Q R0 rx ry q k
  cases rx with
  | int i => cases ry with
    | int j => exact .inl ⟨i, j, rfl, rfl, q.1, k W _ H _ (Stp.refl W) R0 (.int _) q.2⟩
    | _ => exact q.elim
  | tup ha rs => cases ry with
    | int j =>
      obtain ⟨⟨h1, h2, h3, h4⟩, q⟩ := q
      refine .inr (.inl ⟨_, j, _, rfl, rfl, R0.sub.sqT ha, fun z => h1 (by subst z; cases rs; rfl), h2, h3, by rw [rs.length]; exact h4, fun p hp => ?_⟩)
      exact k _ _ _ _ (R0.newStp hp) (R0.new hp) (.tup (SqT.of upd_same) ((rs.rep j.toNat).mono (R0.newStp (o := .tup _) hp).ex)) q
    | _ => exact q.elim
  | _ => exact q.elim
/-! ### == -/
def rEqU (K : PySem.W.Frag) : R2 := fun x y H Q => rEq x y H Q ∨ rEqD K x y H Q
def rNeU (K : PySem.W.Frag) : R2 := fun x y H Q => rNe x y H Q ∨ rNeD K x y H Q
theorem op_eqU {X : Cx} (hu : X.A.units + 64 < cLine) : OpR X (compareOp .Eq) (rEqU X.K) := OpR.or op_eq (op_eqD hu)
theorem op_neU {X : Cx} (hu : X.A.units + 64 < cLine) : OpR X (compareOp .NotEq) (rNeU X.K) := OpR.or op_ne (op_neD hu)
def eqD : D → D → Bool
  | .int i, .int j => decide (i = j)
  | .str x, .str y => decide (x = y)
  | .bool a, .bool b => decide (a = b)
  | x, y => PyData.eqv x y
/-- what == asks of its sides -/
def okEq : D → D → Prop
  | .int _, .int _ => True
  | .str _, .str _ => True
  | .bool _, .bool _ => True
  | x, y => SeqAt.shaped x = true ∧ SeqAt.shaped y = true
def gEq (x y : D) (Q : D → Prop) : Prop := okEq x y ∧ Q (.bool (eqD x y))
def gNe (x y : D) (Q : D → Prop) : Prop := okEq x y ∧ Q (.bool (!eqD x y))
theorem dec_inj {α β : Type} {f : α → β} (hf : ∀ a b, f a = f b → a = b) (a b : α) [Decidable (f a = f b)] [Decidable (a = b)] : decide (f a = f b) = decide (a = b) := by
  by_cases h : a = b
  · rw [decide_eq_true h, decide_eq_true (by rw [h])]
  · rw [decide_eq_false h, decide_eq_false (fun z => h (hf _ _ z))]
theorem eqD_eqv {x y : D} : (∃ i j, x = .int i ∧ y = .int j) ∨ (∃ i j, x = .str i ∧ y = .str j) ∨ (∃ i j, x = .bool i ∧ y = .bool j) ∨ (eqD x y = PyData.eqv x y ∧ (okEq x y → SeqAt.shaped x = true ∧ SeqAt.shaped y = true)) := by
  cases x <;> cases y <;> first
    | exact .inl ⟨_, _, rfl, rfl⟩
    | exact .inr (.inl ⟨_, _, rfl, rfl⟩)
    | exact .inr (.inr (.inl ⟨_, _, rfl, rfl⟩))
    | exact .inr (.inr (.inr ⟨rfl, fun h => h⟩))
theorem od_eq : OpD K (rEqU K) gEq := by
  intro W δ σ H x y dx dy Qd Q R0 rx ry q k
  rcases eqD_eqv (x := dx) (y := dy) with ⟨i, j, rfl, rfl⟩ | ⟨i, j, rfl, rfl⟩ | ⟨i, j, rfl, rfl⟩ | ⟨e, sh⟩
  · cases rx
    cases ry
    refine .inl ⟨rfl, ?_⟩
    rw [dec_inj (f := V.int) (fun a b => V.int.inj)]
    exact k W _ H _ (Stp.refl W) R0 (.bl _) q.2
  · cases rx
    cases ry
    refine .inl ⟨rfl, ?_⟩
    rw [dec_inj (f := V.str) (fun a b => V.str.inj)]
    exact k W _ H _ (Stp.refl W) R0 (.bl _) q.2
  · cases rx
    cases ry
    refine .inl ⟨rfl, ?_⟩
    rw [dec_inj (f := V.bl) (fun a b => V.bl.inj)]
    exact k W _ H _ (Stp.refl W) R0 (.bl _) q.2
  · obtain ⟨h1, h2⟩ := sh q.1
    have q2 := q.2
    rw [e] at q2
    exact .inr ⟨dx, dy, rx.dp R0.sub (SeqAt.canLay_of_shaped h1), ry.dp R0.sub (SeqAt.canLay_of_shaped h2), h1, h2, k W _ H _ (Stp.refl W) R0 (.bl _) q2⟩
theorem od_ne : OpD K (rNeU K) gNe := by
  intro W δ σ H x y dx dy Qd Q R0 rx ry q k
  rcases eqD_eqv (x := dx) (y := dy) with ⟨i, j, rfl, rfl⟩ | ⟨i, j, rfl, rfl⟩ | ⟨i, j, rfl, rfl⟩ | ⟨e, sh⟩
  · cases rx
    cases ry
    refine .inl ⟨rfl, ?_⟩
    rw [dec_inj (f := V.int) (fun a b => V.int.inj)]
    exact k W _ H _ (Stp.refl W) R0 (.bl _) q.2
  · cases rx
    cases ry
    refine .inl ⟨rfl, ?_⟩
    rw [dec_inj (f := V.str) (fun a b => V.str.inj)]
    exact k W _ H _ (Stp.refl W) R0 (.bl _) q.2
  · cases rx
    cases ry
    refine .inl ⟨rfl, ?_⟩
    rw [dec_inj (f := V.bl) (fun a b => V.bl.inj)]
    exact k W _ H _ (Stp.refl W) R0 (.bl _) q.2
  · obtain ⟨h1, h2⟩ := sh q.1
    have q2 := q.2
    rw [e] at q2
    exact .inr ⟨dx, dy, rx.dp R0.sub (SeqAt.canLay_of_shaped h1), ry.dp R0.sub (SeqAt.canLay_of_shaped h2), h1, h2, k W _ H _ (Stp.refl W) R0 (.bl _) q2⟩
/-! ### is -/
def rIsU : R2 := fun x y H Q => (y = .non ∧ Q (.bl (decide (x = .non))) H) ∨ rIsB x y H Q
def rNotU : R2 := fun x y H Q => (y = .non ∧ Q (.bl (!decide (x = .non))) H) ∨ rNotB x y H Q
theorem op_isU {X : Cx} : OpR X (compareOp .Is) rIsU := OpR.or op_isN op_isBl
theorem op_notU {X : Cx} : OpR X (compareOp .IsNot) rNotU := OpR.or op_notN op_notBl
def isNone : D → Bool
  | .none => true
  | _ => false
def gIs : D → D → (D → Prop) → Prop
  | x, .none, Q => Q (.bool (isNone x))
  | .bool a, .bool b, Q => Q (.bool (decide (a = b)))
  | _, _, _ => False
def gNot : D → D → (D → Prop) → Prop
  | x, .none, Q => Q (.bool (!isNone x))
  | .bool a, .bool b, Q => Q (.bool (!decide (a = b)))
  | _, _, _ => False
theorem rep_none {F : Hp} {x : V} {d : D} (h : Rep K F x d) : decide (x = V.non) = isNone d := by
  cases h <;> first | exact decide_eq_true rfl | exact decide_eq_false (fun z => nomatch z)
theorem od_is : OpD K rIsU gIs := by
  intro W δ σ H x y dx dy Qd Q R0 rx ry q k
  cases ry with
  | non =>
    refine .inl ⟨rfl, ?_⟩
    rw [rep_none rx]
    exact k W _ H _ (Stp.refl W) R0 (.bl _) (by cases dx <;> exact q)
  | bl b => cases rx with
    | bl a => exact .inr ⟨a, b, rfl, rfl, k W _ H _ (Stp.refl W) R0 (.bl _) q⟩
    | _ => exact q.elim
  | _ => cases rx <;> exact q.elim
theorem od_not : OpD K rNotU gNot := by
  intro W δ σ H x y dx dy Qd Q R0 rx ry q k
  cases ry with
  | non =>
    refine .inl ⟨rfl, ?_⟩
    rw [rep_none rx]
    exact k W _ H _ (Stp.refl W) R0 (.bl _) (by cases dx <;> exact q)
  | bl b => cases rx with
    | bl a => exact .inr ⟨a, b, rfl, rfl, k W _ H _ (Stp.refl W) R0 (.bl _) q⟩
    | _ => exact q.elim
  | _ => cases rx <;> exact q.elim
/-! ### a sign in a text -/
def rInS : R2 := fun x y H Q => ∃ (c : Nat) (z : Str), x = .str ⟨#[c]⟩ ∧ y = .str z ∧ Q (.bl (decide (c ∈ z.cps.toList))) H
def gInS : D → D → (D → Prop) → Prop
  | .str ⟨⟨[c]⟩⟩, .str z, Q => Q (.bool (decide (c ∈ z.cps.toList)))
  | _, _, _ => False
theorem od_inS : OpD K rInS gInS := by
  intro W δ σ H x y dx dy Qd Q R0 rx ry q k
  unfold gInS at q
  split at q
  · cases rx
    cases ry
    exact ⟨_, _, rfl, rfl, k W _ H _ (Stp.refl W) R0 (.bl _) q⟩
  · exact q.elim
/-! ### subscripts -/
def gIx : D → D → (D → Prop) → Prop
  | .list ds, .int i, Q => ∃ d, atI ds i = some d ∧ Q d
  | .tuple ds, .int i, Q => ∃ d, atI ds i = some d ∧ Q d
  | .str z, .int i, Q => z.length ≤ 16777216 ∧ ∃ c, atI z.cps.toList i = some c ∧ Q (.str ⟨#[c]⟩)
  | _, _, _ => False
theorem RepL.atI {F : Hp} {vs : List V} {ds : List D} {i : Int} {d : D} (h : RepL K F vs ds) (e : L2.atI ds i = some d) : ∃ v, L2.atI vs i = some v ∧ Rep K F v d := by
  unfold L2.atI at e ⊢
  rw [h.length]
  cases q : ixN ds.length i with
  | none => rw [q] at e; cases e
  | some j =>
    rw [q] at e
    exact h.get e
theorem od_ix : OpD K (rIx K) gIx := by
  intro W δ σ H x y dx dy Qd Q R0 rx ry q k
  cases rx with
  | lst ha rs => cases ry with
    | int i =>
      obtain ⟨d, e, q⟩ := q
      obtain ⟨v, e', rv⟩ := rs.atI e
      exact .inl ⟨_, _, i, v, rfl, rfl, R0.sub.sqL ha, e', k W _ H _ (Stp.refl W) R0 rv q⟩
    | _ => exact q.elim
  | tup ha rs => cases ry with
    | int i =>
      obtain ⟨d, e, q⟩ := q
      obtain ⟨v, e', rv⟩ := rs.atI e
      exact .inr (.inl ⟨_, _, i, v, rfl, rfl, R0.sub.sqT ha, e', k W _ H _ (Stp.refl W) R0 rv q⟩)
    | _ => exact q.elim
  | str z => cases ry with
    | int i =>
      obtain ⟨h, c, e, q⟩ := q
      exact .inr (.inr ⟨z, i, c, rfl, rfl, sz h, e, k W _ H _ (Stp.refl W) R0 (.str _) q⟩)
    | _ => exact q.elim
  | _ => exact q.elim
/-! ### built-ins -/
def gLen : List D → (D → Prop) → Prop
  | [.list ds], Q => Q (.int ds.length)
  | [.tuple ds], Q => Q (.int ds.length)
  | [.str z], Q => z.length ≤ 16777216 ∧ Q (.int z.length)
  | _, _ => False
theorem cd_len : CalD K (fun xs H Q => ∃ x n, xs = [x] ∧ LenV K x H n ∧ Q (.int n) H) gLen := by
  intro W δ σ H vs ds Qd Q R0 rx q k
  unfold gLen at q
  split at q
  · cases rx with
    | cons r rs =>
      cases rs
      cases r with
      | lst ha rs => exact ⟨_, _, rfl, .inl ⟨_, R0.sub.sqL ha, rfl⟩, by rw [rs.length]; exact k W _ H _ (Stp.refl W) R0 (.int _) q⟩
  · cases rx with
    | cons r rs =>
      cases rs
      cases r with
      | tup ha rs => exact ⟨_, _, rfl, .inr ⟨_, R0.sub.sqT ha, rfl⟩, by rw [rs.length]; exact k W _ H _ (Stp.refl W) R0 (.int _) q⟩
  · cases rx with
    | cons r rs =>
      cases rs
      cases r with
      | str z => exact ⟨_, _, rfl, ⟨sz q.1, rfl⟩, k W _ H _ (Stp.refl W) R0 (.int _) q.2⟩
  · exact q.elim
def gMax2 : List D → (D → Prop) → Prop
  | [.int i, .int j], Q => Q (.int (if j > i then j else i))
  | _, _ => False
def gMin2 : List D → (D → Prop) → Prop
  | [.int i, .int j], Q => Q (.int (if j < i then j else i))
  | _, _ => False
theorem cd_max2 : CalD K (fun xs H Q => ∃ i j, xs = [.int i, .int j] ∧ Q (.int (if j > i then j else i)) H) gMax2 := by
  intro W δ σ H vs ds Qd Q R0 rx q k
  unfold gMax2 at q
  split at q
  · cases rx with
    | cons r rs =>
      cases rs with
      | cons r2 rs =>
        cases rs
        cases r
        cases r2
        exact ⟨_, _, rfl, k W _ H _ (Stp.refl W) R0 (.int _) q⟩
  · exact q.elim
theorem cd_min2 : CalD K (fun xs H Q => ∃ i j, xs = [.int i, .int j] ∧ Q (.int (if j < i then j else i)) H) gMin2 := by
  intro W δ σ H vs ds Qd Q R0 rx q k
  unfold gMin2 at q
  split at q
  · cases rx with
    | cons r rs =>
      cases rs with
      | cons r2 rs =>
        cases rs
        cases r
        cases r2
        exact ⟨_, _, rfl, k W _ H _ (Stp.refl W) R0 (.int _) q⟩
  · exact q.elim
/-- all(list of bools), any -/
def gAll : List D → (D → Prop) → Prop
  | [.list ds], Q => ∃ bs : List Bool, ds = bs.map .bool ∧ Q (.bool (bs.all id))
  | _, _ => False
def gAny : List D → (D → Prop) → Prop
  | [.list ds], Q => ∃ bs : List Bool, ds = bs.map .bool ∧ Q (.bool (bs.any id))
  | _, _ => False
theorem cd_all : CalD K (rAll K) gAll := by
  intro W δ σ H vs ds Qd Q R0 rx q k
  unfold gAll at q
  split at q
  · obtain ⟨bs, e, q⟩ := q
    cases rx with
    | cons r rs =>
      cases rs
      cases r with
      | lst ha rs =>
        subst e
        rw [rs.bools] at ha
        exact ⟨_, bs, rfl, R0.sub.sqL ha, k W _ H _ (Stp.refl W) R0 (.bl _) q⟩
  · exact q.elim
theorem cd_any : CalD K (rAny K) gAny := by
  intro W δ σ H vs ds Qd Q R0 rx q k
  unfold gAny at q
  split at q
  · obtain ⟨bs, e, q⟩ := q
    cases rx with
    | cons r rs =>
      cases rs
      cases r with
      | lst ha rs =>
        subst e
        rw [rs.bools] at ha
        exact ⟨_, bs, rfl, R0.sub.sqL ha, k W _ H _ (Stp.refl W) R0 (.bl _) q⟩
  · exact q.elim
/-- tuple(xs) -/
def gTupOf : List D → (D → Prop) → Prop
  | [.list ds], Q => Q (.tuple ds)
  | [.tuple ds], Q => Q (.tuple ds)
  | _, _ => False
theorem cd_tupOf : CalD K (fun xs H Q => ∃ p ys, xs = [.ref p] ∧ ((SqL K H p ys ∧ ∀ l, H l = none → Q (.ref l) (upd H l (.tup ys))) ∨ (SqT K H p ys ∧ Q (.ref p) H))) gTupOf := by
  intro W δ σ H vs ds Qd Q R0 rx q k
  unfold gTupOf at q
  split at q
  · cases rx with
    | cons r rs =>
      cases rs
      cases r with
      | lst ha rs => exact ⟨_, _, rfl, .inl ⟨R0.sub.sqL ha, fun p hp => k _ _ _ _ (R0.newStp hp) (R0.new hp) (.tup (SqT.of upd_same) (rs.mono (R0.newStp (o := .tup _) hp).ex)) q⟩⟩
  · cases rx with
    | cons r rs =>
      cases rs
      cases r with
      | tup ha rs => exact ⟨_, _, rfl, .inr ⟨R0.sub.sqT ha, k W _ H _ (Stp.refl W) R0 (.tup ha rs) q⟩⟩
  · exact q.elim
def gLstOf : List D → (D → Prop) → Prop
  | [.list ds], Q => Q (.list ds)
  | [.tuple ds], Q => Q (.list ds)
  | _, _ => False
theorem cd_lstOf : CalD K (fun xs H Q => ∃ p ys, xs = [.ref p] ∧ (SqL K H p ys ∨ SqT K H p ys) ∧ ∀ l, H l = none → Q (.ref l) (upd H l (.lst ys))) gLstOf := by
  intro W δ σ H vs ds Qd Q R0 rx q k
  unfold gLstOf at q
  split at q
  · cases rx with
    | cons r rs =>
      cases rs
      cases r with
      | lst ha rs => exact ⟨_, _, rfl, .inl (R0.sub.sqL ha), fun p hp => k _ _ _ _ (R0.newStp hp) (R0.new hp) (.lst (SqL.of upd_same) (rs.mono (R0.newStp (o := .lst _) hp).ex)) q⟩
  · cases rx with
    | cons r rs =>
      cases rs
      cases r with
      | tup ha rs => exact ⟨_, _, rfl, .inr (R0.sub.sqT ha), fun p hp => k _ _ _ _ (R0.newStp hp) (R0.new hp) (.lst (SqL.of upd_same) (rs.mono (R0.newStp (o := .lst _) hp).ex)) q⟩
  · exact q.elim
/-- int(x) -/
def gInt : List D → (D → Prop) → Prop
  | [.int i], Q => Q (.int i)
  | _, _ => False
theorem cd_int : CalD K (fun xs H Q => (∃ i, xs = [.int i] ∧ Q (.int i) H) ∨ ∃ k, xs = [.bl k] ∧ Q (.int (if k then 1 else 0)) H) gInt := by
  intro W δ σ H vs ds Qd Q R0 rx q k
  unfold gInt at q
  split at q
  · cases rx with
    | cons r rs =>
      cases rs
      cases r
      exact .inl ⟨_, rfl, k W _ H _ (Stp.refl W) R0 (.int _) q⟩
  · exact q.elim
end
/-! ### isinstance(x, T) -/
def tyN : D → String
  | .none => "NoneType" | .bool _ => "bool" | .int _ => "int" | .str _ => "str" | .list _ => "list" | .tuple _ => "tuple" | .dict _ => "dict"
theorem rep_ty {K : PySem.W.Frag} {F H : Hp} (e : Ex F H) {x : V} {d : D} (h : Rep K F x d) : TyX K H x (.type (tyN d)) := by
  cases h with
  | non => exact .base .non
  | bl b => exact .base (.bl b)
  | int i => exact .base (.int i)
  | str x => exact .base (.str x)
  | lst ha _ =>
    rcases ha with (ha | ⟨o, ha⟩) | ⟨o, its, n, h1, h2, _⟩
    · exact .base (.lst (e _ _ ha))
    · exact .base (.frz (e _ _ ha))
    · exact .kList h1 h2
  | tup ha _ =>
    rcases ha with (ha | ⟨o, ha⟩) | ⟨o, its, n, h1, h2, _⟩
    · exact .base (.tup (e _ _ ha))
    · exact .fTuple (e _ _ ha)
    · exact .kTuple h1 h2
  | dcT ha _ => exact .base (.dT (e _ _ ha))
  | dcK ha _ => exact .base (.dK (e _ _ ha))
inductive T5 where
  | int | bool | str | tuple | list
def T5.nm : T5 → String
  | .int => "int" | .bool => "bool" | .str => "str" | .tuple => "tuple" | .list => "list"
def isT : T5 → D → Bool
  | .int, .int _ => true
  | .int, .bool _ => true
  | .bool, .bool _ => true
  | .str, .str _ => true
  | .tuple, .tuple _ => true
  | .list, .list _ => true
  | _, _ => false
theorem kit_ok (K : PySem.W.Frag) (T : T5) (d : D) : PySem.W.kitOne K (.type (tyN d)) (.type T.nm) = some (isT T d) := by
  cases T <;> cases d <;> simp only [T5.nm, tyN, isT] <;> exact kit_ty (by decide +kernel)
def dIsi (T : T5) (t : DT) : DT := fun δ Q => t δ fun d δ' => Q (.bool (isT T d)) δ'
theorem d_isi {X : Cx} {e : Expr} {t : DT} {x : Str} (T : T5) {p p2 pos : Pos} (hm : X.mg "isinstance" = none) (hm2 : X.mg x = none) (hv : bootBuiltins x = some (.type T.nm)) (ha : DX X e t) (hg : Gl X "isinstance" := by rfl) (hg2 : Gl X x := by rfl)
    (hn : x ≠ "__name__" := by decide) (hd : (x == ("__debug__" : Str)) = false := by decide)
    (hs1 : starEach [e, .Name x p2] X.env = (false, eval e X.env) :: starEach [.Name x p2] X.env := by rfl) (hs2 : starEach [.Name x p2] X.env = (false, eval (.Name x p2) X.env) :: starEach [] X.env := by rfl)
    (hpl : (backTo pos (starEach [.Name x p2] X.env)).any (·.1) = false := by rfl) : DX X (.Call (.Name "isinstance" p) [e, .Name x p2] [] pos) (dIsi T t) := by
  refine pe_imp (pe_callB call_isi hg hm boot_isinstance (pa_cons ha (pa_cons (pe_bltn (v := .ty T.nm) hg2 hm2 hv rfl hn hd) pa_nil hs2) hs1) (by decide) (by decide) hs1 hpl) ?_
  rintro σ H Q ⟨W, δ, Qd, R0, ht, k⟩
  refine ⟨W, δ, _, R0, ht, fun W1 δ1 v H1 d s1 R1 rv q1 => ?_⟩
  exact ⟨v, .ty T.nm, _, _, _, rfl, .ty T.nm, rep_ty R1.sub rv, kit_ok X.K T d, k W1 δ1 _ H1 _ s1 R1 (.bl _) q1⟩
end DL
/-! The data layer: statements, loops. -/
namespace DL
open PySem PySem.Spec L2
open PyProof.Rows hiding St
structure Nd where
  nx : En → Prop
  rt : D → En → Prop
  bk : En → Prop := fun _ => False
  ct : En → Prop := fun _ => False
abbrev DSt := Nd → En → Prop
structure NdOk (K : PySem.W.Frag) (W : Wd) (E : Nd) (D : Ends) : Prop where
  nx : ∀ W' δ' σ' H', Stp W W' → R K W' δ' σ' H' → E.nx δ' → D.nx σ' H'
  bk : ∀ W' δ' σ' H', Stp W W' → R K W' δ' σ' H' → E.bk δ' → D.bk σ' H'
  ct : ∀ W' δ' σ' H', Stp W W' → R K W' δ' σ' H' → E.ct δ' → D.ct σ' H'
  rt : ∀ W' δ' σ' v H' d, Stp W W' → R K W' δ' σ' H' → Rep K W'.F v d → E.rt d δ' → D.rt v H'
theorem NdOk.step {K : PySem.W.Frag} {W W1 : Wd} {E : Nd} {D : Ends} (h : NdOk K W E D) (s : Stp W W1) : NdOk K W1 E D :=
  ⟨fun W' δ' σ' H' s' => h.nx W' δ' σ' H' (s.trans s'), fun W' δ' σ' H' s' => h.bk W' δ' σ' H' (s.trans s'), fun W' δ' σ' H' s' => h.ct W' δ' σ' H' (s.trans s'), fun W' δ' σ' v H' d s' => h.rt W' δ' σ' v H' d (s.trans s')⟩
def tDs (K : PySem.W.Frag) (t : DSt) : TS := fun D σ H => ∃ W δ E, R K W δ σ H ∧ t E δ ∧ NdOk K W E D
abbrev DS (X : Cx) (st : Stmt) (t : DSt) : Prop := PS X st (tDs X.K t)
abbrev DSs (X : Cx) (st : List Stmt) (t : DSt) : Prop := PSs X st (tDs X.K t)
section
variable {X : Cx} {st : Stmt} {sts : List Stmt} {ts ts' : TS}
theorem ps_imp (h : PS X st ts) (k : ∀ D σ H, ts' D σ H → ts D σ H) : PS X st ts' := ⟨fun pins s σ H D I q => h.run pins s σ H D I (k D σ H q)⟩
theorem pss_imp (h : PSs X sts ts) (k : ∀ D σ H, ts' D σ H → ts D σ H) : PSs X sts ts' := ⟨fun pins s σ H D I q => h.run pins s σ H D I (k D σ H q)⟩
end
section
variable {X : Cx} {st : Stmt} {rest : List Stmt} {t u : DSt} {e : Expr} {te : DT} {tb : DTb} {pos : Pos} {K : PySem.W.Frag}
def sNext : DSt := fun E δ => E.nx δ
def sSeq (t u : DSt) : DSt := fun E δ => t { E with nx := u E } δ
theorem ss_nil : DSs X [] sNext := pss_imp pss_nil fun D σ H ⟨W, δ, E, r, h, k⟩ => k.nx W δ σ H (Stp.refl W) r h
theorem ss_cons (h1 : DS X st t) (h2 : DSs X rest u) : DSs X (st :: rest) (sSeq t u) :=
  pss_imp (pss_cons h1 h2) fun D σ H ⟨W, δ, E, r, h, k⟩ => ⟨W, δ, _, r, h, ⟨fun W' δ' σ' H' s r' q => ⟨W', δ', E, r', q, k.step s⟩, k.bk, k.ct, k.rt⟩⟩
theorem ss_one (h1 : DS X st t) : DSs X [st] t := pss_imp (pss_one h1) fun _ _ _ h => h
theorem s_pass : DS X (.Pass pos) sNext := ps_imp ps_pass fun D σ H ⟨W, δ, E, r, h, k⟩ => k.nx W δ σ H (Stp.refl W) r h
def sBreak : DSt := fun E δ => E.bk δ
def sCont : DSt := fun E δ => E.ct δ
theorem s_break : DS X (.Break pos) sBreak := ps_imp ps_break fun D σ H ⟨W, δ, E, r, h, k⟩ => k.bk W δ σ H (Stp.refl W) r h
theorem s_continue : DS X (.Continue pos) sCont := ps_imp ps_continue fun D σ H ⟨W, δ, E, r, h, k⟩ => k.ct W δ σ H (Stp.refl W) r h
def sNever : DSt := fun _ _ => False
theorem s_never : DS X st sNever := ps_imp ps_never fun D σ H ⟨W, δ, E, r, h, k⟩ => h
theorem ss_never {sts : List Stmt} : DSs X sts sNever := pss_imp pss_never fun D σ H ⟨W, δ, E, r, h, k⟩ => h
def sExpr (t : DT) : DSt := fun E δ => t δ fun _ δ' => E.nx δ'
theorem s_expr (he : DX X e te) (hs : swapsWith e none pos.line X.env = pure false := by rfl) : DS X (.Expr e pos) (sExpr te) :=
  ps_imp (ps_expr he hs) fun D σ H ⟨W, δ, E, r, h, k⟩ => ⟨W, δ, _, r, h, fun W' δ' v H' d s r' _ q => k.nx W' δ' σ H' s r' q⟩
def sRet (t : DT) : DSt := fun E δ => t δ E.rt
theorem s_ret (he : DX X e te) : DS X (.Return (some e) pos) (sRet te) :=
  ps_imp (ps_ret he) fun D σ H ⟨W, δ, E, r, h, k⟩ => ⟨W, δ, _, r, h, fun W' δ' v H' d s r' rv q => k.rt W' δ' σ v H' d s r' rv q⟩
def sIf (c : DTb) (t u : DSt) : DSt := fun E δ => c δ fun b δ' => match b with | true => t E δ' | false => u E δ'
theorem s_if {c : Expr} {a b : List Stmt} (hc : DB X c tb) (ha : DSs X a t) (hb : DSs X b u) : DS X (.If c a b pos) (sIf tb t u) :=
  ps_imp (ps_if hc ha hb) fun D σ H ⟨W, δ, E, r, h, k⟩ => ⟨W, δ, _, r, h, fun W' δ' b H' s r' q => by
    cases b with
    | true => exact ⟨W', δ', E, r', q, k.step s⟩
    | false => exact ⟨W', δ', E, r', q, k.step s⟩⟩
/-! ### targets -/
abbrev DTg := D → En → (En → Prop) → Prop
abbrev DTgs := List D → En → (En → Prop) → Prop
def Keeps (sl : List Nat) (σ σ' : St) : Prop := σ'.length = σ.length ∧ ∀ j, j ∉ sl → σ'[j]? = σ[j]?
/-- sl: the slots that the target may store to -/
def tG (K : PySem.W.Frag) (sl : List Nat) (g : DTg) : TG := fun v σ H Q => ∃ W δ d Qd, R K W δ σ H ∧ Rep K W.F v d ∧ g d δ Qd ∧ ∀ δ' σ', Keeps sl σ σ' → R K W δ' σ' H → Qd δ' → Q σ' H
def tGs (K : PySem.W.Frag) (sl : List Nat) (g : DTgs) : TGs := fun vs σ H Q => ∃ W δ ds Qd, R K W δ σ H ∧ RepL K W.F vs ds ∧ g ds δ Qd ∧ ∀ δ' σ', Keeps sl σ σ' → R K W δ' σ' H → Qd δ' → Q σ' H
abbrev DG (X : Cx) (sl : List Nat) (e : Expr) (g : DTg) : Prop := PG X e (tG X.K sl g)
abbrev DGs (X : Cx) (sl : List Nat) (es : List Expr) (g : DTgs) : Prop := PGs X es (tGs X.K sl g)
def gN (i : Nat) : DTg := fun d δ Q => match δ[i]? with
  | some x => x.isLd = false ∧ Q (δ.set i (.v d))
  | none => False
theorem g_name {i : Nat} {x : Str} {pos : Pos} (hN : X.N.Nodup) (hi : X.N[i]? = some x := by rfl) (hx : Loc X.env.scope x := by first | exact Or.inl rfl | exact Or.inr rfl) (hf : X.fn x = true ∨ X.env.scope.names.lookup x = some .local := by first | exact .inl rfl | exact .inr rfl | assumption) : DG X [i] (.Name x pos) (gN i) := by
  refine ⟨fun pins s σ H v u Q I rv h => (pg_name hN hi hx hf).run pins s σ H v u Q I rv ?_⟩
  obtain ⟨W, δ, d, Qd, r, rd, hg, k⟩ := h
  have hd : Qd (δ.set i (.v d)) := by
    unfold gN at hg
    split at hg
    · exact hg.2
    · exact hg.elim
  exact k _ _ ⟨List.length_set, fun j hj => List.getElem?_set_ne (fun z => hj (by simp [z]))⟩ (r.setV rd) hd
def gsNil : DTgs := fun ds δ Q => match ds with | [] => Q δ | _ => False
def gsCons (g : DTg) (gs : DTgs) : DTgs := fun ds δ Q => match ds with | d :: r => g d δ fun δ1 => gs r δ1 Q | [] => False
variable {sl sl2 : List Nat} {es : List Expr} {g : DTg} {gs : DTgs} {n : Nat}
theorem g_nil : DGs X [] [] gsNil := ⟨fun pins s σ H vs us Q I rv h => pgs_nil.run pins s σ H vs us Q I rv (by
  obtain ⟨W, δ, ds, Qd, r, rd, hg, k⟩ := h
  cases rd with
  | nil => exact ⟨rfl, k δ σ ⟨rfl, fun _ _ => rfl⟩ r hg⟩
  | cons _ _ => exact hg.elim)⟩
theorem g_cons (h1 : DG X sl e g) (h2 : DGs X sl2 es gs) (hs : (assignEach (e :: es) X.env).map (·.2) = assign e X.env :: (assignEach es X.env).map (·.2) := by rfl) : DGs X (sl ++ sl2) (e :: es) (gsCons g gs) :=
  ⟨fun pins s σ H vs us Q I rv h => (pgs_cons h1 h2 hs).run pins s σ H vs us Q I rv (by
    obtain ⟨W, δ, ds, Qd, r, rd, hg, k⟩ := h
    cases rd with
    | nil => exact hg.elim
    | cons r1 r2 =>
      refine ⟨_, _, rfl, W, δ, _, _, r, r1, hg, fun δ1 σ1 a1 R1 q1 => ⟨W, δ1, _, Qd, R1, r2, q1, fun δ2 σ2 a2 R2 q2 => k δ2 σ2 ⟨a2.1.trans a1.1, fun j hj => ?_⟩ R2 q2⟩⟩
      rw [List.mem_append, not_or] at hj
      rw [a2.2 j hj.2, a1.2 j hj.1])⟩
def gTp (n : Nat) (gs : DTgs) : DTg := fun d δ Q => match d with
  | .tuple ds => ds.length = n ∧ gs ds δ Q
  | _ => False
theorem g_tup {k : Nat} (hc : X.calm = true) (h : DGs X sl es gs) (hn : (assignEach es X.env).length = n := by rfl) (hst : (assignEach es X.env).findIdx? (·.1) = none := by rfl) : DG X sl (.Tuple es k pos) (gTp n gs) :=
  ⟨fun pins s σ H v u Q I rv h' => (pg_tup hc h hn hst).run pins s σ H v u Q I rv (by
    obtain ⟨W, δ, d, Qd, r, rd, hg, k⟩ := h'
    cases rd with
    | tup ha rs => exact ⟨_, _, rfl, r.sub.sqT ha, by rw [rs.length]; exact hg.1, W, δ, _, Qd, r, rs, hg.2, k⟩
    | _ => exact hg.elim)⟩
/-! ### assignment -/
def sAsg (t : DT) (g : DTg) : DSt := fun E δ => t δ fun d δ1 => g d δ1 E.nx
theorem sAsg_ok {D : Ends} {σ : St} {H : Hp} (h : tDs K (sAsg te g) D σ H) : tAsg (tD K te) (tG K sl g) D σ H := by
  obtain ⟨W, δ, E, r, h, k⟩ := h
  exact ⟨W, δ, _, r, h, fun W' δ' v H' d s r' rv q => ⟨W', δ', d, _, r', rv, q, fun δ2 σ2 _ r2 q2 => k.nx W' δ2 σ2 H' s r2 q2⟩⟩
theorem s_asg {tg : Expr} (he : DX X e te) (hg : DG X sl tg g) (hs : swapsWithSole [tg] e pos.line X.env = pure false := by rfl) (hw : swappedStores [tg] e X.env = pure none := by rfl)
    (h1 : (assignEach [tg] X.env).map (·.2) = [assign tg X.env] := by rfl) : DS X (.Assign [tg] e pos) (sAsg te g) := ps_imp (ps_asg he hg hs hw h1) fun _ _ _ h => sAsg_ok h
theorem gN_tG {i : Nat} {v : V} {σ : St} {H : Hp} {Q : St → Hp → Prop} (h : tG K [i] (gN i) v σ H Q) : gName i v σ H Q := by
  obtain ⟨W, δ, d, Qd, r, rd, hg, k⟩ := h
  have hd : Qd (δ.set i (.v d)) := by
    unfold gN at hg
    split at hg
    · exact hg.2
    · exact hg.elim
  exact k _ _ ⟨List.length_set, fun j hj => List.getElem?_set_ne (fun z => hj (by simp [z]))⟩ (r.setV rd) hd
theorem s_set {i : Nat} {x : Str} {pos' : Pos} (hN : X.N.Nodup) (he : DX X e te) (hi : X.N[i]? = some x := by rfl) (hx : Loc X.env.scope x := by first | exact Or.inl rfl | exact Or.inr rfl)
    (hs : swapsWith e (some (.Name x pos')) pos.line X.env = pure false := by rfl) (hf : X.fn x = true ∨ X.env.scope.names.lookup x = some .local := by first | exact .inl rfl | exact .inr rfl | assumption) : DS X (.Assign [.Name x pos'] e pos) (sAsg te (gN i)) :=
  ps_imp (ps_set hN hi hx he hs hf) fun D σ H h => by
    obtain ⟨W, δ, E, r, h, k⟩ := h
    exact ⟨W, δ, _, r, h, fun W' δ' v H' d s r' rv q => gN_tG ⟨W', δ', d, _, r', rv, q, fun δ2 σ2 _ r2 q2 => k.nx W' δ2 σ2 H' s r2 q2⟩⟩
/-- name op= e, of ints -/
def sAug (i : Nat) (f : Int → Int → Int) (t : DT) : DSt := fun E δ => match δ[i]? with
  | some (.v (.int a)) => t δ fun d δ1 => match d with
    | .int b => gN i (.int (f a b)) δ1 E.nx
    | _ => False
  | _ => False
theorem s_aug {i : Nat} {x : Str} {op : Operator} {f : Int → Int → Int} {pos' : Pos} (hN : X.N.Nodup) (he : DX X e te) (ho : PIp X op (ipI f)) (hi : X.N[i]? = some x := by rfl) (hx : Loc X.env.scope x := by first | exact Or.inl rfl | exact Or.inr rfl)
    (hf : X.fn x = true ∨ X.env.scope.names.lookup x = some .local := by first | exact .inl rfl | exact .inr rfl | assumption) : DS X (.AugAssign (.Name x pos') op e pos) (sAug i f te) :=
  ps_imp (ps_aug hN hi hx he ho hf) fun D σ H h => by
    obtain ⟨W, δ, E, r, h, k⟩ := h
    unfold sAug at h
    split at h
    · rename_i a hd
      obtain ⟨x, ex, y, e1, ry⟩ := r.sl i _ hd
      cases ry
      refine ⟨_, by rw [ex, e1], W, δ, _, r, h, fun W' δ' v H' d s r' rv q => ?_⟩
      cases rv with
      | int b => exact ⟨_, b, rfl, rfl, gN_tG (v := .int (f a b)) ⟨W', δ', _, _, r', .int _, q, fun δ2 σ2 _ r2 q2 => k.nx W' δ2 σ2 H' s r2 q2⟩⟩
      | _ => exact q.elim
    · exact h.elim
/-! ### things of one's own -/
def tO (K : PySem.W.Frag) (t : DTa) : TE := fun σ H Q => ∃ W δ Qd, R K W δ σ H ∧ t δ Qd ∧ ∀ W' δ' p H' vs ds, Stp W W' → R K W' δ' σ H' → Own W' H' p (.lst vs) → ¬ Mine δ' σ p → RepL K W'.F vs ds → Qd ds δ' → Q (.ref p) H'
abbrev DO (X : Cx) (e : Expr) (t : DTa) : Prop := PE X e (tO X.K t)
def dFz (t : DTa) : DT := fun δ Q => t δ fun ds δ' => Q (.list ds) δ'
variable {ta : DTa}
theorem d_fz (h : DO X e ta) : DX X e (dFz ta) :=
  pe_imp h fun σ H Q ⟨W, δ, Qd, r, ht, k⟩ => ⟨W, δ, _, r, ht, fun W' δ' p H' vs ds s r' w m rl q =>
    k (W'.fz p (.lst vs)) δ' _ H' _ (s.trans (Stp.fz w.f)) (r'.froz w.at_ w.f w.b m) (.lst (SqL.of upd_same) (rl.mono (Stp.fz (o := .lst vs) w.f).ex)) q⟩
theorem o_lst (h : DA X es n ta) (hn : n ≤ 1000 := by decide) : DO X (.List es pos) ta :=
  pe_imp (pe_lst h) fun σ H Q ⟨W, δ, Qd, R0, ht, k⟩ => ⟨W, δ, _, R0, ht, fun W1 δ1 xs H1 ds s1 R1 rx hl q1 => ⟨Nat.le_of_lt (small1000 (by rw [rx.length, hl]; exact hn)), fun p hp =>
    have f := R1.free hp
    k W1 δ1 p _ _ _ s1 (R1.laid hp) ⟨upd_same, f.1, f.2.1⟩ f.2.2 rx q1⟩⟩
/-- name = a new list -/
def sSetO (i : Nat) (t : DTa) : DSt := fun E δ => t δ fun ds δ1 => match δ1[i]? with
  | some x => x.isLd = false ∧ E.nx (δ1.set i (.ol ds))
  | none => False
theorem setO_ok {i : Nat} {D : Ends} {σ : St} {H : Hp} (h : tDs K (sSetO i ta) D σ H) : tAsg (tO K ta) (gName i) D σ H := by
  obtain ⟨W, δ, E, r, h, k⟩ := h
  refine ⟨W, δ, _, r, h, fun W' δ' p H' vs ds s r' w m rl q => ?_⟩
  have hq : E.nx (δ'.set i (.ol ds)) ∧ i < δ'.length := by
    revert q
    cases e : δ'[i]? with
    | none => exact fun q => q.elim
    | some s =>
      have hi := (List.getElem?_eq_some_iff.mp e).1
      exact fun q => ⟨q.2, hi⟩
  exact k.nx W' _ _ H' s (r'.setO (s := .ol ds) m ⟨p, vs, rfl, w, rl⟩ hq.2) hq.1
theorem s_setO {i : Nat} {x : Str} {pos' : Pos} (hN : X.N.Nodup) (he : DO X e ta) (hi : X.N[i]? = some x := by rfl) (hx : Loc X.env.scope x := by first | exact Or.inl rfl | exact Or.inr rfl)
    (hs : swapsWith e (some (.Name x pos')) pos.line X.env = pure false := by rfl) (hf : X.fn x = true ∨ X.env.scope.names.lookup x = some .local := by first | exact .inl rfl | exact .inr rfl | assumption) : DS X (.Assign [.Name x pos'] e pos) (sSetO i ta) :=
  ps_imp (ps_set hN hi hx he hs hf) fun _ _ _ h => setO_ok h
/-- ghost: the own list in slot i stands still from here on -/
def fzS (i : Nat) (δ : En) : En := match δ[i]? with
  | some (.ol ds) => δ.set i (.v (.list ds))
  | _ => δ
theorem R.fzS {W : Wd} {δ : En} {σ : St} {H : Hp} (r : R K W δ σ H) (i : Nat) : ∃ W', Stp W W' ∧ R K W' (fzS i δ) σ H := by
  unfold DL.fzS
  split
  · rename_i ds hd
    obtain ⟨x, ex, p, vs, e1, w, rl⟩ := r.sl i _ hd
    subst e1
    -- the slot's word is dropped first, then the list is frozen
    have r1 : R K W (δ.set i .un) σ H := r.drop rfl fun _ _ => trivial
    have m : ¬ Mine (δ.set i .un) σ p := by
      rintro ⟨j, s, e, o, q⟩
      by_cases hj : i = j
      · subst hj
        rw [List.getElem?_set_self (List.getElem?_eq_some_iff.mp hd).1] at e
        cases e
        cases o
      · rw [List.getElem?_set_ne hj] at e
        exact r.ne i j _ s hj hd e rfl o (ex.trans q.symm)
    have r2 := r1.froz w.at_ w.f w.b m
    have r3 := r2.drop (i := i) (s := .v (.list ds)) rfl fun y hy => by
      rw [ex] at hy
      cases hy
      exact ⟨_, rfl, .lst (SqL.of upd_same) (rl.mono (Stp.fz (o := .lst vs) w.f).ex)⟩
    rw [List.set_set] at r3
    exact ⟨_, Stp.fz w.f, r3⟩
  · exact ⟨W, Stp.refl W, r⟩
def sFz (i : Nat) (t : DSt) : DSt := fun E δ => t E (fzS i δ)
theorem s_fz (i : Nat) (h : DS X st t) : DS X st (sFz i t) := ps_imp h fun D σ H ⟨W, δ, E, r, h, k⟩ => by
  obtain ⟨W', s, r'⟩ := r.fzS i
  exact ⟨W', fzS i δ, E, r', h, k.step s⟩
theorem ss_fz (i : Nat) (h : DSs X rest t) : DSs X rest (sFz i t) := pss_imp h fun D σ H ⟨W, δ, E, r, h, k⟩ => by
  obtain ⟨W', s, r'⟩ := r.fzS i
  exact ⟨W', fzS i δ, E, r', h, k.step s⟩
/-- name.append(e) -/
def sApp (i : Nat) (t : DT) : DSt := fun E δ => match δ[i]? with
  | some (.ol _) => t δ fun d δ1 => match δ1[i]? with
    | some (.ol ds) => ds.length < 16777216 ∧ E.nx (δ1.set i (.ol (ds ++ [d])))
    | _ => False
  | _ => False
theorem s_app {i : Nat} {x : Str} {p1 p2 p3 : Pos} (he : DX X e te) (hN : X.N[i]? = some x := by rfl) (hv : Vis X.env.scope x := by first | exact Or.inl rfl | exact Or.inr (Or.inl rfl) | exact Or.inr (Or.inr rfl)) (hd : (x == ("__debug__" : Str)) = false := by decide)
    (hcd : (x == ("__classdict__" : Str)) = false := by decide) (hbase : attributeBase (.Name x p1) "append" X.env (eval (.Name x p1) X.env) = eval (.Name x p1) X.env := by rfl)
    (hfew : ((backTo p3 (starEach (e :: []) X.env)).all (fun x => !x.1) && (backToKw p3 (keywordEach [] X.env)).all (fun x => x.1.isSome)
      && decide ((e :: []).length + ([] : List Keyword).length + (if ([] : List Keyword).isEmpty then 0 else 1) < 30)) = true := by rfl)
    (hline : (p2.endLine == p3.line) = true := by rfl) (hs : starEach (e :: []) X.env = (false, eval e X.env) :: starEach [] X.env := by rfl) (hplain : (backTo p3 (starEach [] X.env)).any (·.1) = false := by rfl)
    (hsw : swapsWith (.Call (.Attribute (.Name x p1) "append" p2) [e] [] p3) none pos.line X.env = pure false := by rfl) :
    DS X (.Expr (.Call (.Attribute (.Name x p1) "append" p2) [e] [] p3) pos) (sApp i te) := by
  refine ps_imp (ps_expr (pe_bm PySem.F.plainAttrs_list PySem.F.slot_list_append PySem.F.type_list_append mt_append (pe_var hN hv hd hcd) (pa_cons he pa_nil hs) hbase hfew hline hs hplain) hsw) fun D σ H h => ?_
  obtain ⟨W, δ, E, r, h, k⟩ := h
  unfold sApp at h
  split at h
  · rename_i ds0 hd0
    obtain ⟨y, ey, p, vs, e1, w, rl⟩ := r.sl i _ hd0
    subst e1
    refine ⟨_, ey, .inl ⟨rfl, _, .inl (.inl w.at_)⟩, W, δ, _, r, h, fun W' δ' v H' d s r' rv q => ?_⟩
    revert q
    cases e2 : δ'[i]? with
    | none => exact fun q => q.elim
    | some s2 =>
      cases s2 with
      | ol ds =>
        intro q
        obtain ⟨y', ey', p', vs', e3, w', rl'⟩ := r'.sl i _ e2
        rw [ey] at ey'
        cases ey'
        cases e3
        refine ⟨p, vs', v, rfl, rfl, w'.at_, ?_, ?_⟩
        · rw [rl'.length, sizeLine_eq]; exact q.1
        · exact k.nx W' _ σ _ s (r'.chg (s := .ol (ds ++ [d])) e2 rfl ey ⟨p, _, rfl, ⟨upd_same, w'.f, w'.b⟩, rl'.append (.cons rv .nil)⟩) q.2
      | _ => exact fun q => q.elim
  · exact h.elim
/-- name[i] = e of an own list -/
def sPut (i : Nat) (tv ti : DT) : DSt := fun E δ => tv δ fun d δ1 => ti δ1 fun k δ2 => match δ2[i]?, k with
  | some (.ol ds), .int j => ∃ m, ixN ds.length j = some m ∧ E.nx (δ2.set i (.ol (ds.set m d)))
  | _, _ => False
/-! ### while -/
def sWhile (c : DTb) (t : DSt) : DSt := fun E δ => ∃ I : Nat → En → Prop, (∃ m, I m δ) ∧ ∀ m δ1, I m δ1 → c δ1 fun b δ2 => match b with
  | true => t { nx := fun δ3 => ∃ m', m' < m ∧ I m' δ3, rt := E.rt, bk := E.nx, ct := fun δ3 => ∃ m', m' < m ∧ I m' δ3 } δ2
  | false => E.nx δ2
theorem s_while {c : Expr} {body : List Stmt} (hp : PassesOwn (model X.prog X.w) X.A X.env X.xe) (hc : DB X c tb) (hb : DSs X body t) : DS X (.While c body [] pos) (sWhile tb t) :=
  ps_imp (ps_while hp hc hb) fun D σ H ⟨W, δ, E, r, ⟨I, ⟨m, i0⟩, turn⟩, k⟩ => by
    refine ⟨fun m σ H => ∃ W1 δ1, Stp W W1 ∧ R X.K W1 δ1 σ H ∧ I m δ1, ⟨m, W, δ, Stp.refl W, r, i0⟩, fun m σ1 H1 ⟨W1, δ1, s1, r1, i1⟩ => ?_⟩
    refine ⟨W1, δ1, _, r1, turn m δ1 i1, fun W2 δ2 b H2 s2 r2 q => ?_⟩
    cases b with
    | true =>
      refine ⟨fun σ' H' => ∃ m' W3 δ3, m' < m ∧ Stp W W3 ∧ R X.K W3 δ3 σ' H' ∧ I m' δ3, fun σ' H' ⟨m', W3, δ3, l, s3, r3, i3⟩ => ⟨m', l, W3, δ3, s3, r3, i3⟩, W2, δ2, _, r2, q, ?_⟩
      have s12 := s1.trans s2
      exact ⟨fun W3 δ3 σ3 H3 s3 r3 ⟨m', l, i3⟩ => ⟨m', W3, δ3, l, s12.trans s3, r3, i3⟩, fun W3 δ3 σ3 H3 s3 r3 q3 => k.nx W3 δ3 σ3 H3 (s12.trans s3) r3 q3,
        fun W3 δ3 σ3 H3 s3 r3 ⟨m', l, i3⟩ => ⟨m', W3, δ3, l, s12.trans s3, r3, i3⟩, fun W3 δ3 σ3 v H3 d s3 r3 rv q3 => k.rt W3 δ3 σ3 v H3 d (s12.trans s3) r3 rv q3⟩
    | false => exact k.nx W2 δ2 σ1 H2 (s1.trans s2) r2 q
/-! ### for -/
/-- what a loop walks gives the data ds one by one -/
structure ItOk (K : PySem.W.Frag) (W : Wd) (J : It) (ds : List D) : Prop where
  go : ∀ i H, i < ds.length → Ex W.F H → J.go i H
  stop : ∀ H, Ex W.F H → J.stop ds.length H
  yld : ∀ i H x H' W2 δ σ, i < ds.length → Ex W.F W2.F → R K W2 δ σ H → J.yld i H x H' → ∃ W3 d, Stp W2 W3 ∧ R K W3 δ σ H' ∧ ds[i]? = some d ∧ Rep K W3.F x d
def tI (K : PySem.W.Frag) (it : DTa) : TI := fun σ H Rr => ∃ W δ Qd, R K W δ σ H ∧ it δ Qd ∧ ∀ W' δ' H' ds J, Stp W W' → R K W' δ' σ H' → ItOk K W' J ds → Qd ds δ' → Rr J H'
abbrev DI (X : Cx) (tg e : Expr) (it : DTa) : Prop := PI X tg e (tI X.K it)
theorem pi_imp {tg : Expr} {wi wi' : TI} (h : PI X tg e wi) (k : ∀ σ H Q, wi' σ H Q → wi σ H Q) : PI X tg e wi' := ⟨fun pins s σ H Q I q => h.run pins s σ H Q I (k σ H Q q)⟩
def fLoop (g : DTg) (body : DSt) (E : Nd) : List D → En → Prop
  | [], δ => E.nx δ
  | d :: ds, δ => g d δ fun δ1 => body { nx := fLoop g body E ds, rt := E.rt, bk := E.nx, ct := fLoop g body E ds } δ1
def sFor (it : DTa) (g : DTg) (body : DSt) : DSt := fun E δ => it δ fun ds δ1 => fLoop g body E ds δ1
theorem s_for {tg iter : Expr} {body : List Stmt} {it : DTa} (hp : PassesOwn (model X.prog X.w) X.A X.env X.xe) (hc : X.calm = true) (hi : DI X tg iter it) (hg : DG X sl tg g) (hb : DSs X body t)
    (hs : ∀ x, foldedSetIterable iter X.env x = pure x := by intro _; rfl) : DS X (.For tg iter body [] pos) (sFor it g t) :=
  ps_imp (ps_for hp hc hi hg hb hs) fun D σ H ⟨W, δ, E, r, h, k⟩ => by
    refine ⟨W, δ, _, r, h, fun W1 δ1 H1 ds J s1 r1 ok q1 => ?_⟩
    refine ⟨fun i m σ H => ∃ W2 δ2, Stp W1 W2 ∧ R X.K W2 δ2 σ H ∧ i ≤ ds.length ∧ m = ds.length - i ∧ fLoop g t E (ds.drop i) δ2, ⟨ds.length, W1, δ1, Stp.refl W1, r1, Nat.zero_le _, rfl, q1⟩, ?_⟩
    rintro i m σ2 H2 ⟨W2, δ2, s2, r2, hi, rfl, q⟩
    by_cases hlt : i < ds.length
    · rw [List.drop_eq_getElem_cons hlt] at q
      refine .inr ⟨ok.go i H2 hlt (s2.ex.trans r2.sub), fun σ' H' => ∃ W3 δ3, Stp W1 W3 ∧ R X.K W3 δ3 σ' H' ∧ fLoop g t E (ds.drop (i + 1)) δ3, fun σ' H' ⟨W3, δ3, s3, r3, q3⟩ => ⟨ds.length - (i + 1), by omega, W3, δ3, s3, r3, hlt, rfl, q3⟩, fun x H' y => ?_⟩
      obtain ⟨W3, d, s3, r3, ed, rx⟩ := ok.yld i H2 x H' W2 δ2 σ2 hlt s2.ex r2 y
      rw [List.getElem?_eq_getElem hlt] at ed
      cases ed
      refine ⟨W3, δ2, _, _, r3, rx, q, fun δ4 σ4 _ r4 q4 => ⟨W3, δ4, _, r4, q4, ?_⟩⟩
      have s13 := s2.trans s3
      have s03 := s1.trans s13
      exact ⟨fun W5 δ5 σ5 H5 s5 r5 q5 => ⟨W5, δ5, s13.trans s5, r5, q5⟩, fun W5 δ5 σ5 H5 s5 r5 q5 => k.nx W5 δ5 σ5 H5 (s03.trans s5) r5 q5, fun W5 δ5 σ5 H5 s5 r5 q5 => ⟨W5, δ5, s13.trans s5, r5, q5⟩,
        fun W5 δ5 σ5 v H5 d s5 r5 rv q5 => k.rt W5 δ5 σ5 v H5 d (s03.trans s5) r5 rv q5⟩
    · have e : i = ds.length := by omega
      subst e
      rw [List.drop_length] at q
      exact .inl ⟨ok.stop H2 (s2.ex.trans r2.sub), k.nx W2 δ2 σ2 H2 (s1.trans s2) r2 q⟩
end
end DL
/-! What is walked: lists, tuples, texts; ranges; enumerate and zip over any of these. -/
namespace PySem
set_option maxHeartbeats 1000000 in
theorem dl_enumerate_new1 {v : Value} {o : Obj} {H : Heap → Prop} (B : Begins v o H) :
    Meets (Builtin.«enumerate.__new__» ⟨[.type "enumerate", v], []⟩) (fun _ R s => H s.heap ∧
      R (.ok (.ret (.ref (s.heap.push o).objs.size))) { s with heap := (s.heap.push o).push { cls := .type "enumerate", data := .fields #[.none, .bool false, .ref s.heap.objs.size, rawInt 0, .none, .none] } }) :=
  .of_wp fun prog w A R s h => by
    obtain ⟨hp, g, d, tk, os⟩ := s; obtain ⟨h1, h⟩ := h
    have hsub := sub_enumerate
    have q1 : ∀ {A' : Around} {E : Value → Shared → Prop} {Q : Value → Shared → Prop}, Q (.ref hp.objs.size) ⟨hp.push o, g, d, tk, os⟩ → wpAny (model prog w) A' (pyIter v) Q E ⟨hp, g, d, tk, os⟩ :=
      fun q => B.iter prog w _ _ ⟨hp, g, d, tk, os⟩ _ h1 q
    wp_walk using q1
    refine wpAny_stack_any fun st => wpAny_pure ?_
    split
    · rename_i c _ _ _ _ _
      cases (c == Value.type "enumerate")
      · wp_walk using q1
        exact ⟨_, rfl, h⟩
      · wp_walk using q1
        exact ⟨_, rfl, h⟩
    · wp_walk using q1
      exact ⟨_, rfl, h⟩
theorem dl_enum_begins {prog : Program} {w : World} {A : Around} {E : Value → Shared → Prop} {s : Shared} {v : Value} {o : Obj} {H : Heap → Prop} {Q : Value → Shared → Prop} (B : Begins v o H) (h1 : H s.heap)
    (h : ∀ h', IsEnum h' (s.heap.objs.size + 1) s.heap.objs.size 0 .none → h'.get? s.heap.objs.size = some o → h'.objs.size = s.heap.objs.size + 2 →
      (∀ b o, s.heap.get? b = some o → h'.get? b = some o) → Q (.ref (s.heap.objs.size + 1)) { s with heap := h' }) :
    wpAny (model prog w) A (call (.type "enumerate") [v]) Q E s := by
  refine callType_new F.called_enumerate (by decide) (F.typeCall_enumerate_1 _) (F.newCall_enumerate_1 _) (fun obj => F.args_object_init_2 obj _) F.entry_enumerate_new
    (dl_enumerate_new1 B) ⟨h1, ?_⟩
  have hz : (s.heap.push o).objs.size = s.heap.objs.size + 1 := Heap.size_push ..
  show _ ∧ _
  rw [hz]
  have he : IsEnum ((s.heap.push o).push { cls := .type "enumerate", data := .fields #[.none, .bool false, .ref s.heap.objs.size, rawInt 0, .none, .none] }) (s.heap.objs.size + 1) s.heap.objs.size 0 .none := by
    have := Heap.get?_push_size (s.heap.push o) (o := { cls := .type "enumerate", data := .fields #[.none, .bool false, .ref s.heap.objs.size, rawInt 0, .none, .none] }) rfl
    rw [hz] at this; exact this
  refine ⟨⟨_, he, rfl⟩, h _ he (Heap.get?_push_of_some _ (Heap.get?_push_size _ B.free)) (by rw [Heap.size_push, hz]) fun b o x => Heap.get?_push_of_some _ (Heap.get?_push_of_some _ x)⟩
end PySem
namespace DL
open PySem PySem.Spec L2
open PyProof.Rows hiding St
/-- what may be walked -/
inductive Kd where
  | lst (a : Addr) (xs : List V) | tup (a : Addr) (xs : List V) | txt (x : Str)
def Kd.has (K : PySem.W.Frag) (H : Hp) : Kd → Prop
  | .lst a xs => SqL K H a xs
  | .tup a xs => SqT K H a xs
  | .txt _ => True
def Kd.len : Kd → Nat
  | .lst _ xs => xs.length
  | .tup _ xs => xs.length
  | .txt x => x.cps.size
def Kd.item : Kd → Nat → Option V
  | .lst _ xs, i => xs[i]?
  | .tup _ xs, i => xs[i]?
  | .txt x, i => x.cps[i]?.map fun c => .str ⟨#[c]⟩
def Kd.val : Kd → V
  | .lst a _ => .ref a
  | .tup a _ => .ref a
  | .txt x => .str x
def Kd.own (it : Addr) (t : Tok) (i : Nat) (h : Heap) : Kd → Prop
  | .lst a _ => h.IsListIter it a i
  | .tup a _ => h.IsTupleIter it a i
  | .txt x => h.IsStrIter it (strIterType x) x t i
def Kd.obj (t : Tok) : Kd → Obj
  | .lst a _ => { cls := .type "list_iterator", data := .fields #[.ref a, .int 0 0] }
  | .tup a _ => { cls := .type "tuple_iterator", data := .fields #[.ref a, .int 0 0] }
  | .txt x => { cls := .type (strIterType x), data := .fields #[.str x t, .int 0 0] }
def Kd.tokOf : Value → Tok
  | .str _ t => t
  | _ => 0
theorem Kd.own_obj {it : Addr} {t : Tok} {i : Nat} {h : Heap} : ∀ {k : Kd}, k.own it t i h → ∃ o, h.get? it = some o ∧ ∀ v, o.data ≠ .cell v
  | .lst _ _, ⟨o, ho, _, hd⟩ => ⟨o, ho, fun v q => by rw [hd] at q; cases q⟩
  | .tup _ _, ⟨o, ho, _, hd⟩ => ⟨o, ho, fun v q => by rw [hd] at q; cases q⟩
  | .txt _, ⟨o, ho, _, hd⟩ => ⟨o, ho, fun v q => by rw [hd] at q; cases q⟩
theorem Kd.own_keep {it : Addr} {t : Tok} {i : Nat} {h h' : Heap} (e : ∀ o, h.get? it = some o → h'.get? it = some o) : ∀ {k : Kd}, k.own it t i h → k.own it t i h'
  | .lst _ _, ⟨o, ho, r⟩ => ⟨o, e o ho, r⟩
  | .tup _ _, ⟨o, ho, r⟩ => ⟨o, e o ho, r⟩
  | .txt _, ⟨o, ho, r⟩ => ⟨o, e o ho, r⟩
theorem Kd.own_new {it : Addr} {t : Tok} {h : Heap} : ∀ {k : Kd}, h.get? it = some (k.obj t) → k.own it t 0 h
  | .lst _ _, e => ⟨_, e, rfl, rfl⟩
  | .tup _ _, e => ⟨_, e, rfl, rfl⟩
  | .txt _, e => ⟨_, e, rfl, rfl⟩
section
variable {X : Cx} {pins : List (Addr × Obj)} {σ : St} {H : Hp} {s : Shared}
theorem fpOk_apart {b : Addr} (I : Inv X pins σ H s) (f : FpOk X pins H b) : X.K.lookup b = none := by
  cases q : X.K.lookup b with
  | none => rfl
  | some o =>
    have e := I.ok.mod.kin b o q
    have e0 := (I.ok.bs b o e).1
    rcases f.2.2.2.1 with z | z
    · exact absurd z (I.ok.noex b o e)
    · exact absurd (Nat.lt_of_lt_of_le (Heap.lt_size e0) z) (Nat.lt_irrefl _)
/-- an address that is not tracked and not of the written part -/
def Aprt (X : Cx) (H : Hp) (b : Addr) : Prop := H b = none ∧ X.K.lookup b = none
theorem Kd.apart {k : Kd} {a b : Addr} (hk : k.has X.K H) (e : k.val = .ref a) (hb : Aprt X H b) : a ≠ b := by
  rintro rfl
  cases k with
  | lst c xs =>
    cases e
    rcases hk with (h | ⟨o, h⟩) | ⟨o, its, n, h, _⟩
    · rw [hb.1] at h; cases h
    · rw [hb.1] at h; cases h
    · rw [hb.2] at h; cases h
  | tup c xs =>
    cases e
    rcases hk with (h | ⟨o, h⟩) | ⟨o, its, n, h, _⟩
    · rw [hb.1] at h; cases h
    · rw [hb.1] at h; cases h
    · rw [hb.2] at h; cases h
  | txt x => cases e
theorem Kd.draw {A : Around} {it : Addr} {t : Tok} (I : Inv X pins σ H s) (hh : A.handled = none) (k : Kd) (hk : k.has X.K H) (ha : Aprt X H it) :
    ∃ (fp : List Addr) (P : Nat → Value → Prop) (S : Nat → Heap → Prop), Draws X.prog X.w A it fp k.len P S ∧ it ∈ fp ∧ (∀ b ∈ fp, b = it ∨ ¬ Aprt X H b) ∧
      (∀ i, k.own it t i s.heap → S i s.heap) ∧ (∀ i h, S i h → k.own it t i h) ∧ ∀ i v, P i v → ∃ x, k.item i = some x ∧ RelV x v := by
  cases k with
  | lst a xs =>
    have ne : a ≠ it := Kd.apart (k := .lst a xs) hk rfl ha
    obtain ⟨its, rv, p, _⟩ := I.list hk
    have e : its.toArray.size = xs.length := by rw [List.size_toArray]; exact rv.length.symm
    have D := Draws.list (prog := X.prog) (w := X.w) hh it a ne its.toArray
    rw [e] at D
    refine ⟨_, _, _, D, by simp, fun b hb => ?_, fun i o => ⟨o, p.isList⟩, fun i h st => st.1, fun i v hv => ?_⟩
    · have hb' : b = it ∨ b = a := by simpa using hb
      rcases hb' with z | z
      · exact .inl z
      · exact .inr fun q => Kd.apart (k := .lst a xs) hk rfl q z.symm
    · have hi : i < xs.length := by
        have := (Array.getElem?_eq_some_iff.mp hv).1
        omega
      obtain ⟨u, hu, ru⟩ := rv.get (List.getElem?_eq_getElem hi)
      have : its.toArray[i]? = its[i]? := by simp
      rw [this, hu] at hv
      cases hv
      exact ⟨_, List.getElem?_eq_getElem hi, ru⟩
  | tup a xs =>
    have ne : a ≠ it := Kd.apart (k := .tup a xs) hk rfl ha
    obtain ⟨its, rv, p, _⟩ := I.tuple hk
    have e : its.toArray.size = xs.length := by rw [List.size_toArray]; exact rv.length.symm
    have D := Draws.tuple (prog := X.prog) (w := X.w) hh it a ne its.toArray
    rw [e] at D
    refine ⟨_, _, _, D, by simp, fun b hb => ?_, fun i o => ⟨o, p⟩, fun i h st => st.1, fun i v hv => ?_⟩
    · have hb' : b = it ∨ b = a := by simpa using hb
      rcases hb' with z | z
      · exact .inl z
      · exact .inr fun q => Kd.apart (k := .tup a xs) hk rfl q z.symm
    · have hi : i < xs.length := by
        have := (Array.getElem?_eq_some_iff.mp hv).1
        omega
      obtain ⟨u, hu, ru⟩ := rv.get (List.getElem?_eq_getElem hi)
      have : its.toArray[i]? = its[i]? := by simp
      rw [this, hu] at hv
      cases hv
      exact ⟨_, List.getElem?_eq_getElem hi, ru⟩
  | txt x =>
    refine ⟨_, _, _, Draws.text (prog := X.prog) (w := X.w) hh it x t, by simp, fun b hb => .inl (by simpa using hb), fun i o => o, fun i h st => st, fun i v hv => ?_⟩
    obtain ⟨c, u, hc, rfl⟩ := hv
    exact ⟨.str ⟨#[c]⟩, by show x.cps[i]?.map _ = _; rw [hc]; rfl, u, rfl⟩
theorem Kd.begin {u : Value} (I : Inv X pins σ H s) (k : Kd) (hk : k.has X.K H) (rv : RelV k.val u) : ∃ Hb : Heap → Prop, Begins u (k.obj (Kd.tokOf u)) Hb ∧ Hb s.heap := by
  cases k with
  | lst a xs =>
    cases (show u = .ref a from rv)
    obtain ⟨its, _, p, _⟩ := I.list hk
    exact ⟨_, begins_list a its.toArray, p.isList⟩
  | tup a xs =>
    cases (show u = .ref a from rv)
    obtain ⟨its, _, p, _⟩ := I.tuple hk
    exact ⟨_, begins_tuple a its.toArray, p⟩
  | txt x =>
    obtain ⟨t, e⟩ := (show ∃ t, u = .str x t from rv)
    subst e
    exact ⟨_, begins_text x t, trivial⟩
end
/-! ### enumerate -/
def ItE (K : PySem.W.Frag) (k : Kd) : It :=
  ⟨fun i H => i < k.len ∧ k.has K H, fun i H v H' => ∃ T x, v = .ref T ∧ H T = none ∧ H' = upd H T (.tup [.int (i : Nat), x]) ∧ k.item i = some x, fun i H => i = k.len ∧ k.has K H⟩
theorem turn_enumG {P : Program} {w : World} {K : PySem.W.Frag} {elts : List Expr} {kk : Nat} {tpos : Pos} (k : Kd) (e it : Addr) (t : Tok) (hne : e ≠ it) :
    Turn P w K (.Tuple elts kk tpos) (ItE K k) [e, it] e (fun i h => (∃ old, IsEnum h e it ((i : Nat) : Int) old) ∧ k.own it t i h) where
  mem := by simp
  obj := fun i h st b hb => by
    obtain ⟨⟨old, he⟩, ho⟩ := st
    have e' : b = e ∨ b = it := by simpa using hb
    rcases e' with z | z
    · rw [z]; exact ⟨_, he, fun v q => nomatch q⟩
    · rw [z]; exact Kd.own_obj ho
  keep := fun i h h' st q => let ⟨⟨old, he⟩, ho⟩ := st; ⟨⟨old, q e (by simp) _ he⟩, Kd.own_keep (fun o x => q it (by simp) o x) ho⟩
  item := by
    intro X hP hw hK hc i pins s σ H E I hf st hg
    subst hP hw hK
    obtain ⟨⟨old, he⟩, ho⟩ := st
    obtain ⟨hi, hk⟩ := hg
    have ae : Aprt X H e := ⟨(hf e (by simp)).1, fpOk_apart I (hf e (by simp))⟩
    have ai : Aprt X H it := ⟨(hf it (by simp)).1, fpOk_apart I (hf it (by simp))⟩
    obtain ⟨fp, Pv, S, Dr, mem, fr, s1, s2, pv⟩ := Kd.draw (A := X.A.in1) (t := t) I (show X.A.in1.handled = none from I.ok.hd hc) k hk ai
    have hel : e < s.heap.objs.size := Heap.lt_size he
    have hil : it < s.heap.objs.size := by obtain ⟨_, q, _⟩ := Kd.own_obj ho; exact Heap.lt_size q
    refine wpAny_pyNext_enum_itemD Dr he (s1 i ho) hi hne (fun z => (fr e z).elim hne fun q => q ae) fun u h' tk hP ho' hS hT hsz hkp => ?_
    obtain ⟨x, hx, ru⟩ := pv i u hP
    refine ⟨_, rfl, wpAny_letOwnedTupleGo_enum (s := { s with heap := h', toks := tk + 1 }) ho' fun h'' he' sb => ?_⟩
    have hT2 : h''.get? s.heap.objs.size = some { cls := .type "tuple", data := .seq #[.int i tk, u] } := (sb.2 _ (Nat.ne_of_gt hel)).trans hT
    have new : ObjOk X.prog X.w (upd H s.heap.objs.size (.tup [.int (i : Nat), x])) h'' s.heap.objs.size (.tup [.int (i : Nat), x]) :=
      ⟨by show 2 ≤ sizeLine; decide, [.int i tk, u], .cons ⟨_, rfl⟩ (.cons ru .nil), ⟨_, hT2, rfl, _, rfl⟩⟩
    have I1 : Inv X pins σ (upd H s.heap.objs.size (.tup [.int (i : Nat), x])) { s with heap := h'', toks := tk + 1 } :=
      I.turnedNew (ch := [e, it]) (fun b ob hb q => (sb.2 b (fun z => hb (by simp [z]))).trans (hkp b ob (fun z => hb (by simp [z])) (fun z => hb (by simp [z])) q)) hf (Nat.le_refl _) new
    refine ⟨.ref s.heap.objs.size, _, I1, rfl, ⟨_, x, rfl, I.hok.fresh (Nat.le_refl _), rfl, hx⟩, ⟨⟨u, ?_⟩, Kd.own_keep (fun o q => (sb.2 it (Ne.symm hne)).trans q) (s2 _ _ hS)⟩, fun b hb => ?_⟩
    · have e1 : ((i + 1 : Nat) : Int) = (i : Int) + 1 := by omega
      rw [e1]; exact he'
    · have hb' : b < s.heap.objs.size := by
        have e' : b = e ∨ b = it := by simpa using hb
        rcases e' with z | z
        · rw [z]; exact hel
        · rw [z]; exact hil
      rw [upd_ne (Nat.ne_of_lt hb')]
      exact (hf b hb).1
  done := by
    intro X hP hw hK hc i pins s σ H E I hf st hg
    subst hP hw hK
    obtain ⟨⟨old, he⟩, ho⟩ := st
    obtain ⟨rfl, hk⟩ := hg
    have ai : Aprt X H it := ⟨(hf it (by simp)).1, fpOk_apart I (hf it (by simp))⟩
    obtain ⟨fp, Pv, S, Dr, mem, fr, s1, s2, pv⟩ := Kd.draw (A := X.A.in1) (t := t) I (show X.A.in1.handled = none from I.ok.hd hc) k hk ai
    obtain ⟨f0, f1, f2, f3, f4, f5⟩ := hf it (by simp)
    exact wpAny_pyNext_enum_endD Dr he (s1 _ ho) fun h' eb => ⟨rfl, I.turned (t' := s.toks) (fun b o hb q => eb b o hb q) f0 f1 f3 f4 f5⟩
  self := fun A i s Q E st h => let ⟨⟨_, he⟩, _⟩ := st; wpAny_pyIter_enum he h
def iEnumG (K : PySem.W.Frag) (ta : TA) : TI := fun σ H R => ta σ H fun vs H1 => ∃ k : Kd, vs = [k.val] ∧ k.has K H1 ∧ R (ItE K k) H1
theorem pi_enumG {X : Cx} {e : Expr} {ta : TA} {p pos tpos : Pos} {elts : List Expr} {kk : Nat} (hg : Gl X "enumerate") (hm : X.mg "enumerate" = none) (ha : PA X [e] ta) (hs : starEach [e] X.env = [(false, eval e X.env)] := by rfl) :
    PI X (.Tuple elts kk tpos) (.Call (.Name "enumerate" p) [e] [] pos) (iEnumG X.K ta) := by
  refine ⟨fun pins s σ H R I h => ?_⟩
  refine Call_ (ld_blt I hg hm boot_enumerate (PyProof.Rows.callWith_type1 (thn (ha.run pos pins s σ H _ I h) fun us s1 ⟨vs, H1, I1, r1, q1⟩ => ?_) hs rfl))
  obtain ⟨k, ex, hk, q⟩ := q1
  subst ex
  cases r1 with
  | cons r rr =>
    cases rr
    obtain ⟨Hb, B, hb⟩ := Kd.begin I1 k hk r
    refine dl_enum_begins B hb fun h' he hit hsz hkp => wpAny_pyIter_enum he ?_
    have I2 : Inv X pins σ H1 { s1 with heap := h' } := I1.kept (t' := s1.toks) hkp
    refine ⟨s1.heap.objs.size + 1, [s1.heap.objs.size + 1, s1.heap.objs.size], _, _, H1, rfl, I2, turn_enumG k (s1.heap.objs.size + 1) s1.heap.objs.size _ (Nat.succ_ne_self _), ⟨⟨.none, he⟩, Kd.own_new hit⟩, fun b hb => ?_, q⟩
    have e' : b = s1.heap.objs.size + 1 ∨ b = s1.heap.objs.size := by simpa using hb
    have hle : s1.heap.objs.size ≤ b := by
      rcases e' with z | z
      · rw [z]; exact Nat.le_add_right _ _
      · rw [z]; exact Nat.le_refl _
    exact I1.fpOk hle (I1.hok.fresh hle)
/-! ### zip of two -/
def ItZ (K : PySem.W.Frag) (k1 k2 : Kd) : It :=
  ⟨fun i H => (i < k1.len ∧ i < k2.len) ∧ k1.has K H ∧ k2.has K H, fun i H v H' => ∃ T x y, v = .ref T ∧ H T = none ∧ H' = upd H T (.tup [x, y]) ∧ k1.item i = some x ∧ k2.item i = some y,
    fun i H => (i ≤ k1.len ∧ i ≤ k2.len ∧ (i = k1.len ∨ i = k2.len)) ∧ k1.has K H ∧ k2.has K H⟩
theorem turn_zip2G {P : Program} {w : World} {K : PySem.W.Frag} {elts : List Expr} {kk : Nat} {tpos : Pos} (k1 k2 : Kd) (z TI TO i1 i2 : Addr) (t1 t2 : Tok) (nd : [z, TI, TO, i1, i2].Nodup) :
    Turn P w K (.Tuple elts kk tpos) (ItZ K k1 k2) [z, TI, TO, i1, i2] z (fun i h => IsZip h z TI TO .none ∧ IsTupOf2 h TI (.ref i1) (.ref i2) ∧ (∃ x y, IsTupOf2 h TO x y) ∧ k1.own i1 t1 i h ∧ k2.own i2 t2 i h) where
  mem := by simp
  obj := fun i h st c hc => by
    obtain ⟨hz, hTI, ⟨x, y, hTO⟩, h1, h2⟩ := st
    have e' : c = z ∨ c = TI ∨ c = TO ∨ c = i1 ∨ c = i2 := by simpa using hc
    rcases e' with q | q | q | q | q
    · rw [q]; exact ⟨_, hz, fun v q => nomatch q⟩
    · rw [q]; exact ⟨_, hTI, fun v q => nomatch q⟩
    · rw [q]; exact ⟨_, hTO, fun v q => nomatch q⟩
    · rw [q]; exact Kd.own_obj h1
    · rw [q]; exact Kd.own_obj h2
  keep := fun i h h' st q => by
    obtain ⟨hz, hTI, ⟨x, y, hTO⟩, h1, h2⟩ := st
    exact ⟨q z (by simp) _ hz, q TI (by simp) _ hTI, ⟨x, y, q TO (by simp) _ hTO⟩, Kd.own_keep (fun o x => q i1 (by simp) o x) h1, Kd.own_keep (fun o x => q i2 (by simp) o x) h2⟩
  item := by
    intro X hP hw hK hc i pins s σ H E I hf st hg
    subst hP hw hK
    obtain ⟨hz, hTI, ⟨x0, y0, hTO⟩, h1, h2⟩ := st
    obtain ⟨⟨l1, l2⟩, hk1, hk2⟩ := hg
    have ap : ∀ b ∈ [z, TI, TO, i1, i2], Aprt X H b := fun b hb => ⟨(hf b hb).1, fpOk_apart I (hf b hb)⟩
    obtain ⟨fp1, P1, S1, D1, m1, fr1, a1, b1, pv1⟩ := Kd.draw (A := X.A.in1) (t := t1) I (show X.A.in1.handled = none from I.ok.hd hc) k1 hk1 (ap i1 (by simp))
    obtain ⟨fp2, P2, S2, D2, m2, fr2, a2, b2, pv2⟩ := Kd.draw (A := X.A.in1) (t := t2) I (show X.A.in1.handled = none from I.ok.hd hc) k2 hk2 (ap i2 (by simp))
    have nd' := nd
    simp only [List.nodup_cons, List.mem_cons, List.not_mem_nil, or_false, not_or] at nd'
    obtain ⟨⟨n1, n2, n3, n4⟩, ⟨n5, n6, n7⟩, ⟨n8, n9⟩, n10, _⟩ := nd'
    have S : ZipSep2 z TI TO i1 i2 fp1 fp2 := { TIz := Ne.symm n1, TOz := Ne.symm n2, TITO := n5, TIi1 := n6, mem1 := m1, zf1 := fun q => (fr1 z q).elim n3 fun q => q (ap z (by simp)), Tf1 := fun q => (fr1 TO q).elim n8 fun q => q (ap TO (by simp)), TIi2 := n7, mem2 := m2, zf2 := fun q => (fr2 z q).elim n4 fun q => q (ap z (by simp)), Tf2 := fun q => (fr2 TO q).elim n9 fun q => q (ap TO (by simp)), sep1_2 := fun q => (fr2 i1 q).elim n10 fun q => q (ap i1 (by simp)), sep2_1 := fun q => (fr1 i2 q).elim (Ne.symm n10) fun q => q (ap i2 (by simp)) }
    have hzl : z < s.heap.objs.size := Heap.lt_size hz
    refine wpAny_pyNext_zipD2_item S D1 D2 hz hTI hTO (a1 i h1) (a2 i h2) l1 l2 fun u u2 h' tk hu hu2 z' TO' h1' h2' hT hsz hkp => ?_
    obtain ⟨x, hx, ru⟩ := pv1 i u hu
    obtain ⟨y, hy, ru2⟩ := pv2 i u2 hu2
    refine ⟨_, rfl, wpAny_letOwnedTupleGo_zip (s := { s with heap := h', toks := tk }) z' fun h'' z'' sb => ?_⟩
    have hT2 : h''.get? s.heap.objs.size = some { cls := .type "tuple", data := .seq #[u, u2] } := (sb.2 _ (Nat.ne_of_gt hzl)).trans hT
    have new : ObjOk X.prog X.w (upd H s.heap.objs.size (.tup [x, y])) h'' s.heap.objs.size (.tup [x, y]) :=
      ⟨by show 2 ≤ sizeLine; decide, [u, u2], .cons ru (.cons ru2 .nil), ⟨_, hT2, rfl, _, rfl⟩⟩
    have I1 : Inv X pins σ (upd H s.heap.objs.size (.tup [x, y])) { s with heap := h'', toks := tk } :=
      I.turnedNew (t' := tk) (ch := [z, TI, TO, i1, i2]) (fun c o hb q => (sb.2 c (fun q' => hb (by simp [q']))).trans (hkp c o (fun q' => hb (by simp [q'])) (fun q' => hb (by simp [q'])) (fun q' => hb (by simp [q'])) (fun q' => hb (by simp [q'])) q)) hf (Nat.le_refl _) new
    refine ⟨.ref s.heap.objs.size, _, I1, rfl, ⟨_, x, y, rfl, I.hok.fresh (Nat.le_refl _), rfl, hx, hy⟩, ⟨z'', ?_, ⟨u, u2, ?_⟩, ?_, ?_⟩, fun c hcm => ?_⟩
    · exact (sb.2 _ (Ne.symm n1)).trans (hkp _ _ (Ne.symm n1) n5 n6 n7 hTI)
    · exact (sb.2 _ (Ne.symm n2)).trans TO'
    · exact Kd.own_keep (fun o q => (sb.2 _ (Ne.symm n3)).trans q) (b1 _ _ h1')
    · exact Kd.own_keep (fun o q => (sb.2 _ (Ne.symm n4)).trans q) (b2 _ _ h2')
    · have hlt : c < s.heap.objs.size := by
        have e' : c = z ∨ c = TI ∨ c = TO ∨ c = i1 ∨ c = i2 := by simpa using hcm
        rcases e' with q | q | q | q | q
        · rw [q]; exact hzl
        · rw [q]; exact Heap.lt_size hTI
        · rw [q]; exact Heap.lt_size hTO
        · rw [q]; obtain ⟨_, e1, _⟩ := Kd.own_obj h1; exact Heap.lt_size e1
        · rw [q]; obtain ⟨_, e2, _⟩ := Kd.own_obj h2; exact Heap.lt_size e2
      rw [upd_ne (Nat.ne_of_lt hlt)]
      exact (hf c hcm).1
  done := by
    intro X hP hw hK hc i pins s σ H E I hf st hg
    subst hP hw hK
    obtain ⟨hz, hTI, ⟨x0, y0, hTO⟩, h1, h2⟩ := st
    obtain ⟨⟨l1, l2, le⟩, hk1, hk2⟩ := hg
    have ap : ∀ b ∈ [z, TI, TO, i1, i2], Aprt X H b := fun b hb => ⟨(hf b hb).1, fpOk_apart I (hf b hb)⟩
    obtain ⟨fp1, P1, S1, D1, m1, fr1, a1, b1, pv1⟩ := Kd.draw (A := X.A.in1) (t := t1) I (show X.A.in1.handled = none from I.ok.hd hc) k1 hk1 (ap i1 (by simp))
    obtain ⟨fp2, P2, S2, D2, m2, fr2, a2, b2, pv2⟩ := Kd.draw (A := X.A.in1) (t := t2) I (show X.A.in1.handled = none from I.ok.hd hc) k2 hk2 (ap i2 (by simp))
    have nd' := nd
    simp only [List.nodup_cons, List.mem_cons, List.not_mem_nil, or_false, not_or] at nd'
    obtain ⟨⟨n1, n2, n3, n4⟩, ⟨n5, n6, n7⟩, ⟨n8, n9⟩, n10, _⟩ := nd'
    have S : ZipSep2 z TI TO i1 i2 fp1 fp2 := { TIz := Ne.symm n1, TOz := Ne.symm n2, TITO := n5, TIi1 := n6, mem1 := m1, zf1 := fun q => (fr1 z q).elim n3 fun q => q (ap z (by simp)), Tf1 := fun q => (fr1 TO q).elim n8 fun q => q (ap TO (by simp)), TIi2 := n7, mem2 := m2, zf2 := fun q => (fr2 z q).elim n4 fun q => q (ap z (by simp)), Tf2 := fun q => (fr2 TO q).elim n9 fun q => q (ap TO (by simp)), sep1_2 := fun q => (fr2 i1 q).elim n10 fun q => q (ap i1 (by simp)), sep2_1 := fun q => (fr1 i2 q).elim (Ne.symm n10) fun q => q (ap i2 (by simp)) }
    exact wpAny_pyNext_zipD2_end S D1 D2 hz hTI hTO (a1 i h1) (a2 i h2) l1 l2 le fun h' tk hkp => ⟨rfl, I.turnedL (t' := tk) (ch := [z, TI, TO, i1, i2]) (fun c o hb q =>
      hkp c o (fun q' => hb (by simp [q'])) (fun q' => hb (by simp [q'])) (fun q' => hb (by simp [q'])) (fun q' => hb (by simp [q'])) q) hf⟩
  self := fun A i s Q E st h => wpAny_pyIter_zip st.1 h
def iZipG (K : PySem.W.Frag) (ta : TA) : TI := fun σ H R => ta σ H fun vs H1 => ∃ k1 k2 : Kd, vs = [k1.val, k2.val] ∧ k1.has K H1 ∧ k2.has K H1 ∧ R (ItZ K k1 k2) H1
theorem nd5 (n : Nat) : [n + 4, n + 2, n + 3, n, n + 1].Nodup := by
  simp only [List.nodup_cons, List.mem_cons, List.not_mem_nil, or_false, not_or]
  refine ⟨⟨?_, ?_, ?_, ?_⟩, ⟨?_, ?_, ?_⟩, ⟨?_, ?_⟩, ?_, ?_⟩ <;> first | omega | exact ⟨fun h => h, List.nodup_nil⟩
theorem pi_zipG {X : Cx} {e e2 : Expr} {ta : TA} {p pos tpos : Pos} {elts : List Expr} {kk : Nat} (hg : Gl X "zip") (hm : X.mg "zip" = none) (ha : PA X [e, e2] ta)
    (hs : starEach [e, e2] X.env = (false, eval e X.env) :: starEach [e2] X.env := by rfl) (hpl : (backTo pos (starEach [e2] X.env)).any (·.1) = false := by rfl) :
    PI X (.Tuple elts kk tpos) (.Call (.Name "zip" p) [e, e2] [] pos) (iZipG X.K ta) := by
  refine ⟨fun pins s σ H R I h => ?_⟩
  refine Call_ (ld_blt I hg hm PyProof.Rows.boot_zip (PyProof.Rows.callWith_type1 (thn (ha.run pos pins s σ H _ I h) fun us s1 ⟨vs, H1, I1, r1, q1⟩ => ?_) hs hpl))
  obtain ⟨k1, k2, ex, hk1, hk2, q⟩ := q1
  subst ex
  cases r1 with
  | cons r rr =>
    cases rr with
    | cons r' rr =>
      cases rr
      obtain ⟨Hb1, B1, hb1⟩ := Kd.begin I1 k1 hk1 r
      obtain ⟨Hb2, B2, hb2⟩ := Kd.begin I1 k2 hk2 r'
      refine zip_begins2 B1 B2 hb1 hb2 fun h' hz hTI hTO h1 h2 hsz hkp => wpAny_pyIter_zip hz ?_
      have I2 : Inv X pins σ H1 { s1 with heap := h' } := I1.kept (t' := s1.toks) hkp
      refine ⟨s1.heap.objs.size + 4, [s1.heap.objs.size + 4, s1.heap.objs.size + 2, s1.heap.objs.size + 3, s1.heap.objs.size, s1.heap.objs.size + 1], _, _, H1, rfl, I2, turn_zip2G k1 k2 _ _ _ _ _ _ _ (nd5 s1.heap.objs.size), ⟨hz, hTI, ⟨_, _, hTO⟩, Kd.own_new h1, Kd.own_new h2⟩, fun c hcm => ?_, q⟩
      have e' : c = s1.heap.objs.size + 4 ∨ c = s1.heap.objs.size + 2 ∨ c = s1.heap.objs.size + 3 ∨ c = s1.heap.objs.size ∨ c = s1.heap.objs.size + 1 := by simpa using hcm
      have hle : s1.heap.objs.size ≤ c := by
        rcases e' with z | z | z | z | z
        · rw [z]; exact Nat.le_add_right _ _
        · rw [z]; exact Nat.le_add_right _ _
        · rw [z]; exact Nat.le_add_right _ _
        · rw [z]; exact Nat.le_refl _
        · rw [z]; exact Nat.le_add_right _ _
      exact I1.fpOk hle (I1.hok.fresh hle)
end DL
/-! The data layer: what is walked; comprehensions; calls. -/
namespace DL
open PySem PySem.Spec L2
open PyProof.Rows hiding St
def ItK (K : PySem.W.Frag) : Kd → It
  | .lst a _ => Itl K a
  | .tup a _ => Itt K a
  | .txt x => Its x
def iAny (K : PySem.W.Frag) (te : TE) : TI := fun σ H R => te σ H fun x H1 => ∃ k : Kd, x = k.val ∧ k.has K H1 ∧ R (ItK K k) H1
theorem pi_any {X : Cx} {tg e : Expr} {te : TE} (he : PE X e te) : PI X tg e (iAny X.K te) := by
  refine ⟨fun pins s σ H R I h => ?_⟩
  refine thn (he.run pins s σ H _ I h) fun v s1 ⟨x, H1, I1, r1, k, ex, hk, q⟩ => ?_
  subst ex
  cases k with
  | lst a xs =>
    cases (show v = .ref a from r1)
    obtain ⟨its, rv, p, hz⟩ := I1.list hk
    refine wpAny_pyIter_list p.isList ?_
    refine ⟨s1.heap.objs.size, [s1.heap.objs.size], _, _, H1, rfl, I1.kept (t' := s1.toks) fun b o e => Heap.get?_push_of_some _ e, turn_list a _, ⟨_, Heap.get?_push_size _ rfl, rfl, rfl⟩, fun b hb => ?_, q⟩
    have e : b = s1.heap.objs.size := by simpa using hb
    subst e
    exact I1.fpOk (Nat.le_refl _) (I1.hok.fresh (Nat.le_refl _))
  | tup a xs =>
    cases (show v = .ref a from r1)
    obtain ⟨its, rv, p, hz⟩ := I1.tuple hk
    refine wpAny_pyIter_tuple (show s1.heap.IsTuple a its.toArray from p) ?_
    refine ⟨s1.heap.objs.size, [s1.heap.objs.size], _, _, H1, rfl, I1.kept (t' := s1.toks) fun b o e => Heap.get?_push_of_some _ e, turn_tuple a _, ⟨_, Heap.get?_push_size _ rfl, rfl, rfl⟩, fun b hb => ?_, q⟩
    have e : b = s1.heap.objs.size := by simpa using hb
    subst e
    exact I1.fpOk (Nat.le_refl _) (I1.hok.fresh (Nat.le_refl _))
  | txt x =>
    obtain ⟨t, rfl⟩ := (show ∃ t, v = .str x t from r1)
    cases ha : x.cps.all (· < 128)
    · exact wpAny_pyIter_wide ha (pi_one (tk := s1.toks) I1 _ (turn_str _ x t "str_iterator" (.inr rfl)) ⟨_, Heap.get?_push_size _ rfl, rfl, rfl⟩ q)
    · exact wpAny_pyIter_ascii ha (pi_one (tk := s1.toks) I1 _ (turn_str _ x t "str_ascii_iterator" (.inl rfl)) ⟨_, Heap.get?_push_size _ rfl, rfl, rfl⟩ q)
/-! ### data that is walked -/
def signs (z : Str) : List D := z.cps.toList.map fun c => .str ⟨#[c]⟩
def seqD : D → Option (List D)
  | .list ds => some ds
  | .tuple ds => some ds
  | .str z => some (signs z)
  | _ => none
theorem signs_get (z : Str) (i : Nat) : (signs z)[i]? = z.cps[i]?.map fun c => .str ⟨#[c]⟩ := by
  unfold signs
  rw [List.getElem?_map, Array.getElem?_toList]
theorem rep_kd {K : PySem.W.Frag} {F : Hp} {v : V} {d : D} {ds : List D} (h : Rep K F v d) (e : seqD d = some ds) :
    ∃ k : Kd, v = k.val ∧ (∀ H, Ex F H → k.has K H) ∧ k.len = ds.length ∧ ∀ i x, k.item i = some x → ∃ y, ds[i]? = some y ∧ Rep K F x y := by
  cases h with
  | lst ha rs => cases e; exact ⟨.lst _ _, rfl, fun H x => x.sqL ha, rs.length, fun i x hx => rs.get' hx⟩
  | tup ha rs => cases e; exact ⟨.tup _ _, rfl, fun H x => x.sqT ha, rs.length, fun i x hx => rs.get' hx⟩
  | str z =>
    cases e
    refine ⟨.txt z, rfl, fun H x => trivial, ?_, fun i x hx => ?_⟩
    · show z.cps.size = (signs z).length
      unfold signs
      simp
    · have hx' : z.cps[i]?.map (fun c => V.str ⟨#[c]⟩) = some x := hx
      rw [signs_get]
      cases q : z.cps[i]? with
      | none => rw [q] at hx'; cases hx'
      | some c =>
        rw [q] at hx'
        cases hx'
        exact ⟨_, rfl, .str _⟩
  | _ => cases e
def dIt (t : DT) : DTa := fun δ Q => t δ fun d δ' => match seqD d with
  | some ds => Q ds δ'
  | none => False
section
variable {X : Cx} {tg e : Expr} {t : DT}
theorem itOk_kd {K : PySem.W.Frag} {W : Wd} {k : Kd} {ds : List D} (hk : ∀ H, Ex W.F H → k.has K H) (hl : k.len = ds.length) (hi : ∀ i x, k.item i = some x → ∃ y, ds[i]? = some y ∧ Rep K W.F x y) : ItOk K W (ItK K k) ds where
  go := fun i H h e => by
    have q := hk H e
    rw [← hl] at h
    cases k with
    | lst a xs => exact ⟨xs, xs[i]'h, q, List.getElem?_eq_getElem h⟩
    | tup a xs => exact ⟨xs, xs[i]'h, q, List.getElem?_eq_getElem h⟩
    | txt x => exact h
  stop := fun H e => by
    have q := hk H e
    rw [← hl]
    cases k with
    | lst a xs => exact ⟨xs, q, Nat.le_refl _⟩
    | tup a xs => exact ⟨xs, q, Nat.le_refl _⟩
    | txt x => exact Nat.le_refl _
  yld := fun i H x H' W2 δ σ h e r y => by
    have q := hk H (e.trans r.sub)
    have key : H' = H ∧ k.item i = some x := by
      cases k with
      | lst a xs => exact ⟨y.1, y.2 xs q⟩
      | tup a xs => exact ⟨y.1, y.2 xs q⟩
      | txt z =>
        obtain ⟨y1, c, hc, y2⟩ := y
        exact ⟨y1, by show z.cps[i]?.map _ = _; rw [hc, y2]; rfl⟩
    obtain ⟨rfl, hx⟩ := key
    obtain ⟨d, hd, rd⟩ := hi i x hx
    exact ⟨W2, d, Stp.refl W2, r, hd, rd.mono e⟩
theorem i_any (he : DX X e t) : DI X tg e (dIt t) :=
  pi_imp (pi_any he) fun σ H Rr ⟨W, δ, Qd, r, ht, k⟩ => ⟨W, δ, _, r, ht, fun W1 δ1 v H1 d s1 r1 rv q => by
    cases eq : seqD d with
    | none => rw [eq] at q; exact q.elim
    | some ds =>
      rw [eq] at q
      obtain ⟨kd, ev, hk, hl, hi⟩ := rep_kd rv eq
      exact ⟨kd, ev, hk H1 r1.sub, k W1 δ1 H1 ds _ s1 r1 (itOk_kd hk hl hi) q⟩⟩
/-! ranges -/
def rngD (lo : Int) : Nat → List D
  | 0 => []
  | n + 1 => .int lo :: rngD (lo + 1) n
theorem rngD_len : ∀ (lo : Int) (n : Nat), (rngD lo n).length = n
  | _, 0 => rfl
  | lo, n + 1 => by rw [rngD, List.length_cons, rngD_len]
theorem rngD_get : ∀ (lo : Int) (n i : Nat), i < n → (rngD lo n)[i]? = some (.int (lo + i))
  | _, 0, _, h => absurd h (Nat.not_lt_zero _)
  | lo, n + 1, 0, _ => by simp [rngD]
  | lo, n + 1, i + 1, h => by
    rw [rngD, List.getElem?_cons_succ, rngD_get (lo + 1) n i (by omega)]
    congr 2
    push_cast
    omega
theorem itOk_rng {K : PySem.W.Frag} {W : Wd} {lo : Int} {n : Nat} : ItOk K W (Itr lo n) (rngD lo n) where
  go := fun i H h e => by rw [rngD_len] at h; exact h
  stop := fun H e => by rw [rngD_len]; exact Nat.le_refl _
  yld := fun i H x H' W2 δ σ h e r y => by
    rw [rngD_len] at h
    obtain ⟨rfl, rfl⟩ := y
    exact ⟨W2, _, Stp.refl W2, r, rngD_get lo n i h, .int _⟩
variable {tr : DTa}
def dR1 (tr : DTa) : DTa := fun δ Q => tr δ fun ds δ' => match ds with
  | [.int n] => (-(2 ^ 62) ≤ n ∧ n < 2 ^ 62) ∧ Q (rngD 0 n.toNat) δ'
  | _ => False
theorem i_r1 {a : Expr} {p pos : Pos} (hm : X.mg "range" = none) (ha : DA X [a] 1 tr) (hg : Gl X "range" := by rfl) (hs : starEach [a] X.env = [(false, eval a X.env)] := by rfl) : DI X tg (.Call (.Name "range" p) [a] [] pos) (dR1 tr) :=
  pi_imp (pi_range1 hg hm ha hs) fun σ H Rr ⟨W, δ, Qd, r, ht, k⟩ => ⟨W, δ, _, r, ht, fun W1 δ1 vs H1 ds s1 r1 rv hl q => by
    revert q
    split
    · rintro ⟨⟨h1, h2⟩, q⟩
      cases rv with
      | cons ra rb =>
        cases rb
        cases ra
        exact ⟨_, rfl, h1, h2, k W1 δ1 H1 _ _ s1 r1 itOk_rng q⟩
    · exact fun q => q.elim⟩
def dR2 (tr : DTa) : DTa := fun δ Q => tr δ fun ds δ' => match ds with
  | [.int a, .int b] => (-(2 ^ 62) ≤ a ∧ a < 2 ^ 62 ∧ -(2 ^ 62) ≤ b ∧ b < 2 ^ 62) ∧ Q (rngD a (b - a).toNat) δ'
  | _ => False
theorem i_r2 {a b : Expr} {p pos : Pos} (hm : X.mg "range" = none) (ha : DA X [a, b] 2 tr) (hg : Gl X "range" := by rfl) (hs : starEach [a, b] X.env = [(false, eval a X.env), (false, eval b X.env)] := by rfl) (hs2 : starEach [b] X.env = [(false, eval b X.env)] := by rfl) :
    DI X tg (.Call (.Name "range" p) [a, b] [] pos) (dR2 tr) :=
  pi_imp (pi_range2 hg hm ha hs hs2) fun σ H Rr ⟨W, δ, Qd, r, ht, k⟩ => ⟨W, δ, _, r, ht, fun W1 δ1 vs H1 ds s1 r1 rv hl q => by
    revert q
    split
    · rintro ⟨h, q⟩
      cases rv with
      | cons ra rb =>
        cases rb with
        | cons rb rc =>
          cases rc
          cases ra
          cases rb
          exact ⟨_, _, rfl, h, k W1 δ1 H1 _ _ s1 r1 itOk_rng q⟩
    · exact fun q => q.elim⟩
/-! enumerate, zip -/
def enumD (n : Int) : List D → List D
  | [] => []
  | d :: ds => .tuple [.int n, d] :: enumD (n + 1) ds
theorem enumD_len : ∀ (n : Int) (ds : List D), (enumD n ds).length = ds.length
  | _, [] => rfl
  | n, d :: ds => by rw [enumD, List.length_cons, List.length_cons, enumD_len]
theorem enumD_get : ∀ (n : Int) (ds : List D) (i : Nat) (d : D), ds[i]? = some d → (enumD n ds)[i]? = some (.tuple [.int (n + i), d])
  | _, [], _, _, h => by simp at h
  | n, d :: ds, 0, e, h => by
    have : d = e := by simpa using h
    subst this
    simp [enumD]
  | n, d :: ds, i + 1, e, h => by
    rw [enumD, List.getElem?_cons_succ, enumD_get (n + 1) ds i e (by simpa using h)]
    have : n + 1 + (i : Int) = n + ((i + 1 : Nat) : Int) := by push_cast; omega
    rw [this]
theorem itOk_enum {K : PySem.W.Frag} {W : Wd} {k : Kd} {ds : List D} (hk : ∀ H, Ex W.F H → k.has K H) (hl : k.len = ds.length) (hi : ∀ i x, k.item i = some x → ∃ y, ds[i]? = some y ∧ Rep K W.F x y) : ItOk K W (ItE K k) (enumD 0 ds) where
  go := fun i H h e => by rw [enumD_len, ← hl] at h; exact ⟨h, hk H e⟩
  stop := fun H e => by rw [enumD_len, ← hl]; exact ⟨rfl, hk H e⟩
  yld := fun i H x H' W2 δ σ h e r y => by
    obtain ⟨T, x', rfl, hT, rfl, hx⟩ := y
    obtain ⟨d, hd, rd⟩ := hi i x' hx
    refine ⟨_, _, r.newStp hT, r.new hT, enumD_get 0 ds i d hd, .tup (SqT.of upd_same) ?_⟩
    have z : (0 : Int) + (i : Int) = i := Int.zero_add _
    rw [z]
    exact .cons (.int _) (.cons (rd.mono (e.trans (r.newStp (o := .tup [.int (i : Nat), x']) hT).ex)) .nil)
def dEnum (tr : DTa) : DTa := fun δ Q => tr δ fun ds δ' => match ds with
  | [d] => (match seqD d with | some xs => Q (enumD 0 xs) δ' | none => False)
  | _ => False
theorem i_enum {p pos tpos : Pos} {elts : List Expr} {kk : Nat} (hm : X.mg "enumerate" = none) (ha : DA X [e] 1 tr) (hg : Gl X "enumerate" := by rfl) (hs : starEach [e] X.env = [(false, eval e X.env)] := by rfl) :
    DI X (.Tuple elts kk tpos) (.Call (.Name "enumerate" p) [e] [] pos) (dEnum tr) :=
  pi_imp (pi_enumG hg hm ha hs) fun σ H Rr ⟨W, δ, Qd, r, ht, k⟩ => ⟨W, δ, _, r, ht, fun W1 δ1 vs H1 ds s1 r1 rv hl q => by
    cases rv with
    | nil => exact q.elim
    | cons ra rb =>
      cases rb with
      | cons _ _ => exact q.elim
      | nil =>
        rename_i d
        have q' : match seqD d with | some xs => Qd (enumD 0 xs) δ1 | none => False := q
        cases eq : seqD d with
        | none => rw [eq] at q'; exact q'.elim
        | some xs =>
          rw [eq] at q'
          obtain ⟨kd, ev, hk, hl, hi⟩ := rep_kd ra eq
          exact ⟨kd, by rw [ev], hk H1 r1.sub, k W1 δ1 H1 _ _ s1 r1 (itOk_enum hk hl hi) q'⟩⟩
def zipD : List D → List D → List D
  | a :: as, b :: bs => .tuple [a, b] :: zipD as bs
  | _, _ => []
theorem zipD_len : ∀ (as bs : List D), (zipD as bs).length = min as.length bs.length
  | [], _ => by simp [zipD]
  | _ :: _, [] => by simp [zipD]
  | a :: as, b :: bs => by
    rw [zipD, List.length_cons, zipD_len, List.length_cons, List.length_cons]
    omega
theorem zipD_get : ∀ (as bs : List D) (i : Nat) (a b : D), as[i]? = some a → bs[i]? = some b → (zipD as bs)[i]? = some (.tuple [a, b])
  | [], _, _, _, _, h, _ => by simp at h
  | _ :: _, [], _, _, _, _, h => by simp at h
  | x :: as, y :: bs, 0, a, b, h, h' => by
    have e1 : x = a := by simpa using h
    have e2 : y = b := by simpa using h'
    rw [e1, e2]
    simp [zipD]
  | x :: as, y :: bs, i + 1, a, b, h, h' => by
    rw [zipD, List.getElem?_cons_succ]
    exact zipD_get as bs i a b (by simpa using h) (by simpa using h')
theorem itOk_zip {K : PySem.W.Frag} {W : Wd} {k k2 : Kd} {ds es : List D} (hk : ∀ H, Ex W.F H → k.has K H) (hl : k.len = ds.length) (hi : ∀ i x, k.item i = some x → ∃ y, ds[i]? = some y ∧ Rep K W.F x y)
    (hk2 : ∀ H, Ex W.F H → k2.has K H) (hl2 : k2.len = es.length) (hi2 : ∀ i x, k2.item i = some x → ∃ y, es[i]? = some y ∧ Rep K W.F x y) : ItOk K W (ItZ K k k2) (zipD ds es) where
  go := fun i H h e => by
    rw [zipD_len, ← hl, ← hl2] at h
    exact ⟨by omega, hk H e, hk2 H e⟩
  stop := fun H e => by
    rw [zipD_len, ← hl, ← hl2]
    exact ⟨by omega, hk H e, hk2 H e⟩
  yld := fun i H x H' W2 δ σ h e r y => by
    obtain ⟨T, x1, x2, rfl, hT, rfl, h1, h2⟩ := y
    obtain ⟨d1, hd1, rd1⟩ := hi i x1 h1
    obtain ⟨d2, hd2, rd2⟩ := hi2 i x2 h2
    have s := (e.trans (r.newStp (o := .tup [x1, x2]) hT).ex)
    exact ⟨_, _, r.newStp hT, r.new hT, zipD_get ds es i d1 d2 hd1 hd2, .tup (SqT.of upd_same) (.cons (rd1.mono s) (.cons (rd2.mono s) .nil))⟩
def dZip (tr : DTa) : DTa := fun δ Q => tr δ fun ds δ' => match ds with
  | [a, b] => (match seqD a, seqD b with | some xs, some ys => Q (zipD xs ys) δ' | _, _ => False)
  | _ => False
theorem i_zip {e2 : Expr} {p pos tpos : Pos} {elts : List Expr} {kk : Nat} (hm : X.mg "zip" = none) (ha : DA X [e, e2] 2 tr) (hg : Gl X "zip" := by rfl)
    (hs : starEach [e, e2] X.env = (false, eval e X.env) :: starEach [e2] X.env := by rfl) (hpl : (backTo pos (starEach [e2] X.env)).any (·.1) = false := by rfl) :
    DI X (.Tuple elts kk tpos) (.Call (.Name "zip" p) [e, e2] [] pos) (dZip tr) :=
  pi_imp (pi_zipG hg hm ha hs hpl) fun σ H Rr ⟨W, δ, Qd, r, ht, k⟩ => ⟨W, δ, _, r, ht, fun W1 δ1 vs H1 ds s1 r1 rv hl q => by
    cases rv with
    | nil => exact q.elim
    | cons ra rb =>
      cases rb with
      | nil => exact q.elim
      | cons rb rc =>
        cases rc with
        | cons _ _ => exact q.elim
        | nil =>
          rename_i a _ b
          have q' : match seqD a, seqD b with | some xs, some ys => Qd (zipD xs ys) δ1 | _, _ => False := q
          cases ea : seqD a with
          | none => rw [ea] at q'; exact q'.elim
          | some xs =>
            cases eb : seqD b with
            | none => rw [ea, eb] at q'; exact q'.elim
            | some ys =>
              rw [ea, eb] at q'
              obtain ⟨kd, ev, hk, hl, hi⟩ := rep_kd ra ea
              obtain ⟨kd2, ev2, hk2, hl2, hi2⟩ := rep_kd rb eb
              exact ⟨kd, kd2, by rw [ev, ev2], hk H1 r1.sub, hk2 H1 r1.sub, k W1 δ1 H1 _ _ s1 r1 (itOk_zip hk hl hi hk2 hl2 hi2) q'⟩⟩
end
/-! ### comprehensions -/
def wipeD (δ : En) : List Nat → En
  | [] => δ
  | v :: vs => (wipeD δ vs).set v .un
def backD (δ0 δ : En) : List Nat → En
  | [] => δ
  | v :: vs => (backD δ0 δ vs).set v (δ0.getD v .un)
def noOwn (δ : En) (vs : List Nat) : Bool := vs.all fun v => !(δ.getD v .un).own
theorem wipeD_len (δ : En) : ∀ vs, (wipeD δ vs).length = δ.length
  | [] => rfl
  | v :: vs => by rw [wipeD, List.length_set, wipeD_len]
theorem backD_len (δ0 δ : En) : ∀ vs, (backD δ0 δ vs).length = δ.length
  | [] => rfl
  | v :: vs => by rw [backD, List.length_set, backD_len]
theorem wipeD_out {δ : En} {j : Nat} : ∀ {vs : List Nat}, j ∉ vs → (wipeD δ vs)[j]? = δ[j]?
  | [], _ => rfl
  | v :: vs, h => by
    rw [List.mem_cons, not_or] at h
    rw [wipeD, List.getElem?_set_ne (Ne.symm h.1), wipeD_out h.2]
theorem wipeD_in {δ : En} {j : Nat} : ∀ {vs : List Nat}, j ∈ vs → j < δ.length → (wipeD δ vs)[j]? = some .un
  | [], h, _ => by simp at h
  | v :: vs, h, hl => by
    rw [wipeD]
    by_cases e : v = j
    · subst e; rw [List.getElem?_set_self (by rw [wipeD_len]; exact hl)]
    · rw [List.getElem?_set_ne e]
      exact wipeD_in ((List.mem_cons.mp h).resolve_left (Ne.symm e)) hl
theorem backD_out {δ0 δ : En} {j : Nat} : ∀ {vs : List Nat}, j ∉ vs → (backD δ0 δ vs)[j]? = δ[j]?
  | [], _ => rfl
  | v :: vs, h => by
    rw [List.mem_cons, not_or] at h
    rw [backD, List.getElem?_set_ne (Ne.symm h.1), backD_out h.2]
theorem backD_in {δ0 δ : En} {j : Nat} : ∀ {vs : List Nat}, j ∈ vs → j < δ.length → (backD δ0 δ vs)[j]? = some (δ0.getD j .un)
  | [], h, _ => by simp at h
  | v :: vs, h, hl => by
    rw [backD]
    by_cases e : v = j
    · subst e; rw [List.getElem?_set_self (by rw [backD_len]; exact hl)]
    · rw [List.getElem?_set_ne e]
      exact backD_in ((List.mem_cons.mp h).resolve_left (Ne.symm e)) hl
theorem wipe_out' {σ : St} {j : Nat} : ∀ {vs : List Nat}, j ∉ vs → (wipe σ vs)[j]? = σ[j]?
  | [], _ => rfl
  | v :: vs, h => by
    rw [List.mem_cons, not_or] at h
    rw [wipe, List.getElem?_set_ne (Ne.symm h.1), wipe_out' h.2]
theorem wipe_in' {σ : St} {j : Nat} : ∀ {vs : List Nat}, j ∈ vs → j < σ.length → (wipe σ vs)[j]? = some none
  | [], h, _ => by simp at h
  | v :: vs, h, hl => by
    rw [wipe]
    by_cases e : v = j
    · subst e; rw [List.getElem?_set_self (by rw [wipe_length]; exact hl)]
    · rw [List.getElem?_set_ne e]
      exact wipe_in' ((List.mem_cons.mp h).resolve_left (Ne.symm e)) hl
theorem wipe_eq {σ σ' : St} {vs : List Nat} (hl : σ'.length = σ.length) (h : ∀ j, j ∉ vs → σ'[j]? = σ[j]?) : wipe σ' vs = wipe σ vs := by
  refine List.ext_getElem? fun j => ?_
  by_cases hj : j ∈ vs
  · by_cases hlt : j < σ.length
    · rw [wipe_in' hj hlt, wipe_in' hj (by rw [hl]; exact hlt)]
    · rw [List.getElem?_eq_none (by rw [wipe_length, hl]; omega), List.getElem?_eq_none (by rw [wipe_length]; omega)]
  · rw [wipe_out' hj, wipe_out' hj, h j hj]
section
variable {K : PySem.W.Frag} {W W' : Wd} {δ δ' : En} {σ σ' : St} {H H' : Hp}
theorem R.change (r : R K W δ σ H) (l1 : δ'.length = σ'.length) (k : ∀ (j : Nat) (s : Sl), δ'[j]? = some s → (δ[j]? = some s ∧ σ'[j]? = σ[j]?) ∨ (s.own = false ∧ ∃ x, σ'[j]? = some x ∧ SlOk K W H j s x)) : R K W δ' σ' H := by
  refine ⟨l1, r.sub, r.bs, fun j s e => ?_, fun i j s s' hij e1 e2 o1 o2 => ?_⟩
  · rcases k j s e with ⟨e1, e2⟩ | ⟨_, h⟩
    · rw [e2]; exact r.sl j s e1
    · exact h
  · rcases k i s e1 with ⟨a1, a2⟩ | ⟨h, _⟩
    · rcases k j s' e2 with ⟨b1, b2⟩ | ⟨h, _⟩
      · rw [a2, b2]; exact r.ne i j s s' hij a1 b1 o1 o2
      · rw [h] at o2; cases o2
    · rw [h] at o1; cases o1
theorem R.wipe (r : R K W δ σ' H) {vs : List Nat} (hl : σ'.length = σ.length) (h : ∀ j, j ∉ vs → σ'[j]? = σ[j]?) : R K W (wipeD δ vs) (L2.wipe σ vs) H := by
  refine r.change (by rw [wipeD_len, wipe_length, r.len, hl]) fun j s e => ?_
  by_cases hj : j ∈ vs
  · have hlt : j < δ.length := by
      have := (List.getElem?_eq_some_iff.mp e).1
      rw [wipeD_len] at this; exact this
    rw [wipeD_in hj hlt] at e
    cases e
    exact .inr ⟨rfl, none, wipe_in' hj (by rw [← hl, ← r.len]; exact hlt), trivial⟩
  · rw [wipeD_out hj] at e
    exact .inl ⟨e, by rw [wipe_out' hj, h j hj]⟩
theorem R.back {W1 : Wd} {δ1 : En} {H1 : Hp} {vs : List Nat} (r : R K W (wipeD δ vs) (L2.wipe σ vs) H) (r1 : R K W1 δ1 σ H1) (no : noOwn δ1 vs = true) (e : Ex W1.F W.F) : R K W (backD δ1 δ vs) σ H := by
  have hl : δ.length = σ.length := by
    have := r.len
    rw [wipeD_len, wipe_length] at this; exact this
  refine r.change (by rw [backD_len]; exact hl) fun j s hs => ?_
  by_cases hj : j ∈ vs
  · have hlt : j < δ.length := by
      have := (List.getElem?_eq_some_iff.mp hs).1
      rw [backD_len] at this; exact this
    rw [backD_in hj hlt] at hs
    cases hs
    have hlt1 : j < δ1.length := by rw [r1.len, ← hl]; exact hlt
    have hno : (δ1.getD j .un).own = false := by
      have := List.all_eq_true.mp no j hj
      simpa using this
    have ej : δ1[j]? = some (δ1.getD j .un) := by
      rw [List.getD_eq_getElem?_getD, List.getElem?_eq_getElem hlt1]; rfl
    obtain ⟨x, ex, ok⟩ := r1.sl j _ ej
    refine .inr ⟨hno, x, ex, ?_⟩
    revert ok hno
    cases δ1.getD j .un with
    | un => exact fun _ _ => trivial
    | v d => exact fun _ ⟨y, e1, ry⟩ => ⟨y, e1, ry.mono e⟩
    | ol ds => exact fun z => nomatch z
    | dk n => exact fun z => nomatch z
    | ld n => exact fun z => nomatch z
  · rw [backD_out hj] at hs
    exact .inl ⟨by rw [wipeD_out hj]; exact hs, (wipe_out' hj).symm⟩
def Wd.held (W : Wd) (p : Addr) (o : HO) : Wd := { W with B := upd W.B p o }
/-- a new thing is held apart -/
theorem R.hold (r : R K W δ σ H) {p : Addr} {o : HO} (hp : H p = none) : R K (W.held p o) δ σ (upd H p o) := by
  obtain ⟨f1, f2, f3⟩ := r.free hp
  have r' := r.laid (o := o) hp
  refine ⟨r'.len, r'.sub, fun a u e => ?_, fun i s e => ?_, r'.ne⟩
  · by_cases ha : a = p
    · subst ha
      have e' : (upd W.B a o) a = some u := e
      rw [upd_same] at e'
      cases e'
      exact ⟨upd_same, f1⟩
    · have e' : (upd W.B p o) a = some u := e
      rw [upd_ne ha] at e'
      exact r'.bs a u e'
  · obtain ⟨x, ex, k⟩ := r'.sl i s e
    refine ⟨x, ex, ?_⟩
    have own : ∀ a o', x = some (.ref a) → s.own = true → Own W (upd H p o) a o' → Own (W.held p o) (upd H p o) a o' := fun a o' e1 hs w => by
      have ne : a ≠ p := fun z => f3 ⟨i, s, e, hs, by rw [ex, e1, z]⟩
      exact ⟨w.at_, w.f, by show (upd W.B p o) a = none; rw [upd_ne ne]; exact w.b⟩
    cases s with
    | un => trivial
    | v d => exact k
    | ol ds => obtain ⟨a, vs, e1, w, q⟩ := k; exact ⟨a, vs, e1, own a _ e1 rfl w, q⟩
    | dk n => obtain ⟨a, vs, e1, w, q⟩ := k; exact ⟨a, vs, e1, own a _ e1 rfl w, q⟩
    | ld n => obtain ⟨a, vs, e1, w, q, l⟩ := k; exact ⟨a, vs, e1, own a _ e1 rfl w, q, l⟩
/-- a thing held apart changes -/
theorem R.heldSet (r : R K W δ σ H) {B0 : Hp} {p : Addr} {o u : HO} (hB : W.B = upd B0 p o) : R K { W with B := upd B0 p u } δ σ (upd H p u) := by
  have hb : W.B p = some o := by rw [hB]; exact upd_same
  obtain ⟨hp, hf⟩ := r.bs p o hb
  have nm : ∀ a, Mine δ σ a → a ≠ p := fun a m z => by
    obtain ⟨o', w⟩ := r.mine m
    have := w.b
    rw [z, hb] at this; cases this
  refine ⟨r.len, fun a v e => ?_, fun a v e => ?_, fun i s e => ?_, r.ne⟩
  · have ne : a ≠ p := fun z => by rw [z] at e; rw [hf] at e; cases e
    rw [upd_ne ne]; exact r.sub a v e
  · have e' : (upd B0 p u) a = some v := e
    by_cases ha : a = p
    · subst ha
      rw [upd_same] at e'
      cases e'
      exact ⟨upd_same, hf⟩
    · rw [upd_ne ha] at e'
      rw [upd_ne ha]
      exact r.bs a v (by rw [hB, upd_ne ha]; exact e')
  · obtain ⟨x, ex, k⟩ := r.sl i s e
    refine ⟨x, ex, ?_⟩
    have own : ∀ a o', x = some (.ref a) → s.own = true → Own W H a o' → Own { W with B := upd B0 p u } (upd H p u) a o' := fun a o' e1 hs w => by
      have ne : a ≠ p := nm a ⟨i, s, e, hs, by rw [ex, e1]⟩
      refine ⟨by rw [upd_ne ne]; exact w.at_, w.f, ?_⟩
      show (upd B0 p u) a = none
      have := w.b
      rw [hB, upd_ne ne] at this
      rw [upd_ne ne]; exact this
    cases s with
    | un => trivial
    | v d => exact k
    | ol ds => obtain ⟨a, vs, e1, w, q⟩ := k; exact ⟨a, vs, e1, own a _ e1 rfl w, q⟩
    | dk n => obtain ⟨a, vs, e1, w, q⟩ := k; exact ⟨a, vs, e1, own a _ e1 rfl w, q⟩
    | ld n => obtain ⟨a, vs, e1, w, q, l⟩ := k; exact ⟨a, vs, e1, own a _ e1 rfl w, q, l⟩
/-- a thing held apart is let go -/
theorem R.letGo (r : R K W δ σ H) {B0 : Hp} {p : Addr} {o : HO} (hB : W.B = upd B0 p o) (h0 : B0 p = none) : R K { W with B := B0 } δ σ H := by
  have sub : ∀ a v, B0 a = some v → W.B a = some v := fun a v e => by
    have ne : a ≠ p := fun z => by rw [z, h0] at e; cases e
    rw [hB, upd_ne ne]; exact e
  have nil : ∀ a, W.B a = none → B0 a = none := fun a e => by
    cases q : B0 a with
    | none => rfl
    | some v => rw [sub a v q] at e; cases e
  refine ⟨r.len, r.sub, fun a v e => r.bs a v (sub a v e), fun i s e => ?_, r.ne⟩
  obtain ⟨x, ex, k⟩ := r.sl i s e
  refine ⟨x, ex, ?_⟩
  have own : ∀ a o', Own W H a o' → Own { W with B := B0 } H a o' := fun a o' w => ⟨w.at_, w.f, nil a w.b⟩
  cases s with
  | un => trivial
  | v d => exact k
  | ol ds => obtain ⟨a, vs, e1, w, q⟩ := k; exact ⟨a, vs, e1, own a _ w, q⟩
  | dk n => obtain ⟨a, vs, e1, w, q⟩ := k; exact ⟨a, vs, e1, own a _ w, q⟩
  | ld n => obtain ⟨a, vs, e1, w, q, l⟩ := k; exact ⟨a, vs, e1, own a _ w, q, l⟩
end
def cLoop (g : DTg) (tt : DTb) (te : DT) (vs : List Nat) : List D → List D → En → (List D → En → Prop) → Prop
  | [], acc, δ, Q => Q acc δ
  | d :: ds, acc, δ, Q => g d (wipeD δ vs) fun δ1 => tt δ1 fun b δ2 => match b with
    | true => te δ2 fun y δ3 => acc.length < 16777216 ∧ cLoop g tt te vs ds (acc ++ [y]) δ3 Q
    | false => cLoop g tt te vs ds acc δ2 Q
/-- the block's own words are back behind it -/
def cLoopB (g : DTg) (tt : DTb) (te : DT) (vs : List Nat) (ds : List D) (δ : En) (Q : List D → En → Prop) : Prop := cLoop g tt te vs ds [] δ fun acc δ2 => Q acc (backD δ δ2 vs)
def dLc (it : DTa) (g : DTg) (tt : DTb) (te : DT) (vs : List Nat) : DTa := fun δ Q => it δ fun ds δ1 => noOwn δ1 vs = true ∧ cLoopB g tt te vs ds δ1 Q
abbrev DTs (X : Cx) (ifs : List Expr) (t : DTb) : Prop := PTs X ifs (tDb X.K t)
def bYes : DTb := fun δ Q => Q true δ
section
variable {X : Cx}
theorem ts_nil : DTs X [] bYes := ⟨fun pins s σ H Q I ⟨W, δ, Qd, r, h, k⟩ => pts_nil.run pins s σ H Q I (k W δ true H (Stp.refl W) r h)⟩
theorem ts_one {c : Expr} {t : DTb} (h : DB X c t) : DTs X [c] t := pts_one h
theorem lc_ok {K : PySem.W.Frag} {it : DTa} {g : DTg} {tt : DTb} {te : DT} {vs sl : List Nat} {σ : St} {H : Hp} {Q : VK} (hsl : ∀ j ∈ sl, j ∈ vs) (h : tO K (dLc it g tt te vs) σ H Q) :
    tLc (tI K it) (tG K sl g) (tDb K tt) (tD K te) vs σ H Q := by
  obtain ⟨W, δ, Qd, r, h, k⟩ := h
  refine ⟨W, δ, _, r, h, fun W1 δ1 H1 ds J s1 r1 ok ⟨no, q1⟩ Dl hD => ?_⟩
  obtain ⟨d1, d2, d3⟩ := r1.free hD
  refine ⟨fun i m Hc => ∃ W2 δ2 acc accV, Ex W1.F W2.F ∧ W2.L = W1.L ∧ W2.B = upd W1.B Dl (.lst accV) ∧ R K W2 (wipeD δ2 vs) (wipe σ vs) Hc ∧ RepL K W2.F accV acc ∧ i ≤ ds.length ∧ m = ds.length - i ∧ cLoop g tt te vs (ds.drop i) acc δ2 (fun acc δ2 => Qd acc (backD δ1 δ2 vs)),
    ⟨ds.length, W1.held Dl (.lst []), δ1, [], [], Ex.refl _, rfl, rfl, (r1.hold hD).wipe rfl (fun _ _ => rfl), .nil, Nat.zero_le _, rfl, q1⟩, ?_⟩
  rintro i m Hc ⟨W2, δ2, acc, accV, e2, l2, b2, r2, ra, hi, rfl, q⟩
  by_cases hlt : i < ds.length
  · rw [List.drop_eq_getElem_cons hlt] at q
    refine .inr ⟨ok.go i Hc hlt (e2.trans r2.sub), fun Hc' => ∃ W2 δ2 acc accV, Ex W1.F W2.F ∧ W2.L = W1.L ∧ W2.B = upd W1.B Dl (.lst accV) ∧ R K W2 (wipeD δ2 vs) (wipe σ vs) Hc' ∧ RepL K W2.F accV acc ∧ cLoop g tt te vs (ds.drop (i + 1)) acc δ2 (fun acc δ2 => Qd acc (backD δ1 δ2 vs)),
      fun Hc' ⟨W3, δ3, a3, v3, e3, l3, b3, r3, ra3, q3⟩ => ⟨ds.length - (i + 1), by omega, W3, δ3, a3, v3, e3, l3, b3, r3, ra3, hlt, rfl, q3⟩, fun x H' y => ?_⟩
    obtain ⟨W3, d, s3, r3, ed, rx⟩ := ok.yld i Hc x H' W2 _ _ hlt e2 r2 y
    rw [List.getElem?_eq_getElem hlt] at ed
    cases ed
    refine ⟨W3, _, _, _, r3, rx, q, fun δ4 σ4 a4 r4 q4 => ?_⟩
    obtain ⟨l4, a4⟩ := a4
    have a5 : ∀ j, j ∉ vs → σ4[j]? = σ[j]? := fun j hj => (a4 j fun z => hj (hsl j z)).trans (wipe_out' hj)
    have l5 : σ4.length = σ.length := by rw [l4, wipe_length]
    refine ⟨wipe_eq l5 a5, W3, δ4, _, r4, q4, fun W5 δ5 b H5 s5 r5 q5 => ?_⟩
    have e5 : Ex W1.F W5.F := (e2.trans s3.ex).trans s5.ex
    have b5 : W5.B = upd W1.B Dl (.lst accV) := by rw [s5.b, s3.b, b2]
    cases b with
    | true =>
      refine ⟨W5, δ5, _, r5, q5, fun W6 δ6 y H6 dy s6 r6 ry ⟨hz, q6⟩ => ?_⟩
      have b6 : W6.B = upd W1.B Dl (.lst accV) := by rw [s6.b, b5]
      have hDl := (r6.bs Dl (.lst accV) (by rw [b6]; exact upd_same)).1
      have ra6 : RepL K W6.F accV acc := ra.mono ((s3.ex.trans s5.ex).trans s6.ex)
      refine ⟨accV, hDl, by rw [ra.length, sizeLine_eq]; exact hz, { W6 with B := upd W1.B Dl (.lst (accV ++ [y])) }, δ6, acc ++ [dy], accV ++ [y], e5.trans s6.ex, by show W6.L = W1.L; rw [s6.l, s5.l, s3.l, l2], rfl, ?_, ra6.append (.cons ry .nil), q6⟩
      exact (r6.heldSet b6).wipe l5 a5
    | false =>
      exact ⟨W5, δ5, acc, accV, e5, by rw [s5.l, s3.l, l2], b5, r5.wipe l5 a5, ra.mono (s3.ex.trans s5.ex), q5⟩
  · have e : i = ds.length := by omega
    subst e
    rw [List.drop_length] at q
    have hDl := r2.bs Dl (.lst accV) (by rw [b2]; exact upd_same)
    have rb := (r2.back r1 no e2).letGo b2 d2
    refine .inl ⟨ok.stop Hc (e2.trans r2.sub), k { W2 with B := W1.B } _ Dl Hc accV acc (s1.trans ⟨e2, rfl, l2⟩) rb ⟨hDl.1, hDl.2, d2⟩ ?_ ra q⟩
    -- the new list is no slot's
    rintro ⟨j, s, ej, os, q'⟩
    by_cases hj : j ∈ vs
    · have hlt : j < δ2.length := by
        have := (List.getElem?_eq_some_iff.mp ej).1
        rw [backD_len] at this; exact this
      rw [backD_in hj hlt] at ej
      cases ej
      have := List.all_eq_true.mp no j hj
      rw [os] at this
      cases this
    · rw [backD_out hj] at ej
      have m : Mine (wipeD δ2 vs) (wipe σ vs) Dl := ⟨j, s, by rw [wipeD_out hj]; exact ej, os, by rw [wipe_out' hj]; exact q'⟩
      obtain ⟨o, w⟩ := r2.mine m
      have := w.b
      rw [b2, upd_same] at this
      cases this
variable {elt tg iter : Expr} {ifs : List Expr} {scope : Scope} {own : List (Str × Nat)} {pos : Pos} {it : DTa} {g : DTg} {tt : DTb} {te : DT} {sl : List Nat}
theorem o_lc (own : List (Str × Nat)) (hc : X.calm = true) (hN : X.N.Nodup) (hi : DI X tg iter it) (ok : BlkOk X.N X.env.scope scope own)
    (hg : ∀ (s : Shared) (H : Hp) (C : Addr) (cl : List (Str × Addr)) (fp : List Addr), DG (X.blk s H scope (compEnvC scope cl C X.env) fp) sl tg g) (ht : ∀ (s : Shared) (H : Hp) (C : Addr) (cl : List (Str × Addr)) (fp : List Addr), DTs (X.blk s H scope (compEnvC scope cl C X.env) fp) ifs tt)
    (he : ∀ (s : Shared) (H : Hp) (C : Addr) (cl : List (Str × Addr)) (fp : List Addr), DX (X.blk s H scope (compEnvC scope cl C X.env) fp) elt te) (hsl : ∀ j ∈ sl, j ∈ own.map (·.2)) (hs : ∀ x, foldedSetIterable iter X.env x = pure x := by intro _; rfl) :
    DO X (.ListComp elt [⟨tg, iter, ifs, 0⟩] scope pos) (dLc it g tt te (own.map (·.2))) := pe_imp (pe_lc hc hN hi ok hg ht he hs) fun σ H Q h => lc_ok hsl h
/-- name = [..], the name a local: a new own list -/
theorem s_setLcO (own : List (Str × Nat)) {i : Nat} {y : Str} {py spos : Pos} (hc : X.calm = true) (hN : X.N.Nodup) (hy : X.N[i]? = some y) (hyl : X.env.scope.names.lookup y = some .local)
    (hsw : swapsWith (.ListComp elt [⟨tg, iter, ifs, 0⟩] scope pos) (some (.Name y py)) spos.line X.env = pure true) (hi : DI X tg iter it) (ok : BlkOk X.N X.env.scope scope own)
    (hg : ∀ (s : Shared) (H : Hp) (C : Addr) (cl : List (Str × Addr)) (fp : List Addr), DG (X.blk s H scope (compEnvC scope cl C X.env) fp) sl tg g) (ht : ∀ (s : Shared) (H : Hp) (C : Addr) (cl : List (Str × Addr)) (fp : List Addr), DTs (X.blk s H scope (compEnvC scope cl C X.env) fp) ifs tt)
    (he : ∀ (s : Shared) (H : Hp) (C : Addr) (cl : List (Str × Addr)) (fp : List Addr), DX (X.blk s H scope (compEnvC scope cl C X.env) fp) elt te) (hsl : ∀ j ∈ sl, j ∈ own.map (·.2)) (hs : ∀ x, foldedSetIterable iter X.env x = pure x := by intro _; rfl) :
    DS X (.Assign [.Name y py] (.ListComp elt [⟨tg, iter, ifs, 0⟩] scope pos) spos) (sSetO i (dLc it g tt te (own.map (·.2)))) :=
  ps_imp (ps_setLc hc hN hy hyl hsw hi ok hg ht he hs) fun D σ H h => by
    obtain ⟨W, δ, E, r, ht, k⟩ := h
    refine lc_ok hsl ⟨W, δ, _, r, ht, fun W' δ' p H' vs ds s r' w m rl q => ?_⟩
    have hq : E.nx (δ'.set i (.ol ds)) ∧ i < δ'.length := by
      revert q
      cases e : δ'[i]? with
      | none => exact fun q => q.elim
      | some s =>
        have hi := (List.getElem?_eq_some_iff.mp e).1
        exact fun q => ⟨q.2, hi⟩
    exact k.nx W' _ _ H' s (r'.setO (s := .ol ds) m ⟨p, vs, rfl, w, rl⟩ hq.2) hq.1
/-- name = [..], the list as data -/
theorem s_setLc (own : List (Str × Nat)) {i : Nat} {y : Str} {py spos : Pos} (hc : X.calm = true) (hN : X.N.Nodup) (hy : X.N[i]? = some y) (hyl : X.env.scope.names.lookup y = some .local)
    (hsw : swapsWith (.ListComp elt [⟨tg, iter, ifs, 0⟩] scope pos) (some (.Name y py)) spos.line X.env = pure true) (hi : DI X tg iter it) (ok : BlkOk X.N X.env.scope scope own)
    (hg : ∀ (s : Shared) (H : Hp) (C : Addr) (cl : List (Str × Addr)) (fp : List Addr), DG (X.blk s H scope (compEnvC scope cl C X.env) fp) sl tg g) (ht : ∀ (s : Shared) (H : Hp) (C : Addr) (cl : List (Str × Addr)) (fp : List Addr), DTs (X.blk s H scope (compEnvC scope cl C X.env) fp) ifs tt)
    (he : ∀ (s : Shared) (H : Hp) (C : Addr) (cl : List (Str × Addr)) (fp : List Addr), DX (X.blk s H scope (compEnvC scope cl C X.env) fp) elt te) (hsl : ∀ j ∈ sl, j ∈ own.map (·.2)) (hs : ∀ x, foldedSetIterable iter X.env x = pure x := by intro _; rfl) :
    DS X (.Assign [.Name y py] (.ListComp elt [⟨tg, iter, ifs, 0⟩] scope pos) spos) (sAsg (dFz (dLc it g tt te (own.map (·.2)))) (gN i)) :=
  ps_imp (ps_setLc hc hN hy hyl hsw hi ok hg ht he hs) fun D σ H h => by
    obtain ⟨W, δ, E, r, ht, k⟩ := h
    refine lc_ok hsl ⟨W, δ, _, r, ht, fun W' δ' p H' vs ds s r' w m rl q => ?_⟩
    exact gN_tG ⟨W'.fz p (.lst vs), δ', _, _, r'.froz w.at_ w.f w.b m, .lst (SqL.of upd_same) (rl.mono (Stp.fz (o := .lst vs) w.f).ex), q, fun δ2 σ2 _ r2 q2 => k.nx _ δ2 σ2 H' (s.trans (Stp.fz w.f)) r2 q2⟩
end
end DL
/-! The data layer: defs and their calls; decks. -/
namespace DL
open PySem PySem.Spec L2
open PyProof.Rows hiding St
abbrev DSp := List D → (D → Prop) → Prop
/-- what stood and was not data stays -/
def Frm (F H F' H' : Hp) : Prop := ∀ a o, H a = some o → F a = none → H' a = some o ∧ F' a = none
def lift (K : PySem.W.Frag) (sp : DSp) : Sp := fun vs H Q _ => ∃ (F : Hp) (ds : List D) (Qd : D → Prop), Ex F H ∧ RepL K F vs ds ∧ sp ds Qd ∧
  ∀ (F' : Hp) (v : V) (H' : Hp) (d : D), Ex F F' → Ex F' H' → Frm F H F' H' → Rep K F' v d → Qd d → Q v H'
def w0 (F H : Hp) (L : Nat → Option Addr) : Wd := { F := F, B := fun a => if (F a).isNone then H a else none, L := L }
theorem w0_b {F H : Hp} {L : Nat → Option Addr} {a : Addr} {o : HO} : (w0 F H L).B a = some o ↔ F a = none ∧ H a = some o := by
  unfold w0
  cases q : F a with
  | none => simp [q]
  | some u => simp [q]
theorem R.frm {K : PySem.W.Frag} {F H H' : Hp} {L : Nat → Option Addr} {W : Wd} {δ : En} {σ : St} (s : Stp (w0 F H L) W) (r : R K W δ σ H') : Frm F H W.F H' := fun a o e1 e2 =>
  r.bs a o (by rw [s.b]; exact w0_b.mpr ⟨e2, e1⟩)
def start0 (n : Nat) (ds : List D) : En := ds.map .v ++ List.replicate (n - ds.length) .un
theorem start_R {K : PySem.W.Frag} {F H : Hp} {L : Nat → Option Addr} {vs : List V} {ds : List D} {N : List Str} (e : Ex F H) (rs : RepL K F vs ds) : R K (w0 F H L) (start0 N.length ds) (start N vs) H := by
  have hl := rs.length
  refine ⟨?_, e, fun a o h => ?_, fun i s hs => ?_, fun i j s s' _ e1 _ o1 _ => ?_⟩
  · unfold start0 L2.start
    rw [List.length_append, List.length_append, List.length_map, List.length_map, List.length_replicate, List.length_replicate, hl]
  · obtain ⟨h1, h2⟩ := w0_b.mp h
    exact ⟨h2, h1⟩
  · unfold start0 at hs
    by_cases hi : i < ds.length
    · rw [List.getElem?_append_left (by rw [List.length_map]; exact hi), List.getElem?_map, List.getElem?_eq_getElem hi] at hs
      cases hs
      obtain ⟨v, hv, rv⟩ := rs.get (List.getElem?_eq_getElem hi)
      refine ⟨some v, ?_, v, rfl, rv⟩
      unfold L2.start
      rw [List.getElem?_append_left (by rw [List.length_map, hl]; exact hi), List.getElem?_map, hv]
      rfl
    · rw [List.getElem?_append_right (by rw [List.length_map]; omega), List.getElem?_replicate] at hs
      split at hs
      · cases hs
        rename_i h
        rw [List.length_map] at h
        refine ⟨none, ?_, trivial⟩
        unfold L2.start
        rw [List.getElem?_append_right (by rw [List.length_map, hl]; omega), List.getElem?_replicate, if_pos]
        rw [List.length_map, hl]; exact h
      · cases hs
  · unfold start0 at e1
    have := List.mem_of_getElem? e1
    rcases List.mem_append.mp this with h | h
    · obtain ⟨d, _, rfl⟩ := List.mem_map.mp h
      cases o1
    · rw [List.eq_of_mem_replicate h] at o1
      cases o1
section
variable {P : Program} {w : World} {K : PySem.W.Frag} {mg : Str → Option Value} {base : Heap}
/-- THE RULE for a def over data -/
theorem fn_ok {x qual : Str} {st : Stmt} {f : Addr} {fd : FuncData} {N ps : List Str} {k : Nat} {sp : DSp} {td : DSt} (F : Fun K x qual st f fd) (S : FnScope N ps (defScope st)) (hlen : ∀ ds Qd, sp ds Qd → ds.length = ps.length)
    (hb : ∀ (cdv : Value) (A : Around) (outer : List Env) (s : Shared) (H : Hp) (E : XK), Room k (A.deeper (envOfC qual (defScope st) s.heap.objs.size f cdv)) → DSs (cxOf CX0 P w K mg base N qual (defScope st) f cdv A outer s H E).nox (defBody st) td)
    (hr : ∀ ds Qd, sp ds Qd → td { nx := fun _ => Qd .none, rt := fun d _ => Qd d } (start0 N.length ds)) : FnOk P w K mg base CX0 (k + 1) f fd ps (lift K sp) := by
  refine F.ok S (fun vs H Q E h => ?_) (fun cdv A outer s H vs Q E hroom h => ⟨_, hb cdv A outer s H E hroom, ?_⟩)
  · obtain ⟨F0, ds, Qd, e, rs, h, _⟩ := h
    rw [rs.length]; exact hlen ds Qd h
  · obtain ⟨F0, ds, Qd, e, rs, h, q⟩ := h
    refine ⟨w0 F0 H fun _ => none, _, _, start_R e rs, hr ds Qd h, ⟨fun W' δ' σ' H' s r hq => ?_, fun _ _ _ _ _ _ z => z.elim, fun _ _ _ _ _ _ z => z.elim, fun W' δ' σ' v H' d s r rv hq => ?_⟩⟩
    · exact q W'.F .non H' .none s.ex r.sub (R.frm s r) .non hq
    · exact q W'.F v H' d s.ex r.sub (R.frm s r) rv hq
variable {X : Cx} {e : Expr} {es : List Expr} {n k : Nat} {f : Addr} {fd : FuncData} {ps : List Str} {tr : DTa} {x : Str} {p pos : Pos}
theorem R.after {W : Wd} {δ : En} {σ : St} {H F' H' : Hp} (r : R K W δ σ H) (e1 : Ex W.F F') (e2 : Ex F' H') (fr : Frm W.F H F' H') : R K { W with F := F' } δ σ H' := by
  refine r.ext ⟨e1, rfl, rfl⟩ e2 (fun a o h => ?_) (fun a m => ?_)
  · obtain ⟨h1, h2⟩ := r.bs a o h
    exact fr a o h1 h2
  · obtain ⟨o, w⟩ := r.mine m
    obtain ⟨h1, h2⟩ := fr a o w.at_ w.f
    exact ⟨by rw [h1, w.at_], h2⟩
theorem d_call {sp : DSp} (F : FnOk X.prog X.w X.K X.mg X.base CX0 k f fd ps (lift X.K sp)) (hr : Room k X.A) (hm : X.mg x = some (.ref f)) (hk : PySem.W.keepIn X.K (.ref f) = true) (hb : Binds X.K fd ps []) (ha : DA X (e :: es) n tr) (hg : Gl X x := by rfl)
    (hdb : (x == ("__debug__" : Str)) = false := by decide) (he : starEach (e :: es) X.env = (false, eval e X.env) :: starEach es X.env := by rfl) (hpl : (backTo pos (starEach es X.env)).any (·.1) = false := by rfl) :
    DX X (.Call (.Name x p) (e :: es) [] pos) (dCall sp tr) :=
  pe_imp (pe_call F hr hg hm hk hb .nil pass0 ha hdb he hpl) fun σ H Q ⟨W, δ, Qd, r, ht, q⟩ => ⟨W, δ, _, r, ht, fun W1 δ1 vs H1 ds s1 r1 rv hl h1 => by
    refine ⟨W1.F, ds, _, r1.sub, by rw [List.append_nil]; exact rv, h1, fun F' v H' d e1 e2 fr rv' hq => ?_⟩
    exact q { W1 with F := F' } δ1 v H' d (s1.trans ⟨e1, rfl, rfl⟩) (r1.after e1 e2 fr) rv' hq⟩
/-! ### decks: lent to a callee as its first argument -/
abbrev DSpk := Nat → List D → (D → Nat → Prop) → Prop
def liftK (K : PySem.W.Frag) (sp : DSpk) : Sp := fun vs H Q _ => ∃ (a : Addr) (F : Hp) (n : Nat) (ds : List D) (vs' xs : List V) (Qd : D → Nat → Prop), vs = .ref a :: vs' ∧ Ex F H ∧ H a = some (.lst xs) ∧ F a = none ∧ DkOk n xs ∧ RepL K F vs' ds ∧ sp n ds Qd ∧
  ∀ (F' : Hp) (v : V) (H' : Hp) (d : D) (n' : Nat) (xs' : List V), Ex F F' → Ex F' H' → (∀ b o, b ≠ a → H b = some o → F b = none → H' b = some o ∧ F' b = none) → H' a = some (.lst xs') → F' a = none → DkOk n' xs' → Rep K F' v d → Qd d n' → Q v H'
def dCallK (i : Nat) (sp : DSpk) (tr : DTa) : DT := fun δ Q => match δ[i]? with
  | some (.dk _) => tr δ fun ds δ1 => (match δ1[i]? with
    | some (.dk n) => sp n ds fun d n' => Q d (δ1.set i (.dk n'))
    | _ => False)
  | some (.ld _) => tr δ fun ds δ1 => (match δ1[i]? with
    | some (.ld n) => sp n ds fun d n' => Q d (δ1.set i (.ld n'))
    | _ => False)
  | _ => False
theorem set_same {α : Type} {l : List α} {i : Nat} {x : α} (h : l[i]? = some x) : l.set i x = l := by
  refine List.ext_getElem? fun j => ?_
  by_cases e : i = j
  · subst e; rw [List.getElem?_set_self (List.getElem?_eq_some_iff.mp h).1, h]
  · rw [List.getElem?_set_ne e]
theorem R.lent {W : Wd} {δ : En} {σ : St} {H F' H' : Hp} (r : R K W δ σ H) {i : Nat} {a : Addr} {s0 s : Sl} {o : HO} (hi : δ[i]? = some s0) (ho : s0.own = true) (hσ : σ[i]? = some (some (.ref a))) (e1 : Ex W.F F') (e2 : Ex F' H')
    (fr : ∀ b o, b ≠ a → H b = some o → W.F b = none → H' b = some o ∧ F' b = none) (ha : H' a = some o) (hf : F' a = none) (k : SlOk K { W with F := F' } H' i s (some (.ref a))) : R K { W with F := F' } (δ.set i s) σ H' := by
  have hlt : i < δ.length := (List.getElem?_eq_some_iff.mp hi).1
  obtain ⟨o0, w⟩ := r.mine ⟨i, s0, hi, ho, hσ⟩
  have r1 : R K { W with F := F' } (δ.set i .un) σ H' := by
    have r0 : R K W (δ.set i .un) σ H := r.drop rfl fun _ _ => trivial
    refine r0.ext ⟨e1, rfl, rfl⟩ e2 (fun b u hb => ?_) (fun b m => ?_)
    · have ne : b ≠ a := fun z => by rw [z, w.b] at hb; cases hb
      obtain ⟨h1, h2⟩ := r.bs b u hb
      exact fr b u ne h1 h2
    · obtain ⟨u, w'⟩ := r0.mine m
      have ne : b ≠ a := by
        rintro rfl
        obtain ⟨j, s', ej, oj, qj⟩ := m
        by_cases hj : i = j
        · subst hj
          rw [List.getElem?_set_self hlt] at ej
          cases ej
          cases oj
        · rw [List.getElem?_set_ne hj] at ej
          exact r.ne i j s0 s' hj hi ej ho oj (hσ.trans qj.symm)
      obtain ⟨h1, h2⟩ := fr b u ne w'.at_ w'.f
      exact ⟨by rw [h1, w'.at_], h2⟩
  have nm : ¬ Mine (δ.set i .un) σ a := by
    rintro ⟨j, s', ej, oj, qj⟩
    by_cases hj : i = j
    · subst hj
      rw [List.getElem?_set_self hlt] at ej
      cases ej
      cases oj
    · rw [List.getElem?_set_ne hj] at ej
      exact r.ne i j s0 s' hj hi ej ho oj (hσ.trans qj.symm)
  have r2 := r1.setO (i := i) (p := a) (s := s) nm k (by rw [List.length_set]; exact hlt)
  rw [List.set_set] at r2
  have es : σ.set i (some (.ref a)) = σ := set_same hσ
  rw [es] at r2
  exact r2
theorem d_callK {i : Nat} {y : Str} {pd : Pos} {sp : DSpk} (F : FnOk X.prog X.w X.K X.mg X.base CX0 k f fd ps (liftK X.K sp)) (hr : Room k X.A) (hm : X.mg x = some (.ref f)) (hk : PySem.W.keepIn X.K (.ref f) = true) (hb : Binds X.K fd ps []) (ha : DA X es n tr) (hN : X.N[i]? = some y := by rfl) (hv : Vis X.env.scope y := by first | exact Or.inl rfl | exact Or.inr (Or.inl rfl) | exact Or.inr (Or.inr rfl)) (hg : Gl X x := by rfl)
    (hd : (y == ("__debug__" : Str)) = false := by decide) (hcd : (y == ("__classdict__" : Str)) = false := by decide) (hdb : (x == ("__debug__" : Str)) = false := by decide)
    (he : starEach (.Name y pd :: es) X.env = (false, eval (.Name y pd) X.env) :: starEach es X.env := by rfl) (hpl : (backTo pos (starEach es X.env)).any (·.1) = false := by rfl) :
    DX X (.Call (.Name x p) (.Name y pd :: es) [] pos) (dCallK i sp tr) := by
  refine pe_imp (pe_call F hr hg hm hk hb .nil pass0 (pa_cons (pe_var hN hv hd hcd) ha he) hdb he hpl) fun σ H Q ⟨W, δ, Qd, r, ht, q⟩ => ?_
  unfold dCallK at ht
  split at ht
  · rename_i n0 hs0
    obtain ⟨z, ez, a, vs0, e1, w, dk⟩ := r.sl i _ hs0
    subst e1
    refine ⟨_, ez, W, δ, _, r, ht, fun W1 δ1 vs H1 ds s1 r1 rv hl h1 => ?_⟩
    revert h1
    cases hs1 : δ1[i]? with
    | none => exact fun h1 => h1.elim
    | some s =>
      cases s with
      | dk n1 =>
        intro h1
        obtain ⟨z', ez', a', vs1, e2, w1, dk1⟩ := r1.sl i _ hs1
        rw [ez] at ez'
        cases ez'
        cases e2
        refine ⟨a, W1.F, n1, ds, vs, vs1, _, by rw [List.append_nil], r1.sub, w1.at_, w1.f, dk1, rv, h1, fun F' v H' d n' xs' x1 x2 fr ha hf hdk rv' hq => ?_⟩
        exact q { W1 with F := F' } _ v H' d (s1.trans ⟨x1, rfl, rfl⟩) (r1.lent (s := .dk n') hs1 rfl ez x1 x2 fr ha hf ⟨a, xs', rfl, ⟨ha, hf, w1.b⟩, hdk⟩) rv' hq
      | _ => exact fun h1 => h1.elim
  · rename_i n0 hs0
    obtain ⟨z, ez, a, vs0, e1, w, dk, l0⟩ := r.sl i _ hs0
    subst e1
    refine ⟨_, ez, W, δ, _, r, ht, fun W1 δ1 vs H1 ds s1 r1 rv hl h1 => ?_⟩
    revert h1
    cases hs1 : δ1[i]? with
    | none => exact fun h1 => h1.elim
    | some s =>
      cases s with
      | ld n1 =>
        intro h1
        obtain ⟨z', ez', a', vs1, e2, w1, dk1, l1⟩ := r1.sl i _ hs1
        rw [ez] at ez'
        cases ez'
        cases e2
        refine ⟨a, W1.F, n1, ds, vs, vs1, _, by rw [List.append_nil], r1.sub, w1.at_, w1.f, dk1, rv, h1, fun F' v H' d n' xs' x1 x2 fr ha hf hdk rv' hq => ?_⟩
        exact q { W1 with F := F' } _ v H' d (s1.trans ⟨x1, rfl, rfl⟩) (r1.lent (s := .ld n') hs1 rfl ez x1 x2 fr ha hf ⟨a, xs', rfl, ⟨ha, hf, w1.b⟩, hdk, l1⟩) rv' hq
      | _ => exact fun h1 => h1.elim
  · exact ht.elim
/-- a def whose first argument is a deck -/
def dkQ (Qd : D → Nat → Prop) (d : D) : En → Prop := fun δ => match (δ[0]? : Option Sl) with
  | some (.ld n) => ∃ m, n ≤ m ∧ Qd d m
  | _ => False
def start1 (m n : Nat) (ds : List D) : En := .ld n :: start0 (m - 1) ds
theorem fn_okK {x qual : Str} {st : Stmt} {f : Addr} {fd : FuncData} {N ps : List Str} {k : Nat} {sp : DSpk} {td : DSt} (F : Fun K x qual st f fd) (S : FnScope N ps (defScope st)) (hlen : ∀ n ds Qd, sp n ds Qd → ds.length + 1 = ps.length) (hN : 1 ≤ N.length)
    (hb : ∀ (cdv : Value) (A : Around) (outer : List Env) (s : Shared) (H : Hp) (E : XK), Room k (A.deeper (envOfC qual (defScope st) s.heap.objs.size f cdv)) → DSs (cxOf CX0 P w K mg base N qual (defScope st) f cdv A outer s H E).nox (defBody st) td)
    (hr : ∀ n ds Qd, sp n ds Qd → td { nx := dkQ Qd .none, rt := dkQ Qd } (start1 N.length n ds)) : FnOk P w K mg base CX0 (k + 1) f fd ps (liftK K sp) := by
  refine F.ok S (fun vs H Q E h => ?_) (fun cdv A outer s H vs Q E hroom h => ⟨_, hb cdv A outer s H E hroom, ?_⟩)
  · obtain ⟨a, F0, n, ds, vs', xs, Qd, rfl, e, ha, hf, dk, rs, h, _⟩ := h
    rw [List.length_cons, rs.length]; exact hlen n ds Qd h
  · obtain ⟨a, F0, n, ds, vs', xs, Qd, rfl, e, ha, hf, dk, rs, h, q⟩ := h
    obtain ⟨y, N', rfl⟩ : ∃ y N', N = y :: N' := by
      cases N with
      | nil => cases hN
      | cons y N' => exact ⟨y, N', rfl⟩
    -- the world: what is not data and not the deck is others'
    let L : Nat → Option Addr := fun i => if i = 0 then some a else none
    let W : Wd := { F := F0, B := fun b => if b = a then none else (w0 F0 H L).B b, L := L }
    have wb : ∀ b o, W.B b = some o → b ≠ a ∧ F0 b = none ∧ H b = some o := fun b o hb => by
      have hb' : (if b = a then none else (w0 F0 H L).B b) = some o := hb
      split at hb'
      · cases hb'
      · rename_i ne
        exact ⟨ne, w0_b.mp hb'⟩
    have wb' : ∀ b o, b ≠ a → F0 b = none → H b = some o → W.B b = some o := fun b o ne h1 h2 => by
      show (if b = a then none else (w0 F0 H L).B b) = some o
      rw [if_neg ne]; exact w0_b.mpr ⟨h1, h2⟩
    have hW : W.B a = none := by show (if a = a then none else _) = none; rw [if_pos rfl]
    have own : Own W H a (.lst xs) := ⟨ha, hf, hW⟩
    have r0 := start_R (K := K) (L := L) (N := N') e rs
    have R0 : R K W (start1 (y :: N').length n ds) (start (y :: N') (.ref a :: vs')) H := by
      have es : start (y :: N') (.ref a :: vs') = some (.ref a) :: start N' vs' := by
        unfold L2.start
        rw [List.map_cons, List.length_cons, List.length_cons, Nat.add_sub_add_right, List.cons_append]
      rw [es]
      have ed : start1 (y :: N').length n ds = .ld n :: start0 N'.length ds := rfl
      rw [ed]
      refine ⟨by rw [List.length_cons, List.length_cons, r0.len], e, fun b o hb => ?_, fun i s hs => ?_, fun i j s s' hij e1 e2 o1 o2 => ?_⟩
      · obtain ⟨_, h1, h2⟩ := wb b o hb
        exact ⟨h2, h1⟩
      · cases i with
        | zero =>
          rw [List.getElem?_cons_zero] at hs
          cases hs
          exact ⟨_, rfl, a, xs, rfl, own, dk, rfl⟩
        | succ i =>
          rw [List.getElem?_cons_succ] at hs ⊢
          obtain ⟨z, ez, k⟩ := r0.sl i s hs
          refine ⟨z, ez, ?_⟩
          have no : s.own = false := by
            unfold start0 at hs
            have := List.mem_of_getElem? hs
            rcases List.mem_append.mp this with h | h
            · obtain ⟨d, _, rfl⟩ := List.mem_map.mp h
              rfl
            · rw [List.eq_of_mem_replicate h]
              rfl
          cases s with
          | un => trivial
          | v d => exact k
          | ol _ => cases no
          | dk _ => cases no
          | ld _ => cases no
      · have no : ∀ (i : Nat) (s : Sl), (Sl.ld n :: start0 N'.length ds)[i + 1]? = some s → s.own = false := fun i s hs => by
          rw [List.getElem?_cons_succ] at hs
          unfold start0 at hs
          have := List.mem_of_getElem? hs
          rcases List.mem_append.mp this with h | h
          · obtain ⟨d, _, rfl⟩ := List.mem_map.mp h
            rfl
          · rw [List.eq_of_mem_replicate h]
            rfl
        cases i with
        | zero => cases j with
          | zero => exact absurd rfl hij
          | succ j => rw [no j s' e2] at o2; cases o2
        | succ i => rw [no i s e1] at o1; cases o1
    have fin : ∀ (W' : Wd) (δ' : En) (σ' : St) (v : V) (H' : Hp) (d : D), Stp W W' → R K W' δ' σ' H' → Rep K W'.F v d → dkQ Qd d δ' → Q v H' := fun W' δ' σ' v H' d s r rv hq => by
      unfold dkQ at hq
      split at hq
      · rename_i n' hs
        obtain ⟨z, ez, a', xs', e1, w', dk', l'⟩ := r.sl 0 _ hs
        have : a' = a := by
          rw [s.l] at l'
          exact (Option.some.inj l').symm
        subst this
        obtain ⟨m, hm, hq⟩ := hq
        refine q W'.F v H' d m xs' s.ex r.sub (fun b o ne h1 h2 => ?_) w'.at_ w'.f (dk'.mono hm) rv hq
        exact r.bs b o (by rw [s.b]; exact wb' b o ne h2 h1)
      · exact hq.elim
    exact ⟨W, _, _, R0, hr n ds Qd h, ⟨fun W' δ' σ' H' s r hq => fin W' δ' σ' .non H' .none s r .non hq, fun _ _ _ _ _ _ z => z.elim, fun _ _ _ _ _ _ z => z.elim, fun W' δ' σ' v H' d s r rv hq => fin W' δ' σ' v H' d s r rv hq⟩⟩
/-! ### a deck made -/
def liftM (K : PySem.W.Frag) (sp : List D → (Nat → Prop) → Prop) : Sp := fun vs H Q _ => ∃ (F : Hp) (ds : List D) (Qd : Nat → Prop), Ex F H ∧ RepL K F vs ds ∧ sp ds Qd ∧
  ∀ (p : Addr) (H' : Hp) (n : Nat) (xs : List V), H p = none → Ex H H' → H' p = some (.lst xs) → DkOk n xs → Qd n → Q (.ref p) H'
def sSetK (i : Nat) (sp : List D → (Nat → Prop) → Prop) (tr : DTa) : DSt := fun E δ => tr δ fun ds δ1 => match δ1[i]? with
  | some x => x.isLd = false ∧ sp ds fun n => E.nx (δ1.set i (.dk n))
  | none => False
theorem s_setK {i : Nat} {y : Str} {pos' spos : Pos} {sp : List D → (Nat → Prop) → Prop} (hN : X.N.Nodup) (F : FnOk X.prog X.w X.K X.mg X.base CX0 k f fd ps (liftM X.K sp)) (hr : Room k X.A) (hm : X.mg x = some (.ref f)) (hk : PySem.W.keepIn X.K (.ref f) = true) (hb : Binds X.K fd ps []) (ha : DA X (e :: es) n tr) (hi : X.N[i]? = some y := by rfl) (hx : Loc X.env.scope y := by first | exact Or.inl rfl | exact Or.inr rfl) (hg : Gl X x := by rfl)
    (hs : swapsWith (.Call (.Name x p) (e :: es) [] pos) (some (.Name y pos')) spos.line X.env = pure false := by rfl) (hf : X.fn y = true ∨ X.env.scope.names.lookup y = some .local := by first | exact .inl rfl | exact .inr rfl | assumption)
    (hdb : (x == ("__debug__" : Str)) = false := by decide) (he : starEach (e :: es) X.env = (false, eval e X.env) :: starEach es X.env := by rfl) (hpl : (backTo pos (starEach es X.env)).any (·.1) = false := by rfl) :
    DS X (.Assign [.Name y pos'] (.Call (.Name x p) (e :: es) [] pos) spos) (sSetK i sp tr) :=
  ps_imp (ps_set hN hi hx (pe_call F hr hg hm hk hb .nil pass0 ha hdb he hpl) hs hf) fun D σ H h => by
    obtain ⟨W, δ, E, r, h, q⟩ := h
    refine ⟨W, δ, _, r, h, fun W1 δ1 vs H1 ds s1 r1 rv hl h1 => ?_⟩
    revert h1
    cases hs1 : δ1[i]? with
    | none => exact fun h1 => h1.elim
    | some s =>
      have hlt := (List.getElem?_eq_some_iff.mp hs1).1
      intro h1
      have h2 : sp ds fun n => E.nx (δ1.set i (.dk n)) := by
        exact h1.2
      refine ⟨W1.F, ds, _, r1.sub, by rw [List.append_nil]; exact rv, h2, fun p H' n xs hp x1 hp' dk hq => ?_⟩
      obtain ⟨f1, f2, f3⟩ := r1.free hp
      have r2 : R X.K W1 δ1 σ H' := r1.ext (Stp.refl W1) (r1.sub.trans x1) (fun b o hb => ⟨x1 b o (r1.bs b o hb).1, (r1.bs b o hb).2⟩) (fun b m => by
        obtain ⟨o, w⟩ := r1.mine m
        exact ⟨by rw [x1 b o w.at_, w.at_], w.f⟩)
      exact q.nx W1 _ _ H' s1 (r2.setO (s := .dk n) f3 ⟨p, xs, rfl, ⟨hp', f1, f2⟩, dk⟩ hlt) hq
end
end DL
/-! The data layer: methods, sums, slices, in, two targets at once. -/
namespace DL
open PySem PySem.Spec L2
open PyProof.Rows hiding St
/-! sum of a tuple -/
def rSumT (K : PySem.W.Frag) : List V → Hp → VK → Prop := fun vs H Q => ∃ (a : Addr) (ns : List Int), vs = [V.ref a] ∧ SqT K H a (ns.map V.int) ∧ Q (.int ns.sum) H
theorem cr_sumT {X : Cx} (hc : X.calm = true) : CallR X (.builtin "sum") (rSumT X.K) := by
  intro pins s σ H vs us Q I r h
  obtain ⟨a, ns, rfl, hs, q⟩ := h
  obtain ⟨its, rv, hl, _⟩ := I.tuple hs
  rw [Vals.ref1 r]
  obtain ⟨xs, e⟩ := rv.ints.allInts.items
  have hn := rv.ints.numsOf
  rw [e] at hl
  rw [show its = (intItems xs).toList by rw [← e], nums_intItems] at hn
  refine PySem.W.ktm_sumG (I.ok.hd hc) hl fun h' tk t' hk => ?_
  rw [preSum_eq, List.take_of_length_le (by simp), hn]
  exact ⟨.int _, H, I.kept hk, ⟨_, rfl⟩, q⟩
def rSumU (K : PySem.W.Frag) : List V → Hp → VK → Prop := fun xs H Q => rSum K xs H Q ∨ rSumT K xs H Q
theorem cr_sumU {X : Cx} (hc : X.calm = true) : CallR X (.builtin "sum") (rSumU X.K) := CallR.or (cr_sum hc) (cr_sumT hc)
def gSum : List D → (D → Prop) → Prop
  | [.list ds], Q => ∃ ns : List Int, ds = ns.map .int ∧ Q (.int ns.sum)
  | [.tuple ds], Q => ∃ ns : List Int, ds = ns.map .int ∧ Q (.int ns.sum)
  | _, _ => False
theorem cd_sum {K : PySem.W.Frag} : CalD K (rSumU K) gSum := by
  intro W δ σ H vs ds Qd Q R0 rx q k
  unfold gSum at q
  split at q
  · obtain ⟨ns, e, q⟩ := q
    cases rx with
    | cons r rs =>
      cases rs
      cases r with
      | lst ha rs =>
        subst e
        rw [rs.ints] at ha
        exact .inl ⟨_, ns, rfl, R0.sub.sqL ha, k W _ H _ (Stp.refl W) R0 (.int _) q⟩
  · obtain ⟨ns, e, q⟩ := q
    cases rx with
    | cons r rs =>
      cases rs
      cases r with
      | tup ha rs =>
        subst e
        rw [rs.ints] at ha
        exact .inr ⟨_, ns, rfl, R0.sub.sqT ha, k W _ H _ (Stp.refl W) R0 (.int _) q⟩
  · exact q.elim
section
variable {X : Cx} {e a b o : Expr} {es : List Expr} {t ta tb : DT} {tr : DTa} {n : Nat} {pos : Pos} {K : PySem.W.Frag}
/-! -x -/
def dNeg (t : DT) : DT := fun δ Q => t δ fun d δ' => match d with | .int i => Q (.int (-i)) δ' | _ => False
theorem d_neg (h : DX X a t) : DX X (.UnaryOp .USub a pos) (dNeg t) :=
  pe_imp (pe_un un_neg h) fun σ H Q ⟨W, δ, Qd, r, ht, k⟩ => ⟨W, δ, _, r, ht, fun W1 δ1 v H1 d s1 r1 rv q => by
    cases rv with
    | int i => exact ⟨i, rfl, k W1 δ1 _ H1 _ s1 r1 (.int _) q⟩
    | _ => exact q.elim⟩
/-! methods of texts -/
def M1D (K : PySem.W.Frag) (r : V → List V → Hp → VK → Prop) (g : D → D → (D → Prop) → Prop) : Prop :=
  ∀ W δ σ H x y dx dy (Qd : D → Prop) (Q : VK), R K W δ σ H → Rep K W.F x dx → Rep K W.F y dy → g dx dy Qd → (∀ W' v H' d, Stp W W' → R K W' δ σ H' → Rep K W'.F v d → Qd d → Q v H') → r x [y] H Q
def isStr : D → Bool
  | .str _ => true
  | _ => false
def dM1 (g : D → D → (D → Prop) → Prop) (ta tb : DT) : DT := fun δ Q => ta δ fun x δ1 => isStr x = true ∧ tb δ1 fun y δ2 => g x y fun z => Q z δ2
theorem d_m1 {id : String} {name : Str} {apos : Pos} {r : V → List V → Hp → VK → Prop} {g : D → D → (D → Prop) → Prop} (slot : Slot "str" name id) (ty : typeOf (.builtin id) = pure (.type "method_descriptor")) (rule : MtR X id r) (hd : M1D X.K r g) (ho : DX X o ta) (he : DX X e tb)
    (hs : starEach [e] X.env = [(false, eval e X.env)] := by rfl) (hbase : attributeBase o name X.env (eval o X.env) = eval o X.env := by rfl) (hline : (apos.endLine == pos.line) = true := by rfl) :
    DX X (.Call (.Attribute o name apos) [e] [] pos) (dM1 g ta tb) :=
  pe_imp (pe_m1 slot ty rule ho he hs hbase hline) fun σ H Q ⟨W, δ, Qd, r, ht, k⟩ => ⟨W, δ, _, r, ht, fun W1 δ1 x H1 dx s1 r1 rx ⟨hx, q1⟩ => by
    refine ⟨?_, W1, δ1, _, r1, q1, fun W2 δ2 y H2 dy s2 r2 ry q2 => ?_⟩
    · cases rx with
      | str z => exact ⟨z, rfl⟩
      | _ => cases hx
    · exact hd W2 δ2 σ H2 x y dx dy _ Q r2 (rx.mono s2.ex) ry q2 fun W3 v H3 d s3 r3 rv q3 => k W3 δ2 v H3 d ((s1.trans s2).trans s3) r3 rv q3⟩
/-- s.index(t), found -/
def rIdxS : V → List V → Hp → VK → Prop := fun x xs H Q => ∃ (a b : Str) (k : Nat) (rest : List Nat), x = .str a ∧ xs = [.str b] ∧ Builtin.Str.occurrences a b 0 a.length 1 = k :: rest ∧ Q (.int k) H
theorem mt_idxS : MtR X "str.index" rIdxS := by
  intro pins s σ H x xs v us Q I rx rs h
  obtain ⟨a, b, k, rest, rfl, rfl, hk, q⟩ := h
  obtain ⟨t, rfl⟩ := rx
  cases rs with
  | cons r1 rs =>
    cases rs
    obtain ⟨u, rfl⟩ := r1
    exact PySem.SC.index hk ⟨.int (k : Nat), H, I.tok _, ⟨_, rfl⟩, q⟩
def gIdxS : D → D → (D → Prop) → Prop
  | .str a, .str b, Q => ∃ (k : Nat) (rest : List Nat), Builtin.Str.occurrences a b 0 a.length 1 = k :: rest ∧ Q (.int k)
  | _, _, _ => False
theorem md_idxS : M1D K rIdxS gIdxS := by
  intro W δ σ H x y dx dy Qd Q r rx ry q k
  unfold gIdxS at q
  split at q
  · obtain ⟨j, rest, hj, q⟩ := q
    cases rx
    cases ry
    exact ⟨_, _, j, rest, rfl, rfl, hj, k W _ H _ (Stp.refl W) r (.int _) q⟩
  · exact q.elim
/-- s.join(texts) -/
def gJoin : D → D → (D → Prop) → Prop
  | .str a, .list ds, Q => ∃ ys : List Str, ds = ys.map .str ∧ (ys.map (·.length)).sum + ys.length * a.length ≤ 16777216 ∧ Q (.str (Txt.join a ys))
  | _, _, _ => False
theorem md_join : M1D K (fun x xs H Q => ∃ a p, ∃ ys : List Str, x = .str a ∧ xs = [.ref p] ∧ (SqL K H p (ys.map V.str) ∨ SqT K H p (ys.map V.str)) ∧ (ys.map (·.length)).sum + ys.length * a.length ≤ 16777216 ∧ Q (.str (Txt.join a ys)) H) gJoin := by
  intro W δ σ H x y dx dy Qd Q r rx ry q k
  unfold gJoin at q
  split at q
  · obtain ⟨ys, e, hz, q⟩ := q
    cases rx
    cases ry with
    | lst ha rs =>
      subst e
      rw [rs.strs] at ha
      exact ⟨_, _, ys, rfl, rfl, .inl (r.sub.sqL ha), hz, k W _ H _ (Stp.refl W) r (.str _) q⟩
  · exact q.elim
/-- s.count(t) -/
def gCount : D → D → (D → Prop) → Prop
  | .str a, .str b, Q => Q (.int (Txt.count a b))
  | _, _, _ => False
theorem md_count : M1D K (fun x xs H Q => ∃ a b, x = .str a ∧ xs = [.str b] ∧ Q (.int (Txt.count a b)) H) gCount := by
  intro W δ σ H x y dx dy Qd Q r rx ry q k
  unfold gCount at q
  split at q
  · cases rx
    cases ry
    exact ⟨_, _, rfl, rfl, k W _ H _ (Stp.refl W) r (.int _) q⟩
  · exact q.elim
/-! slices -/
abbrev DTo := En → (Option Int → En → Prop) → Prop
def tDo (K : PySem.W.Frag) (t : DTo) : TO := fun σ H Q => ∃ W δ Qd, R K W δ σ H ∧ t δ Qd ∧ ∀ W' δ' o H', Stp W W' → R K W' δ' σ H' → Qd o δ' → Q o H'
abbrev DOp (X : Cx) (e : Option Expr) (t : DTo) : Prop := PO X e (tDo X.K t)
def oNone : DTo := fun δ Q => Q none δ
def oSome (t : DT) : DTo := fun δ Q => t δ fun d δ' => match d with | .int i => Q (some i) δ' | _ => False
theorem op_none : DOp X none oNone := ⟨fun pins s σ H Q I ⟨W, δ, Qd, r, h, k⟩ => po_none.run pins s σ H Q I (k W δ none H (Stp.refl W) r h)⟩
theorem op_some (h : DX X e t) : DOp X (some e) (oSome t) := ⟨fun pins s σ H Q I ⟨W, δ, Qd, r, ht, k⟩ => (po_some h).run pins s σ H Q I ⟨W, δ, _, r, ht, fun W1 δ1 v H1 d s1 r1 rv q => by
  cases rv with
  | int i => exact ⟨i, rfl, k W1 δ1 _ H1 s1 r1 q⟩
  | _ => exact q.elim⟩⟩
def cutD {α : Type} (xs : List α) (lo hi : Option Int) : List α := (xs.drop (HT.sIx xs.length 0 lo)).take (HT.sIx xs.length xs.length hi - HT.sIx xs.length 0 lo)
def rSlU (K : PySem.W.Frag) : V → Option Int → Option Int → Hp → VK → Prop := fun x lo hi H Q => rSlA K x lo hi H Q ∨ rSlL K x lo hi H Q ∨ rSlS x lo hi H Q
theorem sl_U : SlR X (rSlU X.K) := SlR.or sl_tupA (SlR.or sl_list sl_str)
def gSl : D → Option Int → Option Int → (D → Prop) → Prop
  | .tuple ds, lo, hi, Q => Q (.tuple (cutD ds lo hi))
  | .list ds, lo, hi, Q => Q (.list (cutD ds lo hi))
  | .str z, lo, hi, Q => z.length ≤ 16777216 ∧ Q (.str (cutS z lo hi))
  | _, _, _, _ => False
theorem RepL.cut {F : Hp} {vs : List V} {ds : List D} (h : RepL K F vs ds) (lo hi : Option Int) : RepL K F (cutV vs lo hi) (cutD ds lo hi) := by
  unfold cutV cutD
  rw [h.length]
  exact (h.drop _).take _
def dSl (ta : DT) (tl th : DTo) : DT := fun δ Q => ta δ fun x δ1 => tl δ1 fun l δ2 => th δ2 fun u δ3 => gSl x l u fun z => Q z δ3
theorem d_sl {lo hi : Option Expr} {tl th : DTo} {p2 : Pos} (he : DX X e ta) (hl : DOp X lo tl) (hu : DOp X hi th) : DX X (.Subscript e (.Slice lo hi none p2) pos) (dSl ta tl th) :=
  pe_imp (pe_slice sl_U he hl hu) fun σ H Q ⟨W, δ, Qd, r, ht, k⟩ => ⟨W, δ, _, r, ht, fun W1 δ1 x H1 dx s1 r1 rx q1 => ⟨W1, δ1, _, r1, q1, fun W2 δ2 l H2 s2 r2 q2 => ⟨W2, δ2, _, r2, q2, fun W3 δ3 u H3 s3 r3 q3 => by
    have s03 := (s1.trans s2).trans s3
    have rx3 := rx.mono (s2.trans s3).ex
    cases rx3 with
    | tup ha rs =>
      refine .inl ⟨_, _, rfl, r3.sub.sqT ha, fun ⟨w1, w2⟩ => ?_, fun _ p hp => ?_⟩
      · refine k W3 δ3 _ H3 _ s03 r3 (.tup ha ?_) q3
        have e := rs.cut l u
        unfold cutV at e
        rw [w1, w2, Nat.sub_zero, List.drop_zero, List.take_length] at e
        exact e
      · exact k _ δ3 _ _ _ (s03.trans (r3.newStp hp)) (r3.new hp) (.tup (SqT.of upd_same) ((rs.cut l u).mono (r3.newStp (o := .tup _) hp).ex)) q3
    | lst ha rs => exact .inr (.inl ⟨_, _, rfl, r3.sub.sqL ha, fun p hp => k _ δ3 _ _ _ (s03.trans (r3.newStp hp)) (r3.new hp) (.lst (SqL.of upd_same) ((rs.cut l u).mono (r3.newStp (o := .lst _) hp).ex)) q3⟩)
    | str z => exact .inr (.inr ⟨z, rfl, sz q3.1, k W3 δ3 _ H3 _ s03 r3 (.str _) q3.2⟩)
    | _ => exact q3.elim⟩⟩⟩
/-! in -/
def rInG (K : PySem.W.Frag) (neg : Bool) : R2 := fun x y H Q => ∃ d ds, Dp K H x d ∧ (Dp K H y (.list ds) ∨ Dp K H y (.tuple ds)) ∧ SeqAt.shaped d = true ∧ SeqAt.shaped (.list ds) = true ∧ Q (.bl (if neg then !(ds.any fun z => PyData.eqv z d) else ds.any fun z => PyData.eqv z d)) H
theorem shaped_tup {ds : List D} (h : SeqAt.shaped (.list ds) = true) : SeqAt.shaped (.tuple ds) = true := by
  unfold SeqAt.shaped at h ⊢
  simpa [PyData.canLay0, PyData.depth] using h
theorem op_inG (hu : X.A.units + 65 < cLine) : OpR X (compareOp .In) (rInG X.K false) := by
  intro pins s σ H x y v u Q I rx ry h
  obtain ⟨d, ds, hd, he, sd, se, q⟩ := h
  obtain ⟨as, r1⟩ := Dp.reads I d x v hd rx
  rcases he with he | he
  · obtain ⟨bs, r2⟩ := Dp.reads I (.list ds) y u he ry
    exact SeqAt.in_list_reads r2 r1 (SeqAt.canLay_of_shaped se) (SeqAt.canLay_of_shaped sd) (room_in_shaped sd hu) ⟨.bl _, H, I, rfl, q⟩
  · obtain ⟨bs, r2⟩ := Dp.reads I (.tuple ds) y u he ry
    exact SeqAt.in_tuple_reads r2 r1 (SeqAt.canLay_of_shaped (shaped_tup se)) (SeqAt.canLay_of_shaped sd) (room_in_shaped sd hu) ⟨.bl _, H, I, rfl, q⟩
theorem op_notInG (hu : X.A.units + 65 < cLine) : OpR X (compareOp .NotIn) (rInG X.K true) := by
  intro pins s σ H x y v u Q I rx ry h
  obtain ⟨d, ds, hd, he, sd, se, q⟩ := h
  obtain ⟨as, r1⟩ := Dp.reads I d x v hd rx
  rcases he with he | he
  · obtain ⟨bs, r2⟩ := Dp.reads I (.list ds) y u he ry
    exact SeqAt.notIn_list_reads r2 r1 (SeqAt.canLay_of_shaped se) (SeqAt.canLay_of_shaped sd) (room_in_shaped sd hu) ⟨.bl _, H, I, rfl, q⟩
  · obtain ⟨bs, r2⟩ := Dp.reads I (.tuple ds) y u he ry
    exact SeqAt.notIn_tuple_reads r2 r1 (SeqAt.canLay_of_shaped (shaped_tup se)) (SeqAt.canLay_of_shaped sd) (room_in_shaped sd hu) ⟨.bl _, H, I, rfl, q⟩
def rInU (K : PySem.W.Frag) : R2 := fun x y H Q => rInS x y H Q ∨ rInG K false x y H Q
def rNotInS : R2 := fun x y H Q => ∃ (c : Nat) (z : Str), x = .str ⟨#[c]⟩ ∧ y = .str z ∧ Q (.bl (!decide (c ∈ z.cps.toList))) H
def rNotInU (K : PySem.W.Frag) : R2 := fun x y H Q => rNotInS x y H Q ∨ rInG K true x y H Q
theorem op_inU (hu : X.A.units + 65 < cLine) : OpR X (compareOp .In) (rInU X.K) := OpR.or op_in_sign (op_inG hu)
theorem op_notInU (hu : X.A.units + 65 < cLine) : OpR X (compareOp .NotIn) (rNotInU X.K) := OpR.or op_notIn_sign (op_notInG hu)
def inD (d : D) (ds : List D) : Bool := ds.any fun z => PyData.eqv z d
def okIn (d : D) (ds : List D) : Prop := SeqAt.shaped d = true ∧ SeqAt.shaped (.list ds) = true
def sgIn (c : List Nat) (z : Str) : (Bool → Prop) → Prop := fun Q => match c with
  | [k] => Q (decide (k ∈ z.cps.toList))
  | _ => False
def gIn : D → D → (D → Prop) → Prop
  | x, .list ds, Q => okIn x ds ∧ Q (.bool (inD x ds))
  | x, .tuple ds, Q => okIn x ds ∧ Q (.bool (inD x ds))
  | .str y, .str z, Q => sgIn y.cps.toList z fun b => Q (.bool b)
  | _, _, _ => False
def gNotIn : D → D → (D → Prop) → Prop
  | x, .list ds, Q => okIn x ds ∧ Q (.bool (!inD x ds))
  | x, .tuple ds, Q => okIn x ds ∧ Q (.bool (!inD x ds))
  | .str y, .str z, Q => sgIn y.cps.toList z fun b => Q (.bool (!b))
  | _, _, _ => False
theorem gIn_lst {x : D} {ds : List D} {Q : D → Prop} : gIn x (.list ds) Q = (okIn x ds ∧ Q (.bool (inD x ds))) := by cases x <;> rfl
theorem gIn_tup {x : D} {ds : List D} {Q : D → Prop} : gIn x (.tuple ds) Q = (okIn x ds ∧ Q (.bool (inD x ds))) := by cases x <;> rfl
theorem od_in : OpD K (rInU K) gIn := by
  intro W δ σ H x y dx dy Qd Q r rx ry q k
  cases ry with
  | lst ha rs =>
    rw [gIn_lst] at q
    obtain ⟨⟨h1, h2⟩, q⟩ := q
    exact .inr ⟨_, _, rx.dp r.sub (SeqAt.canLay_of_shaped h1), .inl ((Rep.lst ha rs).dp r.sub (SeqAt.canLay_of_shaped h2)), h1, h2, k W _ H _ (Stp.refl W) r (.bl _) q⟩
  | tup ha rs =>
    rw [gIn_tup] at q
    obtain ⟨⟨h1, h2⟩, q⟩ := q
    exact .inr ⟨_, _, rx.dp r.sub (SeqAt.canLay_of_shaped h1), .inr ((Rep.tup ha rs).dp r.sub (SeqAt.canLay_of_shaped (shaped_tup h2))), h1, h2, k W _ H _ (Stp.refl W) r (.bl _) q⟩
  | str z =>
    cases rx with
    | str y =>
      have q : sgIn y.cps.toList z fun b => Qd (.bool b) := q
      unfold sgIn at q
      split at q
      · rename_i c hc
        have : y = ⟨#[c]⟩ := by
          cases y with
          | mk cps => cases cps; simp at hc; rw [hc]
        exact .inl ⟨c, z, by rw [this], rfl, k W _ H _ (Stp.refl W) r (.bl _) q⟩
      · exact q.elim
    | _ => exact q.elim
  | _ => cases rx <;> exact q.elim
theorem gNotIn_lst {x : D} {ds : List D} {Q : D → Prop} : gNotIn x (.list ds) Q = (okIn x ds ∧ Q (.bool (!inD x ds))) := by cases x <;> rfl
theorem gNotIn_tup {x : D} {ds : List D} {Q : D → Prop} : gNotIn x (.tuple ds) Q = (okIn x ds ∧ Q (.bool (!inD x ds))) := by cases x <;> rfl
theorem od_notIn : OpD K (rNotInU K) gNotIn := by
  intro W δ σ H x y dx dy Qd Q r rx ry q k
  cases ry with
  | lst ha rs =>
    rw [gNotIn_lst] at q
    obtain ⟨⟨h1, h2⟩, q⟩ := q
    exact .inr ⟨_, _, rx.dp r.sub (SeqAt.canLay_of_shaped h1), .inl ((Rep.lst ha rs).dp r.sub (SeqAt.canLay_of_shaped h2)), h1, h2, k W _ H _ (Stp.refl W) r (.bl _) q⟩
  | tup ha rs =>
    rw [gNotIn_tup] at q
    obtain ⟨⟨h1, h2⟩, q⟩ := q
    exact .inr ⟨_, _, rx.dp r.sub (SeqAt.canLay_of_shaped h1), .inr ((Rep.tup ha rs).dp r.sub (SeqAt.canLay_of_shaped (shaped_tup h2))), h1, h2, k W _ H _ (Stp.refl W) r (.bl _) q⟩
  | str z =>
    cases rx with
    | str y =>
      have q : sgIn y.cps.toList z fun b => Qd (.bool (!b)) := q
      unfold sgIn at q
      split at q
      · rename_i c hc
        have : y = ⟨#[c]⟩ := by
          cases y with
          | mk cps => cases cps; simp at hc; rw [hc]
        exact .inl ⟨c, z, by rw [this], rfl, k W _ H _ (Stp.refl W) r (.bl _) q⟩
      · exact q.elim
    | _ => exact q.elim
  | _ => cases rx <;> exact q.elim
/-! a, b = x, y -/
def sPar2 (i j : Nat) (tr : DTa) : DSt := fun E δ => tr δ fun ds δ1 => match ds with
  | [x, y] => gN i x δ1 fun δ2 => gN j y δ2 E.nx
  | _ => False
theorem R.setG {W : Wd} {δ : En} {σ : St} {H : Hp} {i : Nat} {v : V} {d : D} {Q : En → Prop} (r : R K W δ σ H) (rv : Rep K W.F v d) (q : gN i d δ Q) : R K W (δ.set i (.v d)) (σ.set i (some v)) H ∧ Q (δ.set i (.v d)) := by
  unfold gN at q
  split at q
  · exact ⟨r.setV rv, q.2⟩
  · exact q.elim
theorem s_par2 {i j : Nat} {x y : Str} {px py pt : Pos} {kt k2 pt2} (hc : X.calm = true) (hN : X.N.Nodup) (hij : i ≠ j) (ha : DA X [a, b] 2 tr) (hi : X.N[i]? = some x := by rfl) (hj : X.N[j]? = some y := by rfl)
    (hx : X.env.scope.names.lookup x = some .local := by rfl) (hy : X.env.scope.names.lookup y = some .local := by rfl)
    (hw : swappedStores [.Tuple [.Name x px, .Name y py] kt pt] (.Tuple [a, b] k2 pt2) X.env = pure (some [x, y]) := by rfl)
    (hs : swapsWithSole [.Tuple [.Name x px, .Name y py] kt pt] (.Tuple [a, b] k2 pt2) pos.line X.env = pure false := by rfl) :
    DS X (.Assign [.Tuple [.Name x px, .Name y py] kt pt] (.Tuple [a, b] k2 pt2) pos) (sPar2 i j tr) :=
  ps_imp (ps_par hc hN hi hj hij hx hy ha hw hs) fun D σ H ⟨W, δ, E, r, h, k⟩ => ⟨W, δ, _, r, h, fun W1 δ1 vs H1 ds s1 r1 rv hl q => by
    cases rv with
    | nil => exact q.elim
    | cons ra rb =>
      cases rb with
      | nil => exact q.elim
      | cons rb rc =>
        cases rc with
        | cons _ _ => exact q.elim
        | nil =>
          obtain ⟨r2, q2⟩ := r1.setG ra q
          obtain ⟨r3, q3⟩ := r2.setG rb q2
          exact ⟨_, _, rfl, k.nx W1 _ _ H1 s1 r3 q3⟩⟩
def sPar3 (i j l : Nat) (tr : DTa) : DSt := fun E δ => tr δ fun ds δ1 => match ds with
  | [x, y, z] => gN i x δ1 fun δ2 => gN j y δ2 fun δ3 => gN l z δ3 E.nx
  | _ => False
theorem s_par3 {c : Expr} {i j l : Nat} {x y z : Str} {px py pz pt : Pos} {kt k2 pt2} (hc : X.calm = true) (hN : X.N.Nodup) (hij : i ≠ j) (hil : i ≠ l) (hjl : j ≠ l) (ha : DA X [a, b, c] 3 tr) (hi : X.N[i]? = some x := by rfl) (hj : X.N[j]? = some y := by rfl) (hl : X.N[l]? = some z := by rfl)
    (hx : X.env.scope.names.lookup x = some .local := by rfl) (hy : X.env.scope.names.lookup y = some .local := by rfl) (hz : X.env.scope.names.lookup z = some .local := by rfl)
    (hw : swappedStores [.Tuple [.Name x px, .Name y py, .Name z pz] kt pt] (.Tuple [a, b, c] k2 pt2) X.env = pure (some [x, y, z]) := by rfl)
    (hs : swapsWithSole [.Tuple [.Name x px, .Name y py, .Name z pz] kt pt] (.Tuple [a, b, c] k2 pt2) pos.line X.env = pure false := by rfl) :
    DS X (.Assign [.Tuple [.Name x px, .Name y py, .Name z pz] kt pt] (.Tuple [a, b, c] k2 pt2) pos) (sPar3 i j l tr) :=
  ps_imp (ps_par3 hc hN hi hj hl hij hil hjl hx hy hz ha hw hs) fun D σ H ⟨W, δ, E, r, h, k⟩ => ⟨W, δ, _, r, h, fun W1 δ1 vs H1 ds s1 r1 rv hl q => by
    cases rv with
    | nil => exact q.elim
    | cons ra rb =>
      cases rb with
      | nil => exact q.elim
      | cons rb rc =>
        cases rc with
        | nil => exact q.elim
        | cons rc rd =>
          cases rd with
          | cons _ _ => exact q.elim
          | nil =>
            obtain ⟨r2, q2⟩ := r1.setG ra q
            obtain ⟨r3, q3⟩ := r2.setG rb q2
            obtain ⟨r4, q4⟩ := r3.setG rc q3
            exact ⟨_, _, _, rfl, k.nx W1 _ _ H1 s1 r4 q4⟩⟩
/-! [..] * n -/
def dRepO (tr : DTa) (tb : DT) : DTa := fun δ Q => tr δ fun ds δ1 => tb δ1 fun d δ2 => match d with
  | .int k => (-(2 ^ 63) ≤ k ∧ k < 2 ^ 63 ∧ ds.length * k.toNat ≤ 16777216) ∧ Q (repD k ds) δ2
  | _ => False
theorem o_rep {p1 : Pos} (ha : DA X es n tr) (hb : DX X b tb) (hn : n ≤ 1000 := by decide) : DO X (.BinOp (.List es p1) .Mult b pos) (dRepO tr tb) :=
  pe_imp (pe_op op_rep (pe_lst ha) hb) fun σ H Q ⟨W, δ, Qd, r, ht, k⟩ => ⟨W, δ, _, r, ht, fun W1 δ1 xs H1 ds s1 r1 rx hl q1 => ⟨Nat.le_of_lt (small1000 (by rw [rx.length, hl]; exact hn)), fun p hp => by
    obtain ⟨f1, f2, f3⟩ := r1.free hp
    -- the display stands still while the number is reckoned
    have r2 := r1.new (o := .lst xs) hp
    have s2 := r1.newStp (o := .lst xs) hp
    refine ⟨_, δ1, _, r2, q1, fun W3 δ3 v H3 d s3 r3 rv q3 => ?_⟩
    cases rv with
    | int j =>
      obtain ⟨⟨h1, h2, h3⟩, q3⟩ := q3
      have hp3 : H3 p = some (.lst xs) := r3.sub p _ (s3.ex p _ upd_same)
      refine ⟨p, j, xs, rfl, rfl, hp3, h1, h2, by rw [rx.length, sizeLine_eq]; exact h3, fun q hq => ?_⟩
      have f := r3.free hq
      exact k W3 δ3 q _ _ _ ((s1.trans s2).trans s3) (r3.laid hq) ⟨upd_same, f.1, f.2.1⟩ f.2.2 ((rx.rep j.toNat).mono (s2.trans s3).ex) q3
    | _ => exact q3.elim⟩⟩
end
end DL
/-! The data layer: helps for readings. -/
namespace DL
open PySem PySem.Spec L2
open PyProof.Rows hiding St
theorem hu65 {k : Nat} {A : Around} (r : Room k A) : A.units + 65 < cLine := by have := r.un; omega
section
variable {X : Cx} {x : Str} {pos : Pos}
theorem d_gInt {i : Int} (h : ∃ t, X.mg x = some (.int i t)) (hg : Gl X x := by rfl) (hd : (x == ("__debug__" : Str)) = false := by decide) : DX X (.Name x pos) (dC (.int i)) := by
  obtain ⟨t, h⟩ := h
  exact d_glob (v := .int i) hg h ⟨t, rfl⟩ (fun _ => .int i) hd
theorem d_gStr {z : Str} (h : ∃ t, X.mg x = some (.str z t)) (hg : Gl X x := by rfl) (hd : (x == ("__debug__" : Str)) = false := by decide) : DX X (.Name x pos) (dC (.str z)) := by
  obtain ⟨t, h⟩ := h
  exact d_glob (v := .str z) hg h ⟨t, rfl⟩ (fun _ => .str z) hd
theorem d_gTup {d : D} (h : ∃ a, X.mg x = some (.ref a) ∧ ∀ F, Rep X.K F (.ref a) d) (hg : Gl X x := by rfl) (hd : (x == ("__debug__" : Str)) = false := by decide) : DX X (.Name x pos) (dC d) := by
  obtain ⟨a, h, r⟩ := h
  exact d_glob (v := .ref a) hg h rfl r hd
end
/-! loops -/
theorem fLoop_inv {g : DTg} {body : DSt} {E : Nd} {ds : List D} {δ : En} (I : Nat → En → Prop) (h0 : I 0 δ)
    (step : ∀ (i : Nat) (d : D) (δ : En) (K : En → Prop), ds[i]? = some d → I i δ → (∀ δ', I (i + 1) δ' → K δ') → g d δ fun δ1 => body { nx := K, rt := E.rt, bk := E.nx, ct := K } δ1)
    (fin : ∀ δ, I ds.length δ → E.nx δ) : fLoop g body E ds δ := by
  have key : ∀ (n : Nat) (i : Nat) (δ : En), n = ds.length - i → i ≤ ds.length → I i δ → fLoop g body E (ds.drop i) δ := by
    intro n
    induction n with
    | zero =>
      intro i δ hn hi h
      have e : i = ds.length := by omega
      subst e
      rw [List.drop_length]
      exact fin δ h
    | succ n ih =>
      intro i δ hn hi h
      have hlt : i < ds.length := by omega
      rw [List.drop_eq_getElem_cons hlt]
      exact step i _ δ _ (List.getElem?_eq_getElem hlt) h fun δ' h' => ih (i + 1) δ' (by omega) hlt h'
  exact key _ 0 δ rfl (Nat.zero_le _) h0
theorem cLoop_inv {g : DTg} {tt : DTb} {te : DT} {vs : List Nat} {ds : List D} {δ : En} {Q : List D → En → Prop} (I : Nat → List D → En → Prop) (h0 : I 0 [] δ)
    (step : ∀ (i : Nat) (d : D) (acc : List D) (δ : En) (K : List D → En → Prop), ds[i]? = some d → I i acc δ → (∀ acc' δ', I (i + 1) acc' δ' → K acc' δ') → g d (wipeD δ vs) fun δ1 => tt δ1 fun b δ2 => match b with
      | true => te δ2 fun y δ3 => acc.length < 16777216 ∧ K (acc ++ [y]) δ3
      | false => K acc δ2)
    (fin : ∀ acc δ, I ds.length acc δ → Q acc δ) : cLoop g tt te vs ds [] δ Q := by
  have key : ∀ (n : Nat) (i : Nat) (acc : List D) (δ : En), n = ds.length - i → i ≤ ds.length → I i acc δ → cLoop g tt te vs (ds.drop i) acc δ Q := by
    intro n
    induction n with
    | zero =>
      intro i acc δ hn hi h
      have e : i = ds.length := by omega
      subst e
      rw [List.drop_length]
      exact fin acc δ h
    | succ n ih =>
      intro i acc δ hn hi h
      have hlt : i < ds.length := by omega
      rw [List.drop_eq_getElem_cons hlt]
      exact step i _ acc δ (fun a δ' => cLoop g tt te vs (ds.drop (i + 1)) a δ' Q) (List.getElem?_eq_getElem hlt) h fun a' δ' h' => ih (i + 1) a' δ' (by omega) hlt h'
  exact key _ 0 [] δ rfl (Nat.zero_le _) h0
theorem backD_same {δ1 δ2 : En} {vs : List Nat} (h : wipeD δ2 vs = wipeD δ1 vs) : backD δ1 δ2 vs = δ1 := by
  have hl : δ2.length = δ1.length := by rw [← wipeD_len δ2 vs, h, wipeD_len]
  refine List.ext_getElem? fun j => ?_
  by_cases hj : j ∈ vs
  · by_cases hlt : j < δ1.length
    · rw [backD_in hj (by rw [hl]; exact hlt), List.getD_eq_getElem?_getD, List.getElem?_eq_getElem hlt]
      rfl
    · rw [List.getElem?_eq_none (by rw [backD_len, hl]; omega), List.getElem?_eq_none (by omega)]
  · rw [backD_out hj, ← wipeD_out hj (δ := δ2), h, wipeD_out hj]
/-- a comprehension whose element is reckoned without a trace -/
theorem cLoop_map {α : Type} {g : DTg} {te : DT} {vs : List Nat} {xs : List α} {enc f : α → D} {δ : En} {Q : List D → En → Prop} (hz : xs.length ≤ 16777216)
    (h : ∀ x ∈ xs, ∀ (K : D → En → Prop), (∀ δ3, wipeD δ3 vs = wipeD δ vs → K (f x) δ3) → g (enc x) (wipeD δ vs) fun δ1 => te δ1 K) (fin : ∀ δ2, wipeD δ2 vs = wipeD δ vs → Q (xs.map f) δ2) : cLoop g bYes te vs (xs.map enc) [] δ Q := by
  refine cLoop_inv (fun i acc δ' => acc = (xs.take i).map f ∧ wipeD δ' vs = wipeD δ vs) ⟨rfl, rfl⟩ (fun i d acc δ' K hd ⟨ha, hw⟩ hK => ?_) (fun acc δ' ⟨ha, hw⟩ => ?_)
  · rw [List.getElem?_map] at hd
    cases e : xs[i]? with
    | none => rw [e] at hd; cases hd
    | some x =>
      rw [e] at hd
      have hd' : enc x = d := Option.some.inj hd
      subst hd'
      have hlt := (List.getElem?_eq_some_iff.mp e).1
      rw [hw]
      refine h x (List.mem_of_getElem? e) _ fun δ3 h3 => ⟨?_, hK _ _ ⟨?_, h3⟩⟩
      · rw [ha, List.length_map, List.length_take]; omega
      · rw [ha, List.take_add_one, e, List.map_append]; rfl
  · rw [List.length_map, List.take_length] at ha
    rw [ha]
    exact fin δ' hw
/-- .. with a test -/
theorem cLoop_filter {α : Type} {g : DTg} {tt : DTb} {te : DT} {vs : List Nat} {xs : List α} {enc f : α → D} {p : α → Bool} {δ : En} {Q : List D → En → Prop} (hz : xs.length ≤ 16777216)
    (h : ∀ x ∈ xs, ∀ (K : Option D → En → Prop), (∀ δ3, wipeD δ3 vs = wipeD δ vs → K (if p x then some (f x) else none) δ3) → g (enc x) (wipeD δ vs) fun δ1 => tt δ1 fun b δ2 => match b with
      | true => te δ2 fun y δ3 => K (some y) δ3
      | false => K none δ2) (fin : ∀ δ2, wipeD δ2 vs = wipeD δ vs → Q ((xs.filter p).map f) δ2) : cLoop g tt te vs (xs.map enc) [] δ Q := by
  refine cLoop_inv (fun i acc δ' => acc = ((xs.take i).filter p).map f ∧ wipeD δ' vs = wipeD δ vs) ⟨rfl, rfl⟩ (fun i d acc δ' K hd ⟨ha, hw⟩ hK => ?_) (fun acc δ' ⟨ha, hw⟩ => ?_)
  · rw [List.getElem?_map] at hd
    cases e : xs[i]? with
    | none => rw [e] at hd; cases hd
    | some x =>
      rw [e] at hd
      have hd' : enc x = d := Option.some.inj hd
      subst hd'
      have hlt := (List.getElem?_eq_some_iff.mp e).1
      have hl : acc.length < 16777216 := by
        have := List.length_filter_le p (xs.take i)
        rw [List.length_take] at this
        rw [ha, List.length_map]; omega
      have et : xs.take (i + 1) = xs.take i ++ [x] := by rw [List.take_add_one, e]; rfl
      rw [hw]
      have hh := h x (List.mem_of_getElem? e) (fun o δ3 => match o with | some y => acc.length < 16777216 ∧ K (acc ++ [y]) δ3 | none => K acc δ3) fun δ3 h3 => by
        cases hp : p x with
        | true => exact ⟨hl, hK _ _ ⟨by rw [ha, et, List.filter_append, List.map_append, List.filter_cons, if_pos hp]; rfl, h3⟩⟩
        | false => exact hK _ _ ⟨by rw [ha, et, List.filter_append, List.map_append, List.filter_cons, if_neg (by rw [hp]; decide)]; simp, h3⟩
      exact hh
  · rw [List.length_map, List.take_length] at ha
    rw [ha]
    exact fin δ' hw
end DL
/-! The data layer: words for reading; typed data. -/
namespace DL
open PySem PySem.Spec L2
open PyProof.Rows hiding St
abbrev ndQ (Q : D → Prop) : Nd := { nx := fun _ => Q .none, rt := fun d _ => Q d }
abbrev ndK (Q : D → Nat → Prop) : Nd := { nx := dkQ Q .none, rt := dkQ Q }
section
variable {Q : D → Prop} {i j : Int} {x y : Str} {a b : Bool} {xs ys : List D} {z : D} {o : Option Int}
theorem gEq_int : gEq (.int i) (.int j) Q = Q (.bool (decide (i = j))) := by simp [gEq, okEq, eqD]
theorem gEq_str : gEq (.str x) (.str y) Q = Q (.bool (decide (x = y))) := by simp [gEq, okEq, eqD]
theorem gEq_bool : gEq (.bool a) (.bool b) Q = Q (.bool (decide (a = b))) := by simp [gEq, okEq, eqD]
theorem gNe_int : gNe (.int i) (.int j) Q = Q (.bool (!decide (i = j))) := by simp [gNe, okEq, eqD]
theorem gNe_str : gNe (.str x) (.str y) Q = Q (.bool (!decide (x = y))) := by simp [gNe, okEq, eqD]
theorem gNe_bool : gNe (.bool a) (.bool b) Q = Q (.bool (!decide (a = b))) := by simp [gNe, okEq, eqD]
theorem gAdd_int : gAdd (.int i) (.int j) Q = Q (.int (i + j)) := rfl
theorem gAdd_str : gAdd (.str x) (.str y) Q = (x.length + y.length ≤ 16777216 ∧ Q (.str (x ++ y))) := rfl
theorem gAdd_tup : gAdd (.tuple xs) (.tuple ys) Q = (xs.length + ys.length ≤ 16777216 ∧ Q (.tuple (xs ++ ys))) := rfl
theorem gAdd_lst : gAdd (.list xs) (.list ys) Q = (xs.length + ys.length ≤ 16777216 ∧ Q (.list (xs ++ ys))) := rfl
theorem gAdd_bi : gAdd (.bool a) (.int j) Q = Q (.int ((if a = true then (1 : Int) else 0) + j)) := rfl
theorem gMul_int : gMul (.int i) (.int j) Q = (CMul i j ∧ Q (.int (i * j))) := rfl
theorem gMul_tup : gMul (.tuple xs) (.int i) Q = ((xs ≠ [] ∧ 2 ≤ i ∧ i ≤ 1000 ∧ xs.length ≤ 1000) ∧ Q (.tuple (repD i xs))) := rfl
theorem gI_int {f : Int → Int → D} : gI f (.int i) (.int j) Q = Q (f i j) := rfl
theorem gIC_int {C : Int → Int → Prop} {f : Int → Int → D} : gIC C f (.int i) (.int j) Q = (C i j ∧ Q (f i j)) := rfl
theorem gIs_non : gIs z .none Q = Q (.bool (isNone z)) := by cases z <;> rfl
theorem gNot_non : gNot z .none Q = Q (.bool (!isNone z)) := by cases z <;> rfl
theorem gNot_bool : gNot (.bool a) (.bool b) Q = Q (.bool (!decide (a = b))) := rfl
theorem gIs_bool : gIs (.bool a) (.bool b) Q = Q (.bool (decide (a = b))) := rfl
theorem gIx_lst : gIx (.list xs) (.int i) Q = ∃ d, atI xs i = some d ∧ Q d := rfl
theorem gIx_tup : gIx (.tuple xs) (.int i) Q = ∃ d, atI xs i = some d ∧ Q d := rfl
theorem gIx_str : gIx (.str x) (.int i) Q = (x.length ≤ 16777216 ∧ ∃ c, atI x.cps.toList i = some c ∧ Q (.str ⟨#[c]⟩)) := rfl
theorem gLen_lst : gLen [.list xs] Q = Q (.int xs.length) := rfl
theorem gLen_tup : gLen [.tuple xs] Q = Q (.int xs.length) := rfl
theorem gLen_str : gLen [.str x] Q = (x.length ≤ 16777216 ∧ Q (.int x.length)) := rfl
theorem gMax_int : gMax2 [.int i, .int j] Q = Q (.int (if j > i then j else i)) := rfl
theorem gMin_int : gMin2 [.int i, .int j] Q = Q (.int (if j < i then j else i)) := rfl
theorem gAll_lst : gAll [.list xs] Q = ∃ bs : List Bool, xs = bs.map .bool ∧ Q (.bool (bs.all id)) := rfl
theorem gAny_lst : gAny [.list xs] Q = ∃ bs : List Bool, xs = bs.map .bool ∧ Q (.bool (bs.any id)) := rfl
theorem gTupOf_lst : gTupOf [.list xs] Q = Q (.tuple xs) := rfl
theorem gTupOf_tup : gTupOf [.tuple xs] Q = Q (.tuple xs) := rfl
theorem gLstOf_lst : gLstOf [.list xs] Q = Q (.list xs) := rfl
theorem gLstOf_tup : gLstOf [.tuple xs] Q = Q (.list xs) := rfl
theorem gInt_int : gInt [.int i] Q = Q (.int i) := rfl
theorem gSum_lst : gSum [.list xs] Q = ∃ ns : List Int, xs = ns.map .int ∧ Q (.int ns.sum) := rfl
theorem gSum_tup : gSum [.tuple xs] Q = ∃ ns : List Int, xs = ns.map .int ∧ Q (.int ns.sum) := rfl
theorem gIdxS_str : gIdxS (.str x) (.str y) Q = ∃ (k : Nat) (rest : List Nat), Builtin.Str.occurrences x y 0 x.length 1 = k :: rest ∧ Q (.int k) := rfl
theorem gJoin_str : gJoin (.str x) (.list xs) Q = ∃ ys : List Str, xs = ys.map .str ∧ (ys.map (·.length)).sum + ys.length * x.length ≤ 16777216 ∧ Q (.str (Txt.join x ys)) := rfl
theorem gCount_str : gCount (.str x) (.str y) Q = Q (.int (Txt.count x y)) := rfl
theorem seqD_lst : seqD (.list xs) = some xs := rfl
theorem seqD_tup : seqD (.tuple xs) = some xs := rfl
theorem seqD_str : seqD (.str x) = some (signs x) := rfl
theorem isNone_non : isNone .none = true := rfl
theorem isNone_int : isNone (.int i) = false := rfl
theorem isNone_tup : isNone (.tuple xs) = false := rfl
theorem isNone_str : isNone (.str x) = false := rfl
theorem isNone_lst : isNone (.list xs) = false := rfl
theorem gSl_tup {lo hi : Option Int} : gSl (.tuple xs) lo hi Q = Q (.tuple (cutD xs lo hi)) := rfl
theorem gSl_lst {lo hi : Option Int} : gSl (.list xs) lo hi Q = Q (.list (cutD xs lo hi)) := rfl
theorem isT_it : isT .int (.int i) = true := rfl
theorem isT_ib : isT .int (.bool a) = true := rfl
theorem isT_in : isT .int .none = false := rfl
theorem isT_is : isT .int (.str x) = false := rfl
theorem isT_il : isT .int (.list xs) = false := rfl
theorem isT_iu : isT .int (.tuple xs) = false := rfl
theorem isT_bi : isT .bool (.int i) = false := rfl
theorem isT_bb : isT .bool (.bool a) = true := rfl
theorem isT_bn : isT .bool .none = false := rfl
theorem isT_bs : isT .bool (.str x) = false := rfl
theorem isT_bl : isT .bool (.list xs) = false := rfl
theorem isT_bu : isT .bool (.tuple xs) = false := rfl
theorem isT_si : isT .str (.int i) = false := rfl
theorem isT_sb : isT .str (.bool a) = false := rfl
theorem isT_sn : isT .str .none = false := rfl
theorem isT_ss : isT .str (.str x) = true := rfl
theorem isT_sl : isT .str (.list xs) = false := rfl
theorem isT_su : isT .str (.tuple xs) = false := rfl
theorem isT_ui : isT .tuple (.int i) = false := rfl
theorem isT_ub : isT .tuple (.bool a) = false := rfl
theorem isT_un : isT .tuple .none = false := rfl
theorem isT_us : isT .tuple (.str x) = false := rfl
theorem isT_ul : isT .tuple (.list xs) = false := rfl
theorem isT_uu : isT .tuple (.tuple xs) = true := rfl
theorem isT_li : isT .list (.int i) = false := rfl
theorem isT_lb : isT .list (.bool a) = false := rfl
theorem isT_ln : isT .list .none = false := rfl
theorem isT_ls : isT .list (.str x) = false := rfl
theorem isT_ll : isT .list (.list xs) = true := rfl
theorem isT_id {ks : List (D × D)} : isT .int (.dict ks) = false := rfl
theorem isT_bd {ks : List (D × D)} : isT .bool (.dict ks) = false := rfl
theorem isT_sd {ks : List (D × D)} : isT .str (.dict ks) = false := rfl
theorem isT_ud {ks : List (D × D)} : isT .tuple (.dict ks) = false := rfl
theorem isT_ld {ks : List (D × D)} : isT .list (.dict ks) = false := rfl
theorem isT_lu : isT .list (.tuple xs) = false := rfl
end
/-- atI at a number within -/
theorem atI_ok {α : Type} {xs : List α} {n : Nat} {x : α} (h : xs[n]? = some x) : atI xs (n : Int) = some x := atI_nat h
theorem atI_m1 {α : Type} {xs : List α} {x : α} : atI (xs ++ [x]) (-1) = some x := atI_last _ _
/-! ### typed data -/
structure Ty {α : Type} [DecidableEq α] (P : α → Prop) (f : α → D) (d : Nat) : Prop where
  lay : ∀ a, P a → (f a).canLay0 = true
  dep : ∀ a, P a → (f a).depth ≤ d
  eq : ∀ a b, P a → P b → PyData.eqv (f a) (f b) = decide (a = b)
section
variable {α β γ : Type} [DecidableEq α] [DecidableEq β] [DecidableEq γ] {P : α → Prop} {P2 : β → Prop} {P3 : γ → Prop} {f : α → D} {g : β → D} {k : γ → D} {m n l : Nat}
def all1 : α → Prop := fun _ => True
theorem ty_int : Ty (α := Int) (fun _ => True) PyData.int 0 := ⟨fun _ _ => rfl, fun _ _ => Nat.le_refl _, fun a b _ _ => by
  show (a == b) = _
  by_cases h : a = b <;> simp [h]⟩
theorem ty_nat : Ty (α := Nat) (fun _ => True) (fun n => PyData.int n) 0 := ⟨fun _ _ => rfl, fun _ _ => Nat.le_refl _, fun a b _ _ => by
  show ((a : Int) == (b : Int)) = _
  by_cases h : a = b
  · simp [h]
  · have : ¬ (a : Int) = b := by omega
    rw [decide_eq_false h]
    exact beq_false_of_ne this⟩
theorem ty_bool : Ty (α := Bool) (fun _ => True) PyData.bool 0 := ⟨fun _ _ => rfl, fun _ _ => Nat.le_refl _, fun a b _ _ => by cases a <;> cases b <;> rfl⟩
theorem ty_str : Ty (α := Str) (fun x => PyData.strOk x = true) PyData.str 0 := ⟨fun _ h => h, fun _ _ => Nat.le_refl _, fun a b _ _ => by
  show (a == b) = _
  by_cases h : a = b <;> simp [h]⟩
theorem Ty.pair (h1 : Ty P f m) (h2 : Ty P2 g n) : Ty (α := α × β) (fun p => P p.1 ∧ P2 p.2) (fun p => .tuple [f p.1, g p.2]) (max m n + 1) := by
  refine ⟨fun a h => ?_, fun a h => ?_, fun a b h k => ?_⟩
  · simp only [PyData.canLay0, PyData.canLayAll0, h1.lay _ h.1, h2.lay _ h.2, Bool.and_self, Bool.and_true]
  · have := h1.dep _ h.1
    have := h2.dep _ h.2
    simp only [PyData.depth, PyData.depthAll]
    omega
  · simp only [PyData.eqv, PyData.eqvAll, h1.eq _ _ h.1 k.1, h2.eq _ _ h.2 k.2, Bool.and_true]
    rw [← Bool.decide_and]
    exact decide_eq_decide.mpr ⟨fun e => Prod.ext e.1 e.2, fun e => by rw [e]; exact ⟨rfl, rfl⟩⟩
theorem Ty.trip (h1 : Ty P f m) (h2 : Ty P2 g n) (h3 : Ty P3 k l) : Ty (α := α × β × γ) (fun p => P p.1 ∧ P2 p.2.1 ∧ P3 p.2.2) (fun p => .tuple [f p.1, g p.2.1, k p.2.2]) (max m (max n l) + 1) := by
  refine ⟨fun a h => ?_, fun a h => ?_, fun a b h q => ?_⟩
  · simp only [PyData.canLay0, PyData.canLayAll0, h1.lay _ h.1, h2.lay _ h.2.1, h3.lay _ h.2.2, Bool.and_self, Bool.and_true]
  · have := h1.dep _ h.1
    have := h2.dep _ h.2.1
    have := h3.dep _ h.2.2
    simp only [PyData.depth, PyData.depthAll]
    omega
  · simp only [PyData.eqv, PyData.eqvAll, h1.eq _ _ h.1 q.1, h2.eq _ _ h.2.1 q.2.1, h3.eq _ _ h.2.2 q.2.2, Bool.and_true]
    rw [← Bool.decide_and, ← Bool.decide_and]
    exact decide_eq_decide.mpr ⟨fun e => Prod.ext e.1 (Prod.ext e.2.1 e.2.2), fun e => by rw [e]; exact ⟨rfl, rfl, rfl⟩⟩
theorem eqvAll_map (h1 : Ty P f m) : ∀ (a b : List α), (∀ x ∈ a, P x) → (∀ x ∈ b, P x) → PyData.eqvAll (a.map f) (b.map f) = decide (a = b)
  | [], [], _, _ => rfl
  | [], _ :: _, _, _ => rfl
  | _ :: _, [], _, _ => rfl
  | x :: a, y :: b, ha, hb => by
    simp only [List.map_cons, PyData.eqvAll, h1.eq _ _ (ha _ List.mem_cons_self) (hb _ List.mem_cons_self), eqvAll_map h1 a b (fun z hz => ha z (List.mem_cons_of_mem _ hz)) (fun z hz => hb z (List.mem_cons_of_mem _ hz))]
    rw [← Bool.decide_and]
    exact decide_eq_decide.mpr ⟨fun e => by rw [e.1, e.2], fun e => by injection e with e1 e2; exact ⟨e1, e2⟩⟩
theorem layAll_map (h1 : Ty P f m) : ∀ (a : List α), (∀ x ∈ a, P x) → PyData.canLayAll0 (a.map f) = true
  | [], _ => rfl
  | x :: a, ha => by simp only [List.map_cons, PyData.canLayAll0, h1.lay _ (ha _ List.mem_cons_self), layAll_map h1 a (fun z hz => ha z (List.mem_cons_of_mem _ hz)), Bool.and_self]
theorem depAll_map (h1 : Ty P f m) : ∀ (a : List α), (∀ x ∈ a, P x) → PyData.depthAll (a.map f) ≤ m
  | [], _ => Nat.zero_le _
  | x :: a, ha => by
    simp only [List.map_cons, PyData.depthAll]
    have := h1.dep _ (ha _ List.mem_cons_self)
    have := depAll_map h1 a (fun z hz => ha z (List.mem_cons_of_mem _ hz))
    omega
theorem Ty.lst (h1 : Ty P f m) : Ty (α := List α) (fun l => ∀ x ∈ l, P x) (fun l => .list (l.map f)) (m + 1) :=
  ⟨fun a h => layAll_map h1 a h, fun a h => Nat.succ_le_succ (depAll_map h1 a h), fun a b h k => eqvAll_map h1 a b h k⟩
theorem Ty.tup (h1 : Ty P f m) : Ty (α := List α) (fun l => ∀ x ∈ l, P x) (fun l => .tuple (l.map f)) (m + 1) :=
  ⟨fun a h => layAll_map h1 a h, fun a h => Nat.succ_le_succ (depAll_map h1 a h), fun a b h k => eqvAll_map h1 a b h k⟩
theorem Ty.shaped (h : Ty P f m) (hm : m ≤ 64) {a : α} (ha : P a) : SeqAt.shaped (f a) = true := by
  unfold SeqAt.shaped
  rw [h.lay a ha, decide_eq_true (Nat.le_trans (h.dep a ha) hm)]
  rfl
theorem okEq_of {x y : D} (h1 : SeqAt.shaped x = true) (h2 : SeqAt.shaped y = true) : okEq x y := by
  cases x <;> cases y <;> first | trivial | exact ⟨h1, h2⟩
theorem eqD_eq (x y : D) : eqD x y = PyData.eqv x y := by
  cases x <;> cases y <;> first | rfl | (simp only [eqD, PyData.eqv]; rename_i a b; by_cases h : a = b <;> simp [h])
theorem Ty.gEq (h : Ty P f m) (hm : m ≤ 64) {a b : α} (ha : P a) (hb : P b) {Q : D → Prop} (q : Q (.bool (decide (a = b)))) : gEq (f a) (f b) Q :=
  ⟨okEq_of (h.shaped hm ha) (h.shaped hm hb), by rw [eqD_eq, h.eq a b ha hb]; exact q⟩
theorem Ty.gNe (h : Ty P f m) (hm : m ≤ 64) {a b : α} (ha : P a) (hb : P b) {Q : D → Prop} (q : Q (.bool (!decide (a = b)))) : gNe (f a) (f b) Q :=
  ⟨okEq_of (h.shaped hm ha) (h.shaped hm hb), by rw [eqD_eq, h.eq a b ha hb]; exact q⟩
theorem Ty.inD (h : Ty P f m) {a : α} (ha : P a) : ∀ {l : List α}, (∀ x ∈ l, P x) → inD (f a) (l.map f) = decide (a ∈ l)
  | [], _ => by simp [DL.inD]
  | x :: l, hl => by
    have ih := Ty.inD h ha (l := l) fun z hz => hl z (List.mem_cons_of_mem _ hz)
    unfold DL.inD at ih ⊢
    rw [List.map_cons, List.any_cons, ih, h.eq _ _ (hl _ List.mem_cons_self) ha, ← Bool.decide_or]
    exact decide_eq_decide.mpr (by rw [List.mem_cons]; exact or_congr ⟨fun e => e.symm, fun e => e.symm⟩ Iff.rfl)
theorem Ty.okIn (h : Ty P f m) (hm : m < 64) {a : α} (ha : P a) {l : List α} (hl : ∀ x ∈ l, P x) : okIn (f a) (l.map f) :=
  ⟨h.shaped (Nat.le_of_lt hm) ha, (Ty.lst h).shaped hm hl⟩
end
/-- the law's own start -/
theorem law_start {K : PySem.W.Frag} {H : Hp} {a : Addr} {ns : List Int} {sp : DSp} (hS : SqL K H a (ns.map V.int)) (hl : ns.length ≤ 63) (h : ∀ (ns : List Int) (Q : D → Prop), ns.length ≤ 63 → Q (.bool true) → sp [.list (ns.map .int)] Q) :
    lift K sp [.ref a] H (fun v _ => v = .bl true) fun _ _ _ => False :=
  ⟨H, [.list (ns.map .int)], fun d => d = .bool true, Ex.refl H, .cons (.lst hS (RepL.of_ints ns)) .nil, h ns _ hl rfl, fun F' v H' d _ _ _ rv hd => by subst hd; cases rv; rfl⟩
end DL
namespace DL
open PySem PySem.Spec L2
open PyProof.Rows hiding St
theorem bIf {b : Bool} {A B : Prop} (h1 : b = true → A) (h2 : b = false → B) : (match (generalizing := false) b with | true => A | false => B) := by
  cases b with
  | true => exact h1 rfl
  | false => exact h2 rfl
theorem bNf {b : Bool} {A B : Prop} (h1 : b = false → A) (h2 : b = true → B) : (match (generalizing := false) !b with | true => A | false => B) := by
  cases b with
  | true => exact h2 rfl
  | false => exact h1 rfl
theorem repD_ints (m c : Int) : repD m [.int c] = (List.replicate m.toNat c).map .int := by
  unfold repD
  induction m.toNat with
  | zero => rfl
  | succ n ih => rw [List.replicate_succ, List.flatten_cons, ih, List.replicate_succ]; rfl
theorem cell_at (ns : List Int) (m : Int) (k : Nat) (h : k < m.toNat) : ∃ c : Int, L2.atI (ns.map PyData.int ++ repD m [.int 0]) (k : Int) = some (.int c) := by
  rw [repD_ints, ← List.map_append]
  have hl : k < (ns ++ List.replicate m.toNat (0 : Int)).length := by rw [List.length_append, List.length_replicate]; omega
  exact ⟨_, atI_ok (by rw [List.getElem?_map, List.getElem?_eq_getElem hl]; rfl)⟩
theorem repD_len (m : Int) (xs : List D) : (repD m xs).length = m.toNat * xs.length := by
  unfold repD
  induction m.toNat with
  | zero => simp
  | succ n ih => rw [List.replicate_succ, List.flatten_cons, List.length_append, ih, Nat.succ_mul]; omega
theorem ty_ints : Ty (α := List Int) (fun l => ∀ x ∈ l, (fun _ => True) x) (fun l => .tuple (l.map PyData.int)) 1 := Ty.tup ty_int
theorem rng_at {lo : Int} {n i : Nat} {d : D} (h : (rngD lo n)[i]? = some d) : i < n ∧ d = .int (lo + i) := by
  have hlt : i < n := by
    have := (List.getElem?_eq_some_iff.mp h).1
    rw [rngD_len] at this; exact this
  rw [rngD_get lo n i hlt] at h
  exact ⟨hlt, (Option.some.inj h).symm⟩
theorem cutD_take {α : Type} (xs : List α) (k : Nat) : cutD xs none (some (k : Int)) = xs.take k := by
  unfold cutD
  rw [HT.sIx_none, show HT.sIx xs.length xs.length (some (k : Int)) = min k xs.length from HT.sIx_nat xs.length xs.length k]
  rw [List.drop_zero, Nat.sub_zero]
  by_cases h : k ≤ xs.length
  · rw [Nat.min_eq_left h]
  · rw [Nat.min_eq_right (by omega), List.take_length, List.take_of_length_le (by omega)]
theorem cutD_drop {α : Type} (xs : List α) (k : Nat) : cutD xs (some (k : Int)) none = xs.drop k := by
  unfold cutD
  rw [HT.sIx_none, show HT.sIx xs.length 0 (some (k : Int)) = min k xs.length from HT.sIx_nat xs.length 0 k]
  by_cases h : k ≤ xs.length
  · rw [Nat.min_eq_left h, List.take_of_length_le (by rw [List.length_drop]; omega)]
  · rw [Nat.min_eq_right (by omega), List.drop_length, List.drop_eq_nil_of_le (by omega), List.take_nil]
/-- a comprehension, back in the block's own words -/
theorem cB_map {α : Type} {g : DTg} {te : DT} {vs : List Nat} {xs : List α} {enc f : α → D} {δ : En} {Q : List D → En → Prop} (hz : xs.length ≤ 16777216)
    (h : ∀ x ∈ xs, ∀ (K : D → En → Prop), (∀ δ3, wipeD δ3 vs = wipeD δ vs → K (f x) δ3) → g (enc x) (wipeD δ vs) fun δ1 => te δ1 K) (fin : Q (xs.map f) δ) : cLoopB g bYes te vs (xs.map enc) δ Q :=
  cLoop_map hz h fun δ2 h2 => by rw [backD_same h2]; exact fin
theorem cB_filter {α : Type} {g : DTg} {tt : DTb} {te : DT} {vs : List Nat} {xs : List α} {enc f : α → D} {p : α → Bool} {δ : En} {Q : List D → En → Prop} (hz : xs.length ≤ 16777216)
    (h : ∀ x ∈ xs, ∀ (K : Option D → En → Prop), (∀ δ3, wipeD δ3 vs = wipeD δ vs → K (if p x then some (f x) else none) δ3) → g (enc x) (wipeD δ vs) fun δ1 => tt δ1 fun b δ2 => match b with
      | true => te δ2 fun y δ3 => K (some y) δ3
      | false => K none δ2) (fin : Q ((xs.filter p).map f) δ) : cLoopB g tt te vs (xs.map enc) δ Q :=
  cLoop_filter hz h fun δ2 h2 => by rw [backD_same h2]; exact fin
/-- a list of ones, one for each that passes -/
theorem cB_ones {α : Type} {g : DTg} {tt : DTb} {vs : List Nat} {xs : List α} {enc : α → D} {p : α → Bool} {δ : En} {Q : List D → En → Prop} (hz : xs.length ≤ 16777216)
    (h : ∀ x ∈ xs, ∀ (K : Bool → En → Prop), (∀ δ3, wipeD δ3 vs = wipeD δ vs → K (p x) δ3) → g (enc x) (wipeD δ vs) fun δ1 => tt δ1 K) (fin : Q ((xs.filter p).map fun _ => .int 1) δ) : cLoopB g tt (dC (.int 1)) vs (xs.map enc) δ Q := by
  refine cB_filter hz (fun x hx K hK => h x hx _ fun δ3 h3 => ?_) fin
  have := hK δ3 h3
  cases hp : p x with
  | true => rw [hp] at this; exact this
  | false => rw [hp] at this; exact this
theorem ones_dec {α : Type} {xs : List α} {p : α → Bool} : decide ((xs.filter p).map (fun _ => (1 : Int)) = []) = xs.all fun x => !p x := by
  rw [Bool.eq_iff_iff]
  simp [List.filter_eq_nil_iff]
theorem ones_eq {α : Type} {xs : List α} {p : α → Bool} {Q : D → Prop} (q : Q (.bool (xs.all fun x => !p x))) : gEq (.list ((xs.filter p).map fun _ => .int 1)) (.list []) Q := by
  have e : (xs.filter p).map (fun _ => PyData.int 1) = ((xs.filter p).map fun _ => (1 : Int)).map .int := by rw [List.map_map]; rfl
  rw [e]
  refine (Ty.lst ty_int).gEq (b := []) (by decide) (fun _ _ => trivial) (fun _ _ => trivial) ?_
  rw [ones_dec]
  exact q
theorem ones_ne {α : Type} {xs : List α} {p : α → Bool} {Q : D → Prop} (q : Q (.bool (!xs.all fun x => !p x))) : gNe (.list ((xs.filter p).map fun _ => .int 1)) (.list []) Q := by
  have e : (xs.filter p).map (fun _ => PyData.int 1) = ((xs.filter p).map fun _ => (1 : Int)).map .int := by rw [List.map_map]; rfl
  rw [e]
  refine (Ty.lst ty_int).gNe (b := []) (by decide) (fun _ _ => trivial) (fun _ _ => trivial) ?_
  rw [ones_dec]
  exact q
theorem cB_mapD {g : DTg} {te : DT} {vs : List Nat} {xs : List D} {f : D → D} {δ : En} {Q : List D → En → Prop} (hz : xs.length ≤ 16777216)
    (h : ∀ x ∈ xs, ∀ (K : D → En → Prop), (∀ δ3, wipeD δ3 vs = wipeD δ vs → K (f x) δ3) → g x (wipeD δ vs) fun δ1 => te δ1 K) (fin : Q (xs.map f) δ) : cLoopB g bYes te vs xs δ Q := by
  have := cB_map (xs := xs) (enc := id) (f := f) (g := g) (te := te) (vs := vs) (δ := δ) (Q := Q) hz h fin
  rwa [List.map_id] at this
theorem cB_onesD {g : DTg} {tt : DTb} {vs : List Nat} {xs : List D} {p : D → Bool} {δ : En} {Q : List D → En → Prop} (hz : xs.length ≤ 16777216)
    (h : ∀ x ∈ xs, ∀ (K : Bool → En → Prop), (∀ δ3, wipeD δ3 vs = wipeD δ vs → K (p x) δ3) → g x (wipeD δ vs) fun δ1 => tt δ1 K) (fin : Q ((xs.filter p).map fun _ => .int 1) δ) : cLoopB g tt (dC (.int 1)) vs xs δ Q := by
  have := cB_ones (xs := xs) (enc := id) (p := p) (g := g) (tt := tt) (vs := vs) (δ := δ) (Q := Q) hz h fin
  rwa [List.map_id] at this
theorem cB_inv {g : DTg} {tt : DTb} {te : DT} {vs : List Nat} {ds : List D} {δ : En} {Q : List D → En → Prop} (I : Nat → List D → En → Prop) (h0 : I 0 [] δ)
    (step : ∀ (i : Nat) (d : D) (acc : List D) (δ : En) (K : List D → En → Prop), ds[i]? = some d → I i acc δ → (∀ acc' δ', I (i + 1) acc' δ' → K acc' δ') → g d (wipeD δ vs) fun δ1 => tt δ1 fun b δ2 => match b with
      | true => te δ2 fun y δ3 => acc.length < 16777216 ∧ K (acc ++ [y]) δ3
      | false => K acc δ2)
    (fin : ∀ acc δ', I ds.length acc δ' → Q acc (backD δ δ' vs)) : cLoopB g tt te vs ds δ Q := cLoop_inv I h0 step fin
/-- a statement, then the rest, the rest told once -/
def sCut (t u : DSt) : DSt := sSeq t u
theorem seq_cut {t u : DSt} {E : Nd} {δ : En} (J : En → Prop) (hu : ∀ δ', J δ' → u E δ') (h : ∀ M : En → Prop, (∀ δ', J δ' → M δ') → t { E with nx := M } δ) : sCut t u E δ := h _ hu
end DL
/-! Rules, plays, states: the plain words, and what the defs over them ask and give. -/
namespace SpA
open PySem PySem.Spec L2 DL
open PyProof.Rows hiding St
local macro_rules | `(tactic| walk_at "dl") => `(tactic| simp only [sNext, sSeq, sExpr, sRet, sIf, sNever, sBreak, sCont, gN, gsNil, gsCons, gTp, sAsg, sAug, sSetO, fzS, sFz, sApp, sFor, dVar, dC, dOp, dTst, dChain, bAnd, bOr, bNot, dAnd, dOr, dNot, dIf, dNil, dCons, dTup, dLst, dCall, dIsi, dNeg, dM1, isStr, dSl, oNone, oSome, dFz, dRepO, dLc, bYes, dIt, dR1, dR2, dEnum, dZip, dCallK, sSetK, sPar2, sPar3, DL.gSub, gMod, gDiv, gPow, gLt, gLe, gGt, gGe, start0, start1, dkQ, noOwn, wipeD, gEq_int, gEq_str, gEq_bool, gNe_int, gNe_str, gNe_bool, gAdd_int, gAdd_str, gAdd_tup, gAdd_lst, gAdd_bi, gMul_int, gMul_tup, gI_int, gIC_int, gIs_non, gNot_non, gIs_bool, gNot_bool, gIx_lst, gIx_tup, gIx_str, gLen_lst, gLen_tup, gLen_str, gMax_int, gMin_int, gAll_lst, gAny_lst, gTupOf_lst, gTupOf_tup, gLstOf_lst, gLstOf_tup, gInt_int, gSum_lst, gSum_tup, gIdxS_str, gJoin_str, gCount_str, seqD_lst, seqD_tup, seqD_str, isNone_non, isNone_int, isNone_tup, isNone_str, isNone_lst, gSl_tup, gSl_lst, isT_it, isT_ib, isT_in, isT_is, isT_il, isT_iu, isT_bi, isT_bb, isT_bn, isT_bs, isT_bl, isT_bu, isT_si, isT_sb, isT_sn, isT_ss, isT_sl, isT_su, isT_ui, isT_ub, isT_un, isT_us, isT_ul, isT_uu, isT_li, isT_lb, isT_ln, isT_ls, isT_ll, isT_id, isT_bd, isT_sd, isT_ud, isT_ld, isT_lu, Sl.own, Sl.isLd, List.map_cons, List.map_nil, List.length_cons, List.length_nil, List.replicate_succ, List.replicate_zero, List.cons_append, List.nil_append, List.append_nil, List.getElem?_cons_zero, List.getElem?_cons_succ, List.set_cons_zero, List.set_cons_succ, List.getD_cons_zero, List.getD_cons_succ, List.all_cons, List.all_nil, Nat.reduceAdd, Nat.reduceSub, Nat.reduceLeDiff, Nat.reduceLT, Bool.not_false, Bool.not_true, Bool.and_true, Bool.true_and, Bool.and_self, and_true, true_and, reduceCtorEq])
local macro_rules | `(tactic| walk_at "dlb") => `(tactic| simp only [backD, sNext, sSeq, sExpr, sRet, sIf, sNever, sBreak, sCont, gN, gsNil, gsCons, gTp, sAsg, sAug, sSetO, fzS, sFz, sApp, sFor, dVar, dC, dOp, dTst, dChain, bAnd, bOr, bNot, dAnd, dOr, dNot, dIf, dNil, dCons, dTup, dLst, dCall, dIsi, dNeg, dM1, isStr, dSl, oNone, oSome, dFz, dRepO, dLc, bYes, dIt, dR1, dR2, dEnum, dZip, dCallK, sSetK, sPar2, sPar3, DL.gSub, gMod, gDiv, gPow, gLt, gLe, gGt, gGe, start0, start1, dkQ, noOwn, wipeD, gEq_int, gEq_str, gEq_bool, gNe_int, gNe_str, gNe_bool, gAdd_int, gAdd_str, gAdd_tup, gAdd_lst, gAdd_bi, gMul_int, gMul_tup, gI_int, gIC_int, gIs_non, gNot_non, gIs_bool, gNot_bool, gIx_lst, gIx_tup, gIx_str, gLen_lst, gLen_tup, gLen_str, gMax_int, gMin_int, gAll_lst, gAny_lst, gTupOf_lst, gTupOf_tup, gLstOf_lst, gLstOf_tup, gInt_int, gSum_lst, gSum_tup, gIdxS_str, gJoin_str, gCount_str, seqD_lst, seqD_tup, seqD_str, isNone_non, isNone_int, isNone_tup, isNone_str, isNone_lst, gSl_tup, gSl_lst, isT_it, isT_ib, isT_in, isT_is, isT_il, isT_iu, isT_bi, isT_bb, isT_bn, isT_bs, isT_bl, isT_bu, isT_si, isT_sb, isT_sn, isT_ss, isT_sl, isT_su, isT_ui, isT_ub, isT_un, isT_us, isT_ul, isT_uu, isT_li, isT_lb, isT_ln, isT_ls, isT_ll, isT_id, isT_bd, isT_sd, isT_ud, isT_ld, isT_lu, Sl.own, Sl.isLd, List.map_cons, List.map_nil, List.length_cons, List.length_nil, List.replicate_succ, List.replicate_zero, List.cons_append, List.nil_append, List.append_nil, List.getElem?_cons_zero, List.getElem?_cons_succ, List.set_cons_zero, List.set_cons_succ, List.getD_cons_zero, List.getD_cons_succ, List.all_cons, List.all_nil, Nat.reduceAdd, Nat.reduceSub, Nat.reduceLeDiff, Nat.reduceLT, Bool.not_false, Bool.not_true, Bool.and_true, Bool.true_and, Bool.and_self, and_true, true_and, reduceCtorEq])
/-! ### data of small size -/
mutual
def sml : D → Bool
  | .str z => decide (z.length ≤ 16777216)
  | .list ds => decide (ds.length ≤ 16777216) && smls ds
  | .tuple ds => decide (ds.length ≤ 16777216) && smls ds
  | _ => true
def smls : List D → Bool
  | [] => true
  | d :: ds => sml d && smls ds
end
theorem smls_mem : ∀ {ds : List D}, smls ds = true → ∀ d ∈ ds, sml d = true
  | [], _, d, h => by cases h
  | e :: ds, h, d, hd => by
    simp only [smls, Bool.and_eq_true] at h
    rcases List.mem_cons.mp hd with rfl | hd
    · exact h.1
    · exact smls_mem h.2 d hd
/-! ### checks -/
def isFrom (lo hi : Int) : D → Bool
  | .int i => decide (lo ≤ i) && decide (i ≤ hi)
  | _ => false
def areFrom (lo hi : Int) : D → Bool
  | .tuple ds => ds.all (isFrom lo hi)
  | _ => false
def isRow (d : D) : Bool := match d with
  | .tuple ds => ds.all (isFrom (-20) 20) && decide (ds.length = 3)
  | _ => false
def isRule (d : D) : Bool := match d with
  | .tuple [.tuple st, dr, .bool _, .tuple pt] => st.all (isFrom 1 3) && decide (st.length ≤ 3) && isFrom 0 3 dr && decide (pt.length = st.length + 1) && pt.all isRow
  | _ => false
def sp_is_from : DSp := fun ds Q => ∃ v lo hi, ds = [v, .int lo, .int hi] ∧ Q (.bool (isFrom lo hi v))
def sp_are_from : DSp := fun ds Q => ∃ v lo hi, ds = [v, .int lo, .int hi] ∧ sml v = true ∧ Q (.bool (areFrom lo hi v))
def sp_is_rule_of : DSp := fun ds Q => ∃ v, ds = [v] ∧ sml v = true ∧ Q (.bool (isRule v))
theorem len_is_from (ds : List D) (Q : D → Prop) : sp_is_from ds Q → ds.length = 3 := by rintro ⟨v, lo, hi, rfl, _⟩; rfl
theorem len_are_from (ds : List D) (Q : D → Prop) : sp_are_from ds Q → ds.length = 3 := by rintro ⟨v, lo, hi, rfl, _⟩; rfl
theorem len_is_rule_of (ds : List D) (Q : D → Prop) : sp_is_rule_of ds Q → ds.length = 1 := by rintro ⟨v, rfl, _⟩; rfl
/-- is_from: 0 value, 1 low, 2 high -/
def t_is_from : DSt := (sRet (dAnd (dIsi .int (dVar 0)) (dAnd (dNot (dIsi .bool (dVar 0))) (dChain gLe gLe (dVar 1) (dVar 0) (dVar 2)))))
/-- are_from: 0 value, 1 low, 2 high, 3 one -/
def t_are_from : DSt := (sRet (dAnd (dIsi .tuple (dVar 0)) (dCall gAll (dCons (dFz (dLc (dIt (dVar 0)) (gN 3) bYes (dCall sp_is_from (dCons (dVar 3) (dCons (dVar 1) (dCons (dVar 2) dNil)))) [3])) dNil))))
/-- is_rule_of: 0 value, 1 steps, 2 drop, 3 strict, 4 points, 5 row -/
def t_is_rule_of : DSt := (sSeq (sIf (bOr (bNot (dTst (dIsi .tuple (dVar 0)))) (dTst (dOp gNe (dCall gLen (dCons (dVar 0) dNil)) (dC (.int 4))))) (sRet (dC (.bool false))) sNext)
    (sSeq (sAsg (dVar 0) (gTp 4 (gsCons (gN 1) (gsCons (gN 2) (gsCons (gN 3) (gsCons (gN 4) gsNil))))))
    (sSeq (sIf (bOr (bNot (dTst (dCall sp_are_from (dCons (dVar 1) (dCons (dC (.int 1)) (dCons (dC (.int 3)) dNil)))))) (bOr (dTst (dOp gGt (dCall gLen (dCons (dVar 1) dNil)) (dC (.int 3)))) (bNot (dTst (dCall sp_is_from (dCons (dVar 2) (dCons (dC (.int 0)) (dCons (dC (.int 3)) dNil)))))))) (sRet (dC (.bool false))) sNext)
    (sSeq (sIf (bOr (bNot (dTst (dIsi .bool (dVar 3)))) (bOr (bNot (dTst (dIsi .tuple (dVar 4)))) (dTst (dOp gNe (dCall gLen (dCons (dVar 4) dNil)) (dOp gAdd (dCall gLen (dCons (dVar 1) dNil)) (dC (.int 1))))))) (sRet (dC (.bool false))) sNext)
    (sRet (dCall gAll (dCons (dFz (dLc (dIt (dVar 4)) (gN 5) bYes (dAnd (dCall sp_are_from (dCons (dVar 5) (dCons (dOp gSub (dC (.int 0)) (dC (.int 20))) (dCons (dC (.int 20)) dNil)))) (dOp gEq (dCall gLen (dCons (dVar 5) dNil)) (dC (.int 3)))) [5])) dNil)))))))
theorem rd_is_from (ds : List D) (Q : D → Prop) (h : sp_is_from ds Q) : t_is_from (ndQ Q) (start0 3 ds) := by
  obtain ⟨v, lo, hi, rfl, q⟩ := h
  unfold t_is_from
  walk_at "dl"
  cases v <;> walk_at "dl" <;> try exact q
  rename_i i
  refine bIf (fun e => ?_) fun e => ?_ <;> simp only [isFrom, e, Bool.true_and, Bool.false_and] at q <;> exact q
theorem rd_are_from (ds : List D) (Q : D → Prop) (h : sp_are_from ds Q) : t_are_from (ndQ Q) (start0 4 ds) := by
  obtain ⟨v, lo, hi, rfl, hs, q⟩ := h
  unfold t_are_from
  walk_at "dl"
  cases v <;> walk_at "dl" <;> try exact q
  rename_i ds
  simp only [sml, Bool.and_eq_true, decide_eq_true_eq] at hs
  refine cB_mapD (f := fun x => .bool (isFrom lo hi x)) hs.1 (fun x hx K hK => ?_) ?_
  · walk_at "dl"
    exact ⟨x, lo, hi, rfl, hK _ rfl⟩
  · refine ⟨ds.map (isFrom lo hi), by rw [List.map_map]; rfl, ?_⟩
    rw [List.all_map]
    exact q
theorem rd_is_rule_of (ds : List D) (Q : D → Prop) (h : sp_is_rule_of ds Q) : t_is_rule_of (ndQ Q) (start0 6 ds) := by
  obtain ⟨v, rfl, hs, q⟩ := h
  unfold t_is_rule_of
  walk_at "dl"
  cases v <;> walk_at "dl" <;> try exact q
  rename_i ds
  refine bNf (fun e => ?_) fun e => ?_
  · have : isRule (.tuple ds) = false := by
      unfold isRule
      split
      · rename_i h
        injection h with h
        subst h
        simp at e
      · rfl
    rw [this] at q
    exact q
  · have e' : ds.length = 4 := by
      have := of_decide_eq_true e
      omega
    obtain ⟨st, dr, sc, pt, rfl⟩ : ∃ a b c d, ds = [a, b, c, d] := by
      match ds, e' with
      | [a, b, c, d], _ => exact ⟨a, b, c, d, rfl⟩
    walk_at "dl"
    simp only [sml, smls, Bool.and_eq_true, decide_eq_true_eq] at hs
    refine ⟨st, 1, 3, rfl, hs.2.1, bNf (fun e1 => ?_) fun e1 => ?_⟩
    · have : isRule (.tuple [st, dr, sc, pt]) = false := by
        cases st <;> first | rfl | skip
        cases sc <;> first | rfl | skip
        cases pt <;> first | rfl | skip
        simp only [areFrom] at e1
        simp only [isRule, e1, Bool.false_and]
      rw [this] at q
      exact q
    · cases st <;> simp only [areFrom, reduceCtorEq] at e1
      rename_i st
      walk_at "dl"
      refine bIf (fun e2 => ?_) fun e2 => ?_
      · have : isRule (.tuple [.tuple st, dr, sc, pt]) = false := by
          cases sc <;> first | rfl | skip
          cases pt <;> first | rfl | skip
          have := of_decide_eq_true e2
          simp only [isRule, show decide (st.length ≤ 3) = false from decide_eq_false (by omega), Bool.false_and, Bool.and_false]
        rw [this] at q
        exact q
      · have e2 : st.length ≤ 3 := by
          have := of_decide_eq_false e2
          omega
        refine ⟨dr, 0, 3, rfl, bNf (fun e3 => ?_) fun e3 => ?_⟩
        · have : isRule (.tuple [.tuple st, dr, sc, pt]) = false := by
            cases sc <;> first | rfl | skip
            cases pt <;> first | rfl | skip
            simp only [isRule, e3, Bool.false_and, Bool.and_false]
          rw [this] at q
          exact q
        · cases sc <;> walk_at "dl" <;> try exact q
          cases pt <;> walk_at "dl" <;> try exact q
          rename_i sc pt
          refine bNf (fun e4 => ?_) fun e4 => ?_
          · have : isRule (.tuple [.tuple st, dr, .bool sc, .tuple pt]) = false := by
              have := of_decide_eq_false e4
              simp only [isRule, show decide (pt.length = st.length + 1) = false from decide_eq_false (by omega), Bool.false_and, Bool.and_false]
            rw [this] at q
            exact q
          · have e4 : pt.length = st.length + 1 := by
              have := of_decide_eq_true e4
              omega
            have hp := hs.2.2.2.2.1
            simp only [sml, Bool.and_eq_true, decide_eq_true_eq] at hp
            refine cB_mapD (f := fun x => .bool (isRow x)) hp.1 (fun x hx K hK => ?_) ?_
            · walk_at "dl"
              have hx2 := smls_mem hp.2 x hx
              refine ⟨x, _, _, rfl, hx2, ?_⟩
              have hr : areFrom (0 - 20) 20 x = areFrom (-20) 20 x := rfl
              rw [hr]
              cases x <;> simp only [areFrom] <;> try exact hK _ rfl
              rename_i ys
              have hy : isRow (.tuple ys) = (ys.all (isFrom (-20) 20) && decide (ys.length = 3)) := rfl
              rw [hy] at hK
              cases ha : ys.all (isFrom (-20) 20) with
              | false =>
                rw [ha] at hK
                exact hK _ rfl
              | true =>
                simp only [ha, Bool.true_and] at hK
                walk_at "dl"
                rw [show decide ((ys.length : Int) = 3) = decide (ys.length = 3) from decide_eq_decide.mpr (by omega)]
                exact hK _ rfl
            · refine ⟨pt.map isRow, by rw [List.map_map]; rfl, ?_⟩
              rw [List.all_map]
              have : isRule (.tuple [.tuple st, dr, .bool sc, .tuple pt]) = pt.all isRow := by
                simp only [isRule, e1, e2, e3, e4, decide_true, Bool.true_and]
              rw [this] at q
              exact q
/-! ### rules, notes, states -/
structure Rule where
  st : List Nat
  dr : Nat
  sc : Bool
  pt : List (Int × Int × Int)
  deriving DecidableEq
inductive Nt where
  | g | m | p
  deriving DecidableEq
def Nt.c : Nt → Nat
  | .g => 103 | .m => 109 | .p => 112
def Nt.s (n : Nt) : Str := ⟨#[n.c]⟩
abbrev Pl := List Nt
abbrev Sta := Nat × Nat
def plS (p : Pl) : Str := ⟨(p.map Nt.c).toArray⟩
def eN (n : Nt) : D := .str n.s
def ePl (p : Pl) : D := .str (plS p)
def eS (s : Sta) : D := .tuple [.int s.1, .int s.2]
def eW (t : Int × Int × Int) : D := .tuple [.int t.1, .int t.2.1, .int t.2.2]
def eNat (n : Nat) : D := .int n
def eR (r : Rule) : D := .tuple [.tuple (r.st.map eNat), .int r.dr, .bool r.sc, .tuple (r.pt.map eW)]
def eIs (xs : List Int) : D := .tuple (xs.map .int)
def pOk (i : Int) : Prop := -20 ≤ i ∧ i ≤ 20
structure Rule.Ok (r : Rule) : Prop where
  sl : r.st.length ≤ 3
  st : ∀ x ∈ r.st, 1 ≤ x ∧ x ≤ 3
  dr : r.dr ≤ 3
  pl : r.pt.length = r.st.length + 1
  pt : ∀ t ∈ r.pt, pOk t.1 ∧ pOk t.2.1 ∧ pOk t.2.2
/-- a state of a rule -/
structure SOk (r : Rule) (s : Sta) : Prop where
  le : s.1 ≤ r.st.length
  lt : s.1 < r.st.length → s.2 < r.st.getD s.1 0
  z : s.1 = r.st.length → s.2 = 0
def mv (r : Rule) (s : Sta) (n : Nt) : Sta :=
  if n = .m then (s.1 - r.dr, 0)
  else if s.1 = r.st.length ∨ (n = .g ∧ r.sc = true) then s
  else if s.2 + 1 < r.st.getD s.1 0 then (s.1, s.2 + 1) else (s.1 + 1, 0)
def cnt (r : Rule) (s : Sta) (n : Nt) : Int := match n with
  | .g => (r.pt.getD s.1 (0, 0, 0)).1
  | .m => (r.pt.getD s.1 (0, 0, 0)).2.1
  | .p => (r.pt.getD s.1 (0, 0, 0)).2.2
def went (r : Rule) : Sta → Pl → List Int × Sta
  | s, [] => ([], s)
  | s, n :: p => (cnt r s n :: (went r (mv r s n) p).1, (went r (mv r s n) p).2)
theorem str_eq (n m : Nt) : decide (n.s = m.s) = decide (n = m) := by cases n <;> cases m <;> rfl
theorem str_m : ("m" : Str) = Nt.s .m := rfl
theorem str_g : ("g" : Str) = Nt.s .g := rfl
theorem str_p : ("p" : Str) = Nt.s .p := rfl
theorem getD_get {α : Type} {xs : List α} {i : Nat} {d : α} (h : i < xs.length) : xs[i]? = some (xs.getD i d) := by
  rw [List.getD_eq_getElem?_getD, List.getElem?_eq_getElem h]; rfl
theorem Rule.Ok.at_ {r : Rule} (h : r.Ok) {i : Nat} (hi : i < r.st.length) : 1 ≤ r.st.getD i 0 ∧ r.st.getD i 0 ≤ 3 := h.st _ (List.mem_of_getElem? (getD_get hi))
theorem mv_ok {r : Rule} (h : r.Ok) {s : Sta} (hs : SOk r s) (n : Nt) : SOk r (mv r s n) := by
  have h1 := hs.le
  unfold mv
  split
  · refine ⟨by show s.1 - r.dr ≤ _; omega, fun q => (h.at_ q).1, fun _ => rfl⟩
  · split
    · exact hs
    · rename_i h2
      have h3 : s.1 < r.st.length := by
        have : ¬ s.1 = r.st.length := fun z => h2 (.inl z)
        omega
      split
      · rename_i h4
        exact ⟨h1, fun _ => h4, fun z => absurd z (by show ¬ s.1 = _; omega)⟩
      · exact ⟨h3, fun q => (h.at_ q).1, fun _ => rfl⟩
theorem zero_ok {r : Rule} (h : r.Ok) : SOk r (0, 0) := ⟨Nat.zero_le _, fun q => (h.at_ q).1, fun _ => rfl⟩
theorem went_ok {r : Rule} (h : r.Ok) : ∀ {s : Sta} (p : Pl), SOk r s → SOk r (went r s p).2
  | _, [], hs => hs
  | _, n :: p, hs => went_ok h p (mv_ok h hs n)
theorem went_len {r : Rule} : ∀ {s : Sta} (p : Pl), (went r s p).1.length = p.length
  | _, [] => rfl
  | _, n :: p => congrArg Nat.succ (went_len p)
theorem went_app {r : Rule} : ∀ {s : Sta} (p q : Pl), went r s (p ++ q) = ((went r s p).1 ++ (went r (went r s p).2 q).1, (went r (went r s p).2 q).2)
  | _, [], q => rfl
  | s, n :: p, q => by
    simp only [List.cons_append, went]
    rw [went_app p q]
theorem cnt_ok {r : Rule} (h : r.Ok) {s : Sta} (hs : SOk r s) (n : Nt) : pOk (cnt r s n) := by
  have h1 : s.1 < r.pt.length := by
    have := hs.le
    rw [h.pl]; omega
  have := h.pt _ (List.mem_of_getElem? (getD_get (d := (0, 0, 0)) h1))
  cases n
  · exact this.1
  · exact this.2.1
  · exact this.2.2
theorem went_pts {r : Rule} (h : r.Ok) : ∀ {s : Sta} (p : Pl), SOk r s → ∀ x ∈ (went r s p).1, pOk x
  | _, [], _, x, hx => by cases hx
  | s, n :: p, hs, x, hx => by
    rcases List.mem_cons.mp hx with rfl | hx
    · exact cnt_ok h hs n
    · exact went_pts h p (mv_ok h hs n) x hx
/-! the checks at typed data -/
theorem all_from {lo hi : Int} {xs : List Int} (h : ∀ x ∈ xs, lo ≤ x ∧ x ≤ hi) : (xs.map PyData.int).all (isFrom lo hi) = true := by
  rw [List.all_map, List.all_eq_true]
  intro x hx
  have := h x hx
  simp [isFrom, this.1, this.2]
theorem isRow_eW {t : Int × Int × Int} (h : pOk t.1 ∧ pOk t.2.1 ∧ pOk t.2.2) : isRow (eW t) = true := by
  obtain ⟨⟨a, b⟩, ⟨c, d⟩, e, f⟩ := h
  simp [isRow, eW, isFrom, a, b, c, d, e, f]
theorem isRule_eR {r : Rule} (h : r.Ok) : isRule (eR r) = true := by
  simp only [isRule, eR, Bool.and_eq_true, decide_eq_true_eq, List.length_map]
  refine ⟨⟨⟨⟨?_, h.sl⟩, ?_⟩, h.pl⟩, ?_⟩
  · rw [List.all_map, List.all_eq_true]
    intro x hx
    have := h.st x hx
    simp only [Function.comp, isFrom, eNat, Bool.and_eq_true, decide_eq_true_eq]
    omega
  · have := h.dr
    simp only [isFrom, Bool.and_eq_true, decide_eq_true_eq]
    omega
  · rw [List.all_map, List.all_eq_true]
    intro x hx
    exact isRow_eW (h.pt x hx)
theorem smls_of {ds : List D} (h : ∀ d ∈ ds, sml d = true) : smls ds = true := by
  induction ds with
  | nil => rfl
  | cons d ds ih =>
    simp only [smls, Bool.and_eq_true]
    exact ⟨h d List.mem_cons_self, ih fun e he => h e (List.mem_cons_of_mem _ he)⟩
theorem sml_map {α : Type} {f : α → D} {xs : List α} (h : ∀ x ∈ xs, sml (f x) = true) : smls (xs.map f) = true := smls_of fun d hd => by
  obtain ⟨x, hx, rfl⟩ := List.mem_map.mp hd
  exact h x hx
theorem sml_eR {r : Rule} (h : r.Ok) : sml (eR r) = true := by
  have h1 := h.sl
  have h2 := h.pl
  simp only [sml, eR, smls, Bool.and_eq_true, decide_eq_true_eq, List.length_map, List.length_cons, List.length_nil]
  refine ⟨by omega, ⟨by omega, sml_map fun _ _ => rfl⟩, trivial, trivial, ⟨by omega, sml_map fun _ _ => rfl⟩, trivial⟩
theorem plS_len (p : Pl) : (plS p).length = p.length := by
  show (p.map Nt.c).toArray.size = _
  simp
theorem signs_pl (p : Pl) : DL.signs (plS p) = p.map eN := by
  unfold DL.signs plS
  rw [List.map_map]
  rfl
def isPlay (d : D) : Bool := match d with
  | .str z => decide (z.length ≤ 60) && z.cps.toList.all fun c => decide (c ∈ [103, 109, 112])
  | _ => false
theorem isPlay_pl {p : Pl} (h : p.length ≤ 60) : isPlay (ePl p) = true := by
  simp only [isPlay, ePl, Bool.and_eq_true, decide_eq_true_eq, List.all_eq_true]
  refine ⟨by rw [plS_len]; exact h, fun c hc => ?_⟩
  have : c ∈ p.map Nt.c := hc
  obtain ⟨n, _, rfl⟩ := List.mem_map.mp this
  cases n <;> decide
def sp_is_play_of : DSp := fun ds Q => ∃ v, ds = [v] ∧ sml v = true ∧ Q (.bool (isPlay v))
def sp_need_rule : DSp := fun ds Q => ∃ r : Rule, r.Ok ∧ ds = [eR r] ∧ Q .none
def sp_need_play : DSp := fun ds Q => ∃ p : Pl, p.length ≤ 60 ∧ ds = [ePl p] ∧ Q .none
def sp_moved : DSp := fun ds Q => ∃ (r : Rule) (s : Sta) (n : Nt), r.Ok ∧ SOk r s ∧ ds = [eR r, eS s, eN n] ∧ Q (eS (mv r s n))
def sp_counted : DSp := fun ds Q => ∃ (r : Rule) (s : Sta) (n : Nt), r.Ok ∧ SOk r s ∧ ds = [eR r, eS s, eN n] ∧ Q (.int (cnt r s n))
def sp_walked : DSp := fun ds Q => ∃ (r : Rule) (s : Sta) (p : Pl), r.Ok ∧ SOk r s ∧ p.length ≤ 1000000 ∧ ds = [eR r, eS s, ePl p] ∧ Q (.tuple [eIs (went r s p).1, eS (went r s p).2])
def sp_points : DSp := fun ds Q => ∃ (r : Rule) (p : Pl), r.Ok ∧ p.length ≤ 60 ∧ ds = [eR r, ePl p] ∧ Q (eIs (went r (0, 0) p).1)
def sp_total : DSp := fun ds Q => ∃ (r : Rule) (p : Pl), r.Ok ∧ p.length ≤ 60 ∧ ds = [eR r, ePl p] ∧ Q (.int (went r (0, 0) p).1.sum)
def sp_state : DSp := fun ds Q => ∃ (r : Rule) (p : Pl), r.Ok ∧ p.length ≤ 60 ∧ ds = [eR r, ePl p] ∧ Q (eS (went r (0, 0) p).2)
theorem len_is_play_of (ds : List D) (Q : D → Prop) : sp_is_play_of ds Q → ds.length = 1 := by rintro ⟨v, rfl, _⟩; rfl
theorem len_need_rule (ds : List D) (Q : D → Prop) : sp_need_rule ds Q → ds.length = 1 := by rintro ⟨v, _, rfl, _⟩; rfl
theorem len_need_play (ds : List D) (Q : D → Prop) : sp_need_play ds Q → ds.length = 1 := by rintro ⟨v, _, rfl, _⟩; rfl
theorem len_moved (ds : List D) (Q : D → Prop) : sp_moved ds Q → ds.length = 3 := by rintro ⟨_, _, _, _, _, rfl, _⟩; rfl
theorem len_counted (ds : List D) (Q : D → Prop) : sp_counted ds Q → ds.length = 3 := by rintro ⟨_, _, _, _, _, rfl, _⟩; rfl
theorem len_walked (ds : List D) (Q : D → Prop) : sp_walked ds Q → ds.length = 3 := by rintro ⟨_, _, _, _, _, _, rfl, _⟩; rfl
theorem len_points (ds : List D) (Q : D → Prop) : sp_points ds Q → ds.length = 2 := by rintro ⟨_, _, _, _, rfl, _⟩; rfl
theorem len_total (ds : List D) (Q : D → Prop) : sp_total ds Q → ds.length = 2 := by rintro ⟨_, _, _, _, rfl, _⟩; rfl
theorem len_state (ds : List D) (Q : D → Prop) : sp_state ds Q → ds.length = 2 := by rintro ⟨_, _, _, _, rfl, _⟩; rfl
/-- is_play_of: 0 value, 1 note -/
def t_is_play_of : DSt := (sRet (dAnd (dIsi .str (dVar 0)) (dAnd (dOp gLe (dCall gLen (dCons (dVar 0) dNil)) (dC (.int 60))) (dCall gAll (dCons (dFz (dLc (dIt (dVar 0)) (gN 1) bYes (dOp gIn (dVar 1) (dC (.str "gmp"))) [1])) dNil)))))
/-- need_rule: 0 value -/
def t_need_rule : DSt := (sIf (bNot (dTst (dCall sp_is_rule_of (dCons (dVar 0) dNil)))) sNever sNext)
/-- need_play: 0 value -/
def t_need_play : DSt := (sIf (bNot (dTst (dCall sp_is_play_of (dCons (dVar 0) dNil)))) sNever sNext)
/-- moved: 0 rule, 1 here, 2 note, 3 steps, 4 drop, 5 strict, 6 points, 7 level, 8 hits -/
def t_moved : DSt := (sSeq (sAsg (dVar 0) (gTp 4 (gsCons (gN 3) (gsCons (gN 4) (gsCons (gN 5) (gsCons (gN 6) gsNil))))))
    (sSeq (sAsg (dVar 1) (gTp 2 (gsCons (gN 7) (gsCons (gN 8) gsNil))))
    (sSeq (sIf (dTst (dOp gEq (dVar 2) (dC (.str "m")))) (sRet (dTup (dCons (dCall gMax2 (dCons (dC (.int 0)) (dCons (dOp gSub (dVar 7) (dVar 4)) dNil))) (dCons (dC (.int 0)) dNil)))) sNext)
    (sSeq (sIf (bOr (dTst (dOp gEq (dVar 7) (dCall gLen (dCons (dVar 3) dNil)))) (bAnd (dTst (dOp gEq (dVar 2) (dC (.str "g")))) (dTst (dVar 5)))) (sRet (dVar 1)) sNext)
    (sRet (dIf (dTst (dOp gLt (dOp gAdd (dVar 8) (dC (.int 1))) (dOp gIx (dVar 3) (dVar 7)))) (dTup (dCons (dVar 7) (dCons (dOp gAdd (dVar 8) (dC (.int 1))) dNil))) (dTup (dCons (dOp gAdd (dVar 7) (dC (.int 1))) (dCons (dC (.int 0)) dNil)))))))))
/-- counted: 0 rule, 1 here, 2 note -/
def t_counted : DSt := (sRet (dOp gIx (dOp gIx (dOp gIx (dVar 0) (dC (.int 3))) (dOp gIx (dVar 1) (dC (.int 0)))) (dM1 gIdxS (dC (.str "gmp")) (dVar 2))))
/-- walked: 0 rule, 1 here, 2 play, 3 found, 4 note -/
def t_walked : DSt := (sSeq (sAsg (dTup dNil) (gN 3))
    (sSeq (sFor (dIt (dVar 2)) (gN 4) (sPar2 3 1 (dCons (dOp gAdd (dVar 3) (dTup (dCons (dCall sp_counted (dCons (dVar 0) (dCons (dVar 1) (dCons (dVar 4) dNil)))) dNil))) (dCons (dCall sp_moved (dCons (dVar 0) (dCons (dVar 1) (dCons (dVar 4) dNil)))) dNil))))
    (sRet (dTup (dCons (dVar 3) (dCons (dVar 1) dNil))))))
/-- points: 0 rule, 1 play -/
def t_points : DSt := (sSeq (sExpr (dCall sp_need_rule (dCons (dVar 0) dNil)))
    (sSeq (sExpr (dCall sp_need_play (dCons (dVar 1) dNil)))
    (sRet (dOp gIx (dCall sp_walked (dCons (dVar 0) (dCons (dC (.tuple [.int 0, .int 0])) (dCons (dVar 1) dNil)))) (dC (.int 0))))))
/-- total: 0 rule, 1 play -/
def t_total : DSt := (sRet (dCall gSum (dCons (dCall sp_points (dCons (dVar 0) (dCons (dVar 1) dNil))) dNil)))
/-- state: 0 rule, 1 play -/
def t_state : DSt := (sSeq (sExpr (dCall sp_need_rule (dCons (dVar 0) dNil)))
    (sSeq (sExpr (dCall sp_need_play (dCons (dVar 1) dNil)))
    (sRet (dOp gIx (dCall sp_walked (dCons (dVar 0) (dCons (dC (.tuple [.int 0, .int 0])) (dCons (dVar 1) dNil)))) (dC (.int 1))))))
theorem rd_is_play_of (ds : List D) (Q : D → Prop) (h : sp_is_play_of ds Q) : t_is_play_of (ndQ Q) (start0 2 ds) := by
  obtain ⟨v, rfl, hs, q⟩ := h
  unfold t_is_play_of
  walk_at "dl"
  cases v <;> walk_at "dl" <;> try exact q
  rename_i z
  simp only [sml, decide_eq_true_eq] at hs
  refine ⟨hs, bIf (fun e => ?_) fun e => ?_⟩
  · have e : z.length ≤ 60 := by
      have := of_decide_eq_true e
      omega
    refine cB_map (xs := z.cps.toList) (enc := fun c => .str ⟨#[c]⟩) (f := fun c => .bool (decide (c ∈ [103, 109, 112]))) (by show z.length ≤ _; omega) (fun c hc K hK => ?_) ?_
    · walk_at "dl"
      exact hK _ rfl
    · refine ⟨z.cps.toList.map fun c => decide (c ∈ [103, 109, 112]), by rw [List.map_map]; rfl, ?_⟩
      rw [List.all_map]
      simp only [isPlay, e, decide_true, Bool.true_and] at q
      exact q
  · have e : ¬ z.length ≤ 60 := by
      have := of_decide_eq_false e
      omega
    simp only [isPlay, e, decide_false, Bool.false_and] at q
    exact q
theorem rd_need_rule (ds : List D) (Q : D → Prop) (h : sp_need_rule ds Q) : t_need_rule (ndQ Q) (start0 1 ds) := by
  obtain ⟨r, hr, rfl, q⟩ := h
  unfold t_need_rule
  walk_at "dl"
  refine ⟨_, rfl, sml_eR hr, ?_⟩
  rw [isRule_eR hr]
  exact q
theorem rd_need_play (ds : List D) (Q : D → Prop) (h : sp_need_play ds Q) : t_need_play (ndQ Q) (start0 1 ds) := by
  obtain ⟨p, hp, rfl, q⟩ := h
  unfold t_need_play
  walk_at "dl"
  refine ⟨_, rfl, by simp only [ePl, sml, plS_len, decide_eq_true_eq]; omega, ?_⟩
  rw [isPlay_pl hp]
  exact q
theorem atI_map {α : Type} {f : α → D} {xs : List α} {i : Nat} {d : α} (h : i < xs.length) : atI (xs.map f) (i : Int) = some (f (xs.getD i d)) := atI_ok (by rw [List.getElem?_map, getD_get h]; rfl)
theorem rd_moved (ds : List D) (Q : D → Prop) (h : sp_moved ds Q) : t_moved (ndQ Q) (start0 9 ds) := by
  obtain ⟨r, s, n, hr, hs, rfl, q⟩ := h
  unfold t_moved
  walk_at "dl"
  simp only [eR, eS, eN, str_m, str_g]
  walk_at "dl"
  rw [str_eq, str_eq]
  have hle := hs.le
  refine bIf (fun e => ?_) fun e => ?_
  · have e := of_decide_eq_true e
    rw [mv, if_pos e] at q
    have : (if ((s.1 : Int) - (r.dr : Int)) > 0 then ((s.1 : Int) - (r.dr : Int)) else 0) = ((s.1 - r.dr : Nat) : Int) := by
      split <;> omega
    rw [this]
    exact q
  · have e := of_decide_eq_false e
    rw [mv, if_neg e] at q
    have tail : ¬ (s.1 = r.st.length ∨ (n = .g ∧ r.sc = true)) → ∃ d, atI (List.map eNat r.st) ↑s.fst = some d ∧
            gI (fun i j => PyData.bool (decide (i < j))) (PyData.int (↑s.snd + 1)) d fun z =>
              match z with
              | PyData.bool b =>
                match b with
                | true => Q (PyData.tuple [PyData.int ↑s.fst, PyData.int (↑s.snd + 1)])
                | false => Q (PyData.tuple [PyData.int (↑s.fst + 1), PyData.int 0])
              | x => False := fun h => by
      rw [if_neg h] at q
      have h1 : ¬ s.1 = r.st.length := fun z => h (.inl z)
      refine ⟨_, atI_map (d := 0) (by omega), bIf (fun e2 => ?_) fun e2 => ?_⟩
      · have := of_decide_eq_true e2
        rw [if_pos (by omega)] at q
        exact q
      · have := of_decide_eq_false e2
        rw [if_neg (by omega)] at q
        exact q
    refine bIf (fun e1 => ?_) fun e1 => ?_
    · have := of_decide_eq_true e1
      rw [List.length_map] at this
      rw [if_pos (.inl (by omega))] at q
      exact q
    · have := of_decide_eq_false e1
      rw [List.length_map] at this
      refine bIf (fun e2 => ?_) fun e2 => ?_
      · refine bIf (fun e3 => ?_) fun e3 => ?_
        · rw [if_pos (.inr ⟨of_decide_eq_true e2, e3⟩)] at q
          exact q
        · exact tail fun h => by
            rcases h with h | h
            · omega
            · rw [e3] at h
              cases h.2
      · exact tail fun h => by
          rcases h with h | h
          · omega
          · exact absurd h.1 (of_decide_eq_false e2)
def Nt.i : Nt → Nat
  | .g => 0 | .m => 1 | .p => 2
theorem idx_gmp (n : Nt) : Builtin.Str.occurrences ("gmp" : Str) n.s 0 ("gmp" : Str).length 1 = [n.i] := by
  cases n <;> decide +kernel
theorem rd_counted (ds : List D) (Q : D → Prop) (h : sp_counted ds Q) : t_counted (ndQ Q) (start0 3 ds) := by
  obtain ⟨r, s, n, hr, hs, rfl, q⟩ := h
  unfold t_counted
  walk_at "dl"
  simp only [eR, eS, eN]
  walk_at "dl"
  have h1 : s.1 < r.pt.length := by
    have := hs.le
    rw [hr.pl]; omega
  refine ⟨_, rfl, _, rfl, _, atI_map (d := (0, 0, 0)) h1, n.i, [], idx_gmp n, ?_⟩
  cases n
  · exact ⟨_, rfl, q⟩
  · exact ⟨_, rfl, q⟩
  · exact ⟨_, rfl, q⟩
theorem went_take {r : Rule} {s : Sta} {p : Pl} {i : Nat} {n : Nt} (h : p[i]? = some n) :
    went r s (p.take (i + 1)) = ((went r s (p.take i)).1 ++ [cnt r (went r s (p.take i)).2 n], mv r (went r s (p.take i)).2 n) := by
  rw [List.take_add_one, h, Option.toList, went_app]
  rfl
theorem len_le_take {r : Rule} {s : Sta} (p : Pl) (i : Nat) : (went r s (p.take i)).1.length ≤ p.length := by
  rw [went_len, List.length_take]; omega
theorem rd_walked (ds : List D) (Q : D → Prop) (h : sp_walked ds Q) : t_walked (ndQ Q) (start0 5 ds) := by
  obtain ⟨r, s, p, hr, hs, hp, rfl, q⟩ := h
  unfold t_walked
  walk_at "dl"
  simp only [ePl, seqD_str, signs_pl]
  refine fLoop_inv (fun i δ => ∃ x, δ = [.v (eR r), .v (eS (went r s (p.take i)).2), .v (.str (plS p)), .v (eIs (went r s (p.take i)).1), x] ∧ x.isLd = false) ⟨_, rfl, rfl⟩ (fun i d δ K hd hI hK => ?_) fun δ hI => ?_
  · obtain ⟨x, rfl, hx⟩ := hI
    rw [List.getElem?_map] at hd
    cases hn : p[i]? with
    | none => rw [hn] at hd; cases hd
    | some n =>
      rw [hn] at hd
      cases hd
      have hlt := (List.getElem?_eq_some_iff.mp hn).1
      have hs' := went_ok hr (p.take i) hs
      walk_at "dl"
      refine ⟨hx, ?_⟩
      · refine ⟨r, _, n, hr, hs', rfl, ?_⟩
        have hl := len_le_take (r := r) (s := s) p i
        have e := went_take (r := r) (s := s) hn
        refine ⟨by simp only [List.length_map, List.length_cons, List.length_nil]; omega, r, _, n, hr, hs', rfl, ?_⟩
        refine hK _ ⟨.v (eN n), ?_, rfl⟩
        rw [e]
        simp only [eIs, List.map_append]
        rfl
  · obtain ⟨x, rfl, hx⟩ := hI
    walk_at "dl"
    rw [List.length_map, List.take_length]
    exact q
theorem rd_points (ds : List D) (Q : D → Prop) (h : sp_points ds Q) : t_points (ndQ Q) (start0 2 ds) := by
  obtain ⟨r, p, hr, hp, rfl, q⟩ := h
  unfold t_points
  walk_at "dl"
  refine ⟨r, hr, rfl, p, hp, rfl, r, (0, 0), p, hr, zero_ok hr, by omega, rfl, ?_⟩
  walk_at "dl"
  exact ⟨_, rfl, q⟩
theorem rd_total (ds : List D) (Q : D → Prop) (h : sp_total ds Q) : t_total (ndQ Q) (start0 2 ds) := by
  obtain ⟨r, p, hr, hp, rfl, q⟩ := h
  unfold t_total
  walk_at "dl"
  refine ⟨r, p, hr, hp, rfl, ?_⟩
  simp only [eIs, gSum_tup]
  exact ⟨_, rfl, q⟩
theorem rd_state (ds : List D) (Q : D → Prop) (h : sp_state ds Q) : t_state (ndQ Q) (start0 2 ds) := by
  obtain ⟨r, p, hr, hp, rfl, q⟩ := h
  unfold t_state
  walk_at "dl"
  refine ⟨r, hr, rfl, p, hp, rfl, r, (0, 0), p, hr, zero_ok hr, by omega, rfl, ?_⟩
  walk_at "dl"
  exact ⟨_, rfl, q⟩
end SpA
/-! The laws' own helps over rules. -/
namespace SpB
open PySem PySem.Spec L2 DL SpA
open PyProof.Rows hiding St
local macro_rules | `(tactic| walk_at "dl") => `(tactic| simp only [sNext, sSeq, sExpr, sRet, sIf, sNever, sBreak, sCont, gN, gsNil, gsCons, gTp, sAsg, sAug, sSetO, fzS, sFz, sApp, sFor, dVar, dC, dOp, dTst, dChain, bAnd, bOr, bNot, dAnd, dOr, dNot, dIf, dNil, dCons, dTup, dLst, dCall, dIsi, dNeg, dM1, isStr, dSl, oNone, oSome, dFz, dRepO, dLc, bYes, dIt, dR1, dR2, dEnum, dZip, dCallK, sSetK, sPar2, sPar3, DL.gSub, gMod, gDiv, gPow, gLt, gLe, gGt, gGe, start0, start1, dkQ, noOwn, wipeD, gEq_int, gEq_str, gEq_bool, gNe_int, gNe_str, gNe_bool, gAdd_int, gAdd_str, gAdd_tup, gAdd_lst, gAdd_bi, gMul_int, gMul_tup, gI_int, gIC_int, gIs_non, gNot_non, gIs_bool, gNot_bool, gIx_lst, gIx_tup, gIx_str, gLen_lst, gLen_tup, gLen_str, gMax_int, gMin_int, gAll_lst, gAny_lst, gTupOf_lst, gTupOf_tup, gLstOf_lst, gLstOf_tup, gInt_int, gSum_lst, gSum_tup, gIdxS_str, gJoin_str, gCount_str, seqD_lst, seqD_tup, seqD_str, isNone_non, isNone_int, isNone_tup, isNone_str, isNone_lst, gSl_tup, gSl_lst, isT_it, isT_ib, isT_in, isT_is, isT_il, isT_iu, isT_bi, isT_bb, isT_bn, isT_bs, isT_bl, isT_bu, isT_si, isT_sb, isT_sn, isT_ss, isT_sl, isT_su, isT_ui, isT_ub, isT_un, isT_us, isT_ul, isT_uu, isT_li, isT_lb, isT_ln, isT_ls, isT_ll, isT_id, isT_bd, isT_sd, isT_ud, isT_ld, isT_lu, Sl.own, Sl.isLd, List.map_cons, List.map_nil, List.length_cons, List.length_nil, List.replicate_succ, List.replicate_zero, List.cons_append, List.nil_append, List.append_nil, List.getElem?_cons_zero, List.getElem?_cons_succ, List.set_cons_zero, List.set_cons_succ, List.getD_cons_zero, List.getD_cons_succ, List.all_cons, List.all_nil, Nat.reduceAdd, Nat.reduceSub, Nat.reduceLeDiff, Nat.reduceLT, Bool.not_false, Bool.not_true, Bool.and_true, Bool.true_and, Bool.and_self, and_true, true_and, reduceCtorEq])
local macro_rules | `(tactic| walk_at "dlb") => `(tactic| simp only [backD, sNext, sSeq, sExpr, sRet, sIf, sNever, sBreak, sCont, gN, gsNil, gsCons, gTp, sAsg, sAug, sSetO, fzS, sFz, sApp, sFor, dVar, dC, dOp, dTst, dChain, bAnd, bOr, bNot, dAnd, dOr, dNot, dIf, dNil, dCons, dTup, dLst, dCall, dIsi, dNeg, dM1, isStr, dSl, oNone, oSome, dFz, dRepO, dLc, bYes, dIt, dR1, dR2, dEnum, dZip, dCallK, sSetK, sPar2, sPar3, DL.gSub, gMod, gDiv, gPow, gLt, gLe, gGt, gGe, start0, start1, dkQ, noOwn, wipeD, gEq_int, gEq_str, gEq_bool, gNe_int, gNe_str, gNe_bool, gAdd_int, gAdd_str, gAdd_tup, gAdd_lst, gAdd_bi, gMul_int, gMul_tup, gI_int, gIC_int, gIs_non, gNot_non, gIs_bool, gNot_bool, gIx_lst, gIx_tup, gIx_str, gLen_lst, gLen_tup, gLen_str, gMax_int, gMin_int, gAll_lst, gAny_lst, gTupOf_lst, gTupOf_tup, gLstOf_lst, gLstOf_tup, gInt_int, gSum_lst, gSum_tup, gIdxS_str, gJoin_str, gCount_str, seqD_lst, seqD_tup, seqD_str, isNone_non, isNone_int, isNone_tup, isNone_str, isNone_lst, gSl_tup, gSl_lst, isT_it, isT_ib, isT_in, isT_is, isT_il, isT_iu, isT_bi, isT_bb, isT_bn, isT_bs, isT_bl, isT_bu, isT_si, isT_sb, isT_sn, isT_ss, isT_sl, isT_su, isT_ui, isT_ub, isT_un, isT_us, isT_ul, isT_uu, isT_li, isT_lb, isT_ln, isT_ls, isT_ll, isT_id, isT_bd, isT_sd, isT_ud, isT_ld, isT_lu, Sl.own, Sl.isLd, List.map_cons, List.map_nil, List.length_cons, List.length_nil, List.replicate_succ, List.replicate_zero, List.cons_append, List.nil_append, List.append_nil, List.getElem?_cons_zero, List.getElem?_cons_succ, List.set_cons_zero, List.set_cons_succ, List.getD_cons_zero, List.getD_cons_succ, List.all_cons, List.all_nil, Nat.reduceAdd, Nat.reduceSub, Nat.reduceLeDiff, Nat.reduceLT, Bool.not_false, Bool.not_true, Bool.and_true, Bool.true_and, Bool.and_self, and_true, true_and, reduceCtorEq])
def sortN : D → Int
  | .bool _ => 1
  | .int _ => 2
  | .str _ => 3
  | .list _ => 4
  | .tuple _ => 5
  | _ => 6
def sp_law_sort : DSp := fun ds Q => ∃ v, ds = [v] ∧ Q (.int (sortN v))
theorem len_law_sort (ds : List D) (Q : D → Prop) : sp_law_sort ds Q → ds.length = 1 := by rintro ⟨v, rfl, _⟩; rfl
/-- _law_same of a thing and itself -/
def flatOk : Nat → D → Prop
  | 0, _ => False
  | n + 1, .list ds => ds.length ≤ 16777216 ∧ ∀ d ∈ ds, flatOk n d
  | n + 1, .tuple ds => ds.length ≤ 16777216 ∧ ∀ d ∈ ds, flatOk n d
  | _, .dict _ => False
  | _, _ => True
def sp_law_same : Nat → DSp := fun n ds Q => ∃ v, ds = [v, v] ∧ flatOk n v ∧ Q (.bool true)
theorem len_law_same {n : Nat} (ds : List D) (Q : D → Prop) : sp_law_same n ds Q → ds.length = 2 := by rintro ⟨v, rfl, _⟩; rfl
theorem no_law_same (ds : List D) (Q : D → Prop) : sp_law_same 0 ds Q → False := by rintro ⟨_, _, h, _⟩; exact h
def sp_law_next := sp_moved
def sp_law_worth := sp_counted
def sp_law_went := sp_walked
theorem len_law_next (ds : List D) (Q : D → Prop) : sp_law_next ds Q → ds.length = 3 := len_moved ds Q
theorem len_law_worth (ds : List D) (Q : D → Prop) : sp_law_worth ds Q → ds.length = 3 := len_counted ds Q
theorem len_law_went (ds : List D) (Q : D → Prop) : sp_law_went ds Q → ds.length = 3 := len_walked ds Q
/-- _law_sort: 0 thing -/
def t_law_sort : DSt := (sSeq (sIf (dTst (dIsi .bool (dVar 0))) (sRet (dC (.int 1))) sNext)
    (sSeq (sIf (dTst (dIsi .int (dVar 0))) (sRet (dC (.int 2))) sNext)
    (sSeq (sIf (dTst (dIsi .str (dVar 0))) (sRet (dC (.int 3))) sNext)
    (sSeq (sIf (dTst (dIsi .list (dVar 0))) (sRet (dC (.int 4))) sNext)
    (sRet (dIf (dTst (dIsi .tuple (dVar 0))) (dC (.int 5)) (dC (.int 6))))))))
/-- _law_same: 0 told, 1 due, 2 k, 3 part -/
def t_law_same (n : Nat) : DSt := (sSeq (sIf (dTst (dOp gNe (dCall sp_law_sort (dCons (dVar 0) dNil)) (dCall sp_law_sort (dCons (dVar 1) dNil)))) (sRet (dC (.bool false))) sNext)
    (sCut (sIf (bAnd (dTst (dOp gGt (dCall sp_law_sort (dCons (dVar 0) dNil)) (dC (.int 3)))) (dTst (dOp gLt (dCall sp_law_sort (dCons (dVar 0) dNil)) (dC (.int 6))))) (sSeq (sIf (dTst (dOp gNe (dCall gLen (dCons (dVar 0) dNil)) (dCall gLen (dCons (dVar 1) dNil)))) (sRet (dC (.bool false))) sNext)
    (sRet (dOp gEq (dFz (dLc (dEnum (dCons (dVar 0) dNil)) (gTp 2 (gsCons (gN 2) (gsCons (gN 3) gsNil))) (bNot (dTst (dCall (sp_law_same n) (dCons (dVar 3) (dCons (dOp gIx (dVar 1) (dVar 2)) dNil))))) (dVar 2) [2, 3])) (dLst dNil)))) sNext)
    (sRet (dOp gEq (dVar 0) (dVar 1)))))
/-- _law_next: 0 r, 1 here, 2 note, 3 ladder, 4 fall, 5 hard, 6 table, 7 level, 8 hits -/
def t_law_next : DSt := (sSeq (sAsg (dVar 0) (gTp 4 (gsCons (gN 3) (gsCons (gN 4) (gsCons (gN 5) (gsCons (gN 6) gsNil))))))
    (sSeq (sAsg (dVar 1) (gTp 2 (gsCons (gN 7) (gsCons (gN 8) gsNil))))
    (sSeq (sIf (dTst (dOp gEq (dVar 2) (dC (.str "m")))) (sRet (dTup (dCons (dIf (dTst (dOp gGt (dVar 7) (dVar 4))) (dOp gSub (dVar 7) (dVar 4)) (dC (.int 0))) (dCons (dC (.int 0)) dNil)))) sNext)
    (sSeq (sIf (bOr (dTst (dOp gEq (dVar 7) (dCall gLen (dCons (dVar 3) dNil)))) (bAnd (dTst (dVar 5)) (dTst (dOp gEq (dVar 2) (dC (.str "g")))))) (sRet (dVar 1)) sNext)
    (sSeq (sIf (dTst (dOp gEq (dOp gAdd (dVar 8) (dC (.int 1))) (dOp gIx (dVar 3) (dVar 7)))) (sRet (dTup (dCons (dOp gAdd (dVar 7) (dC (.int 1))) (dCons (dC (.int 0)) dNil)))) sNext)
    (sRet (dTup (dCons (dVar 7) (dCons (dOp gAdd (dVar 8) (dC (.int 1))) dNil)))))))))
/-- _law_worth: 0 r, 1 here, 2 note, 3 good, 4 miss, 5 perfect -/
def t_law_worth : DSt := (sSeq (sAsg (dOp gIx (dOp gIx (dVar 0) (dC (.int 3))) (dOp gIx (dVar 1) (dC (.int 0)))) (gTp 3 (gsCons (gN 3) (gsCons (gN 4) (gsCons (gN 5) gsNil)))))
    (sSeq (sIf (dTst (dOp gEq (dVar 2) (dC (.str "m")))) (sRet (dVar 4)) sNext)
    (sRet (dIf (dTst (dOp gEq (dVar 2) (dC (.str "g")))) (dVar 3) (dVar 5)))))
/-- _law_went: 0 r, 1 here, 2 song, 3 found, 4 note -/
def t_law_went : DSt := (sSeq (sSetO 3 dNil)
    (sSeq (sFor (dIt (dVar 2)) (gN 4) (sSeq (sApp 3 (dCall sp_law_worth (dCons (dVar 0) (dCons (dVar 1) (dCons (dVar 4) dNil)))))
    (sAsg (dCall sp_law_next (dCons (dVar 0) (dCons (dVar 1) (dCons (dVar 4) dNil)))) (gN 1))))
    (sFz 3 (sRet (dTup (dCons (dCall gTupOf (dCons (dVar 3) dNil)) (dCons (dVar 1) dNil)))))))
theorem rd_law_sort (ds : List D) (Q : D → Prop) (h : sp_law_sort ds Q) : t_law_sort (ndQ Q) (start0 1 ds) := by
  obtain ⟨v, rfl, q⟩ := h
  unfold t_law_sort
  walk_at "dl"
  cases v <;> walk_at "dl" <;> exact q
theorem rd_law_same (n : Nat) (ds : List D) (Q : D → Prop) (h : sp_law_same (n + 1) ds Q) : t_law_same n (ndQ Q) (start0 4 ds) := by
  obtain ⟨v, rfl, hf, q⟩ := h
  unfold t_law_same
  walk_at "dl"
  refine ⟨v, rfl, v, rfl, ?_⟩
  walk_at "dl"
  simp only [decide_true, Bool.not_true]
  refine ⟨v, rfl, ?_⟩
  have gE : ∀ (d : D), okEq d d → eqD d d = true → gEq d d fun d => Q d := fun d h1 h2 => ⟨h1, by rw [h2]; exact q⟩
  have key : ∀ (ds : List D) (hd : ∀ d ∈ ds, flatOk n d) (hl : ds.length ≤ 16777216) (w : D) (hw : w = .list ds ∨ w = .tuple ds),
      cLoopB (gTp 2 (gsCons (gN 2) (gsCons (gN 3) gsNil))) (bNot (dTst (dCall (sp_law_same n) (dCons (dVar 3) (dCons (dOp gIx (dVar 1) (dVar 2)) dNil))))) (dVar 2) [2, 3] (enumD 0 ds) [.v w, .v w, .un, .un] (fun acc _ => gEq (.list acc) (.list []) Q) := by
    intro ds hd hl w hw
    refine cB_inv (fun i acc δ => acc = [] ∧ ∃ x y, δ = [.v w, .v w, x, y]) ⟨rfl, _, _, rfl⟩ (fun i d acc δ K hi hI hK => ?_) fun acc δ hI => ?_
    · obtain ⟨rfl, x, y, rfl⟩ := hI
      have hlt : i < ds.length := by
        have := (List.getElem?_eq_some_iff.mp hi).1
        rw [enumD_len] at this; exact this
      rw [enumD_get 0 ds i _ (List.getElem?_eq_getElem hlt)] at hi
      cases hi
      walk_at "dl"
      simp only [Int.zero_add]
      have he : atI ds (i : Int) = some ds[i] := atI_ok (List.getElem?_eq_getElem hlt)
      have fin : sp_law_same n [ds[i], ds[i]] fun z => ∃ b, z = .bool b ∧ b = true :=
        ⟨_, rfl, hd _ (List.getElem_mem _), _, rfl, rfl⟩
      rcases hw with rfl | rfl
      · walk_at "dl"
        exact ⟨_, he, _, rfl, hd _ (List.getElem_mem _), hK _ _ ⟨rfl, _, _, rfl⟩⟩
      · walk_at "dl"
        exact ⟨_, he, _, rfl, hd _ (List.getElem_mem _), hK _ _ ⟨rfl, _, _, rfl⟩⟩
    · obtain ⟨rfl, _⟩ := hI
      exact gE _ ⟨rfl, rfl⟩ rfl
  cases v with
  | list ds =>
    simp only [sortN]
    walk_at "dl"
    refine ⟨_, rfl, ?_⟩
    simp only [sortN, decide_true, Bool.not_true]
    exact key ds hf.2 hf.1 _ (.inl rfl)
  | tuple ds =>
    simp only [sortN]
    walk_at "dl"
    refine ⟨_, rfl, ?_⟩
    simp only [sortN, decide_true, Bool.not_true]
    exact key ds hf.2 hf.1 _ (.inr rfl)
  | dict ks => exact hf.elim
  | none =>
    refine ⟨_, rfl, ?_⟩
    exact gE _ ⟨rfl, rfl⟩ rfl
  | bool b => exact gE _ trivial (decide_eq_true rfl)
  | int b => exact gE _ trivial (decide_eq_true rfl)
  | str b => exact gE _ trivial (decide_eq_true rfl)
theorem rd_law_next (ds : List D) (Q : D → Prop) (h : sp_law_next ds Q) : t_law_next (ndQ Q) (start0 9 ds) := by
  obtain ⟨r, s, n, hr, hs, rfl, q⟩ := h
  unfold t_law_next
  walk_at "dl"
  simp only [eR, eS, eN, str_m, str_g]
  walk_at "dl"
  rw [str_eq, str_eq]
  have hle := hs.le
  refine bIf (fun e => ?_) fun e => ?_
  · have e := of_decide_eq_true e
    rw [mv, if_pos e] at q
    refine bIf (fun e2 => ?_) fun e2 => ?_
    · have e2 := of_decide_eq_true e2
      have : ((s.1 : Int) - (r.dr : Int)) = ((s.1 - r.dr : Nat) : Int) := by omega
      rw [this]
      exact q
    · have e2 := of_decide_eq_false e2
      have : s.1 - r.dr = 0 := by omega
      rw [this] at q
      exact q
  · have e := of_decide_eq_false e
    rw [mv, if_neg e] at q
    have tail : ¬ (s.1 = r.st.length ∨ (n = .g ∧ r.sc = true)) → ∃ d, atI (List.map eNat r.st) ↑s.fst = some d ∧
            gEq (PyData.int (↑s.snd + 1)) d fun z =>
              match z with
              | PyData.bool b =>
                match b with
                | true => Q (PyData.tuple [PyData.int (↑s.fst + 1), PyData.int 0])
                | false => Q (PyData.tuple [PyData.int ↑s.fst, PyData.int (↑s.snd + 1)])
              | x => False := fun h => by
      rw [if_neg h] at q
      have h1 : ¬ s.1 = r.st.length := fun z => h (.inl z)
      have h2 := hs.lt (by omega)
      refine ⟨_, atI_map (d := 0) (by omega), ?_⟩
      simp only [eNat, gEq_int]
      refine bIf (fun e2 => ?_) fun e2 => ?_
      · have := of_decide_eq_true e2
        rw [if_neg (by omega)] at q
        exact q
      · have := of_decide_eq_false e2
        rw [if_pos (by omega)] at q
        exact q
    refine bIf (fun e1 => ?_) fun e1 => ?_
    · have := of_decide_eq_true e1
      rw [List.length_map] at this
      rw [if_pos (.inl (by omega))] at q
      exact q
    · have := of_decide_eq_false e1
      rw [List.length_map] at this
      refine bIf (fun e2 => ?_) fun e2 => ?_
      · refine bIf (fun e3 => ?_) fun e3 => ?_
        · rw [if_pos (.inr ⟨of_decide_eq_true e3, e2⟩)] at q
          exact q
        · exact tail fun h => by
            rcases h with h | h
            · omega
            · exact absurd h.1 (of_decide_eq_false e3)
      · exact tail fun h => by
          rcases h with h | h
          · omega
          · rw [e2] at h
            cases h.2
theorem rd_law_worth (ds : List D) (Q : D → Prop) (h : sp_law_worth ds Q) : t_law_worth (ndQ Q) (start0 6 ds) := by
  obtain ⟨r, s, n, hr, hs, rfl, q⟩ := h
  unfold t_law_worth
  walk_at "dl"
  simp only [eR, eS, eN, str_m, str_g]
  walk_at "dl"
  rw [str_eq, str_eq]
  have h1 : s.1 < r.pt.length := by
    have := hs.le
    rw [hr.pl]; omega
  refine ⟨_, rfl, _, rfl, _, atI_map (d := (0, 0, 0)) h1, ?_⟩
  simp only [eW]
  walk_at "dl"
  cases n
  · exact q
  · exact q
  · exact q
theorem rd_law_went (ds : List D) (Q : D → Prop) (h : sp_law_went ds Q) : t_law_went (ndQ Q) (start0 5 ds) := by
  obtain ⟨r, s, p, hr, hs, hp, rfl, q⟩ := h
  unfold t_law_went
  walk_at "dl"
  simp only [ePl, seqD_str, signs_pl]
  refine fLoop_inv (fun i δ => ∃ x, δ = [.v (eR r), .v (eS (went r s (p.take i)).2), .v (.str (plS p)), .ol ((went r s (p.take i)).1.map .int), x] ∧ x.isLd = false) ⟨_, rfl, rfl⟩ (fun i d δ K hd hI hK => ?_) fun δ hI => ?_
  · obtain ⟨x, rfl, hx⟩ := hI
    rw [List.getElem?_map] at hd
    cases hn : p[i]? with
    | none => rw [hn] at hd; cases hd
    | some n =>
      rw [hn] at hd
      cases hd
      have hlt := (List.getElem?_eq_some_iff.mp hn).1
      have hs' := went_ok hr (p.take i) hs
      walk_at "dl"
      refine ⟨hx, ?_⟩
      · refine ⟨r, _, n, hr, hs', rfl, ?_⟩
        have hl := len_le_take (r := r) (s := s) p i
        have e := went_take (r := r) (s := s) hn
        refine ⟨by simp only [List.length_map]; omega, r, _, n, hr, hs', rfl, ?_⟩
        refine hK _ ⟨.v (eN n), ?_, rfl⟩
        rw [e]
        simp only [List.map_append]
        rfl
  · obtain ⟨x, rfl, hx⟩ := hI
    walk_at "dl"
    rw [List.length_map, List.take_length]
    exact q
/-! ### decks -/
def sp_law_pick : DSpk := fun n ds Q => ∃ lim : Nat, 0 < lim ∧ lim < 2 ^ 30 ∧ n < 1000000000 ∧ ds = [.int lim] ∧ ∀ k : Nat, k < lim → Q (.int k) (n + 1)
def sp_law_deck : List D → (Nat → Prop) → Prop := fun ds Q => ∃ (cell : Int) (turn : Nat), ds = [.int cell, .int turn] ∧ Q turn
def sp_law_triple : DSpk := fun n ds Q => n < 900000000 ∧ ds = [] ∧ ∀ t : Int × Int × Int, pOk t.1 → pOk t.2.1 → pOk t.2.2 → Q (eW t) (n + 4)
def sp_law_rule : DSpk := fun n ds Q => n < 800000000 ∧ ∃ most : Nat, most ≤ 3 ∧ ds = [.int most] ∧ ∀ r : Rule, r.Ok → r.st.length ≤ most → Q (eR r) (n + 30)
def sp_law_song : DSpk := fun n ds Q => n < 800000000 ∧ ∃ most : Nat, most ≤ 1000 ∧ ds = [.int most] ∧ ∀ p : Pl, p.length ≤ most → Q (ePl p) (n + (most + 1))
theorem len_law_triple (n : Nat) (ds : List D) (Q : D → Nat → Prop) : sp_law_triple n ds Q → ds.length + 1 = 1 := by rintro ⟨_, rfl, _⟩; rfl
theorem len_law_rule (n : Nat) (ds : List D) (Q : D → Nat → Prop) : sp_law_rule n ds Q → ds.length + 1 = 2 := by rintro ⟨_, _, _, rfl, _⟩; rfl
theorem len_law_song (n : Nat) (ds : List D) (Q : D → Nat → Prop) : sp_law_song n ds Q → ds.length + 1 = 2 := by rintro ⟨_, _, _, rfl, _⟩; rfl
/-- _law_triple: 0 deck -/
def t_law_triple : DSt := (sSeq (sIf (dTst (dOp gEq (dCallK 0 sp_law_pick (dCons (dC (.int 6)) dNil)) (dC (.int 0)))) (sRet (dTup (dCons (dOp gSub (dCallK 0 sp_law_pick (dCons (dC (.int 41)) dNil)) (dC (.int 20))) (dCons (dOp gSub (dCallK 0 sp_law_pick (dCons (dC (.int 41)) dNil)) (dC (.int 20))) (dCons (dOp gSub (dCallK 0 sp_law_pick (dCons (dC (.int 41)) dNil)) (dC (.int 20))) dNil))))) sNext)
    (sRet (dTup (dCons (dOp gSub (dCallK 0 sp_law_pick (dCons (dC (.int 5)) dNil)) (dC (.int 1))) (dCons (dOp gSub (dCallK 0 sp_law_pick (dCons (dC (.int 4)) dNil)) (dC (.int 2))) (dCons (dCallK 0 sp_law_pick (dCons (dC (.int 6)) dNil)) dNil))))))
/-- _law_rule: 0 deck, 1 most, 2 ladder, 3 table, 4 turn -/
def t_law_rule : DSt := (sSeq (sAsg (dCall gTupOf (dCons (dFz (dLc (dR1 (dCons (dCallK 0 sp_law_pick (dCons (dOp gAdd (dVar 1) (dC (.int 1))) dNil)) dNil)) (gN 4) bYes (dOp gAdd (dC (.int 1)) (dCallK 0 sp_law_pick (dCons (dC (.int 3)) dNil))) [4])) dNil)) (gN 2))
    (sSeq (sAsg (dCall gTupOf (dCons (dFz (dLc (dR1 (dCons (dOp gAdd (dCall gLen (dCons (dVar 2) dNil)) (dC (.int 1))) dNil)) (gN 4) bYes (dCallK 0 sp_law_triple dNil) [4])) dNil)) (gN 3))
    (sRet (dTup (dCons (dVar 2) (dCons (dCallK 0 sp_law_pick (dCons (dC (.int 4)) dNil)) (dCons (dOp gEq (dCallK 0 sp_law_pick (dCons (dC (.int 2)) dNil)) (dC (.int 1))) (dCons (dVar 3) dNil))))))))
/-- _law_song: 0 deck, 1 most, 2 turn -/
def t_law_song : DSt := (sRet (dM1 gJoin (dC (.str "")) (dFz (dLc (dR1 (dCons (dCallK 0 sp_law_pick (dCons (dOp gAdd (dVar 1) (dC (.int 1))) dNil)) dNil)) (gN 2) bYes (dOp gIx (dC (.str "gmp")) (dCallK 0 sp_law_pick (dCons (dC (.int 3)) dNil))) [2]))))
theorem rd_law_triple (n : Nat) (ds : List D) (Q : D → Nat → Prop) (h : sp_law_triple n ds Q) : t_law_triple (ndK Q) (start1 1 n ds) := by
  obtain ⟨hn, rfl, q⟩ := h
  unfold t_law_triple
  walk_at "dl"
  refine ⟨6, by decide, by decide, by omega, rfl, fun k hk => ?_⟩
  walk_at "dl"
  refine bIf (fun e => ?_) fun e => ?_
  · refine ⟨41, by decide, by decide, by omega, rfl, fun a ha => ⟨41, by decide, by decide, by omega, rfl, fun b hb => ⟨41, by decide, by decide, by omega, rfl, fun c hc => ?_⟩⟩⟩
    walk_at "dl"
    refine ⟨n + 4, by omega, q (a - 20, b - 20, c - 20) ?_ ?_ ?_⟩ <;> (unfold pOk; dsimp only; omega)
  · refine ⟨5, by decide, by decide, by omega, rfl, fun a ha => ⟨4, by decide, by decide, by omega, rfl, fun b hb => ⟨6, by decide, by decide, by omega, rfl, fun c hc => ?_⟩⟩⟩
    walk_at "dl"
    refine ⟨n + 4, by omega, q (a - 1, b - 2, c) ?_ ?_ ?_⟩ <;> (unfold pOk; dsimp only; omega)
theorem rd_law_rule (n : Nat) (ds : List D) (Q : D → Nat → Prop) (h : sp_law_rule n ds Q) : t_law_rule (ndK Q) (start1 5 n ds) := by
  obtain ⟨hn, most, hm, rfl, q⟩ := h
  unfold t_law_rule
  walk_at "dl"
  refine ⟨most + 1, by omega, by omega, by omega, rfl, fun k hk => ⟨⟨by omega, by omega⟩, ?_⟩⟩
  refine cB_inv (fun i acc δ => ∃ (m : Nat) (xs : List Nat) (x : Sl), δ = [.ld m, .v (.int most), .un, .un, x] ∧ m ≤ n + 1 + i ∧ acc = xs.map eNat ∧ xs.length = i ∧ ∀ y ∈ xs, 1 ≤ y ∧ y ≤ 3) ⟨n + 1, [], .un, rfl, by omega, rfl, rfl, fun _ h => by cases h⟩ (fun i d acc δ K hi hI hK => ?_) fun acc δ hI => ?_
  · obtain ⟨m, xs, x, rfl, hm2, rfl, hl, hx⟩ := hI
    obtain ⟨hlt, rfl⟩ := rng_at hi
    walk_at "dl"
    refine ⟨3, by decide, by decide, by omega, rfl, fun a ha => ?_⟩
    walk_at "dl"
    refine ⟨by rw [List.length_map]; omega, hK _ _ ⟨m + 1, xs ++ [1 + a], _, rfl, by omega, ?_, by simp [hl], fun y hy => ?_⟩⟩
    · rw [List.map_append]
      rfl
    · rcases List.mem_append.mp hy with h | h
      · exact hx y h
      · rw [List.mem_singleton.mp h]; omega
  · obtain ⟨m, st, x, rfl, hm2, rfl, hl, hst⟩ := hI
    rw [rngD_len] at hl hm2
    walk_at "dlb"
    rw [List.length_map]
    refine ⟨⟨by omega, by omega⟩, ?_⟩
    refine cB_inv (fun i acc δ => ∃ (m' : Nat) (xs : List (Int × Int × Int)) (x : Sl), δ = [.ld m', .v (.int most), .v (.tuple (st.map eNat)), .un, x] ∧ m' ≤ m + 4 * i ∧ acc = xs.map eW ∧ xs.length = i ∧ ∀ t ∈ xs, pOk t.1 ∧ pOk t.2.1 ∧ pOk t.2.2) ⟨m, [], .un, rfl, by omega, rfl, rfl, fun _ h => by cases h⟩ (fun i d acc δ K hi hI hK => ?_) fun acc δ hI => ?_
    · obtain ⟨m', xs, x, rfl, hm3, rfl, hl2, hx⟩ := hI
      obtain ⟨hlt, rfl⟩ := rng_at hi
      walk_at "dl"
      refine ⟨by omega, rfl, fun t h1 h2 h3 => ⟨by rw [List.length_map]; omega, hK _ _ ⟨m' + 4, xs ++ [t], _, rfl, by omega, ?_, by simp [hl2], fun y hy => ?_⟩⟩⟩
      · rw [List.map_append]
        rfl
      · rcases List.mem_append.mp hy with h | h
        · exact hx y h
        · rw [List.mem_singleton.mp h]; exact ⟨h1, h2, h3⟩
    · obtain ⟨m', pt, x, rfl, hm3, rfl, hl2, hpt⟩ := hI
      rw [rngD_len] at hl2 hm3
      walk_at "dlb"
      refine ⟨4, by decide, by decide, by omega, rfl, fun a ha => ⟨2, by decide, by decide, by omega, rfl, fun b hb => ?_⟩⟩
      walk_at "dl"
      refine ⟨n + 30, by omega, ?_⟩
      exact q ⟨st, a, decide ((b : Int) = 1), pt⟩ ⟨by show st.length ≤ 3; omega, hst, by show a ≤ 3; omega, by show pt.length = st.length + 1; omega, hpt⟩ (by show st.length ≤ most; omega)
theorem join_pl (p : Pl) : Txt.join ("" : Str) (p.map Nt.s) = plS p := by
  rw [show Txt.join ("" : Str) (p.map Nt.s) = Str.join "" (p.map Nt.s) from TL.join_eq _ _]
  induction p with
  | nil => rfl
  | cons n p ih =>
    cases p with
    | nil => rfl
    | cons m p =>
      have : Str.join ("" : Str) (n.s :: (m :: p).map Nt.s) = n.s ++ "" ++ Str.join "" ((m :: p).map Nt.s) := rfl
      rw [List.map_cons, this, ih]
      exact TL.ext_tl (by rw [TL.tl_append, TL.tl_append]; rfl)
theorem rd_law_song (n : Nat) (ds : List D) (Q : D → Nat → Prop) (h : sp_law_song n ds Q) : t_law_song (ndK Q) (start1 3 n ds) := by
  obtain ⟨hn, most, hm, rfl, q⟩ := h
  unfold t_law_song
  walk_at "dl"
  refine ⟨most + 1, by omega, by omega, by omega, rfl, fun k hk => ⟨⟨by omega, by omega⟩, ?_⟩⟩
  refine cB_inv (fun i acc δ => ∃ (m : Nat) (p : Pl) (x : Sl), δ = [.ld m, .v (.int most), x] ∧ m ≤ n + 1 + i ∧ acc = p.map eN ∧ p.length = i) ⟨n + 1, [], .un, rfl, by omega, rfl, rfl⟩ (fun i d acc δ K hi hI hK => ?_) fun acc δ hI => ?_
  · obtain ⟨m, p, x, rfl, hm2, rfl, hl⟩ := hI
    obtain ⟨hlt, rfl⟩ := rng_at hi
    walk_at "dl"
    refine ⟨3, by decide, by decide, by omega, rfl, fun a ha => ?_⟩
    walk_at "dl"
    obtain ⟨c, hc⟩ : ∃ c : Nt, atI ("gmp" : Str).cps.toList (a : Int) = some c.c := by
      match a, ha with
      | 0, _ => exact ⟨.g, rfl⟩
      | 1, _ => exact ⟨.m, rfl⟩
      | 2, _ => exact ⟨.p, rfl⟩
    refine ⟨by decide, c.c, hc, by rw [List.length_map]; omega, hK _ _ ⟨m + 1, p ++ [c], _, rfl, by omega, ?_, by simp [hl]⟩⟩
    rw [List.map_append]
    rfl
  · obtain ⟨m, p, x, rfl, hm2, rfl, hl⟩ := hI
    rw [rngD_len] at hl hm2
    walk_at "dlb"
    refine ⟨p.map Nt.s, by rw [List.map_map]; rfl, ?_, ?_⟩
    · rw [List.map_map]
      have : (p.map ((fun x : Str => x.length) ∘ Nt.s)).sum = p.length := by
        clear hl
        induction p with
        | nil => rfl
        | cons c p ih => rw [List.map_cons, List.sum_cons, ih, List.length_cons]; show 1 + _ = _; omega
      rw [this, List.length_map]
      show p.length + p.length * 0 ≤ _
      omega
    · rw [join_pl]
      exact ⟨_, by omega, q p (by omega)⟩
end SpB
namespace K01
open PySem PySem.Spec L2 DL SpA SpB
open PyProof.Rows hiding St
local macro_rules | `(tactic| walk_at "dl") => `(tactic| simp only [sNext, sSeq, sExpr, sRet, sIf, sNever, sBreak, sCont, gN, gsNil, gsCons, gTp, sAsg, sAug, sSetO, fzS, sFz, sApp, sFor, dVar, dC, dOp, dTst, dChain, bAnd, bOr, bNot, dAnd, dOr, dNot, dIf, dNil, dCons, dTup, dLst, dCall, dIsi, dNeg, dM1, isStr, dSl, oNone, oSome, dFz, dRepO, dLc, bYes, dIt, dR1, dR2, dEnum, dZip, dCallK, sSetK, sPar2, sPar3, DL.gSub, gMod, gDiv, gPow, gLt, gLe, gGt, gGe, start0, start1, dkQ, noOwn, wipeD, gEq_int, gEq_str, gEq_bool, gNe_int, gNe_str, gNe_bool, gAdd_int, gAdd_str, gAdd_tup, gAdd_lst, gAdd_bi, gMul_int, gMul_tup, gI_int, gIC_int, gIs_non, gNot_non, gIs_bool, gNot_bool, gIx_lst, gIx_tup, gIx_str, gLen_lst, gLen_tup, gLen_str, gMax_int, gMin_int, gAll_lst, gAny_lst, gTupOf_lst, gTupOf_tup, gLstOf_lst, gLstOf_tup, gInt_int, gSum_lst, gSum_tup, gIdxS_str, gJoin_str, gCount_str, seqD_lst, seqD_tup, seqD_str, isNone_non, isNone_int, isNone_tup, isNone_str, isNone_lst, gSl_tup, gSl_lst, isT_it, isT_ib, isT_in, isT_is, isT_il, isT_iu, isT_bi, isT_bb, isT_bn, isT_bs, isT_bl, isT_bu, isT_si, isT_sb, isT_sn, isT_ss, isT_sl, isT_su, isT_ui, isT_ub, isT_un, isT_us, isT_ul, isT_uu, isT_li, isT_lb, isT_ln, isT_ls, isT_ll, isT_id, isT_bd, isT_sd, isT_ud, isT_ld, isT_lu, Sl.own, Sl.isLd, List.map_cons, List.map_nil, List.length_cons, List.length_nil, List.replicate_succ, List.replicate_zero, List.cons_append, List.nil_append, List.append_nil, List.getElem?_cons_zero, List.getElem?_cons_succ, List.set_cons_zero, List.set_cons_succ, List.getD_cons_zero, List.getD_cons_succ, List.all_cons, List.all_nil, Nat.reduceAdd, Nat.reduceSub, Nat.reduceLeDiff, Nat.reduceLT, Bool.not_false, Bool.not_true, Bool.and_true, Bool.true_and, Bool.and_self, and_true, true_and, reduceCtorEq])
local macro_rules | `(tactic| walk_at "dlb") => `(tactic| simp only [backD, sNext, sSeq, sExpr, sRet, sIf, sNever, sBreak, sCont, gN, gsNil, gsCons, gTp, sAsg, sAug, sSetO, fzS, sFz, sApp, sFor, dVar, dC, dOp, dTst, dChain, bAnd, bOr, bNot, dAnd, dOr, dNot, dIf, dNil, dCons, dTup, dLst, dCall, dIsi, dNeg, dM1, isStr, dSl, oNone, oSome, dFz, dRepO, dLc, bYes, dIt, dR1, dR2, dEnum, dZip, dCallK, sSetK, sPar2, sPar3, DL.gSub, gMod, gDiv, gPow, gLt, gLe, gGt, gGe, start0, start1, dkQ, noOwn, wipeD, gEq_int, gEq_str, gEq_bool, gNe_int, gNe_str, gNe_bool, gAdd_int, gAdd_str, gAdd_tup, gAdd_lst, gAdd_bi, gMul_int, gMul_tup, gI_int, gIC_int, gIs_non, gNot_non, gIs_bool, gNot_bool, gIx_lst, gIx_tup, gIx_str, gLen_lst, gLen_tup, gLen_str, gMax_int, gMin_int, gAll_lst, gAny_lst, gTupOf_lst, gTupOf_tup, gLstOf_lst, gLstOf_tup, gInt_int, gSum_lst, gSum_tup, gIdxS_str, gJoin_str, gCount_str, seqD_lst, seqD_tup, seqD_str, isNone_non, isNone_int, isNone_tup, isNone_str, isNone_lst, gSl_tup, gSl_lst, isT_it, isT_ib, isT_in, isT_is, isT_il, isT_iu, isT_bi, isT_bb, isT_bn, isT_bs, isT_bl, isT_bu, isT_si, isT_sb, isT_sn, isT_ss, isT_sl, isT_su, isT_ui, isT_ub, isT_un, isT_us, isT_ul, isT_uu, isT_li, isT_lb, isT_ln, isT_ls, isT_ll, isT_id, isT_bd, isT_sd, isT_ud, isT_ld, isT_lu, Sl.own, Sl.isLd, List.map_cons, List.map_nil, List.length_cons, List.length_nil, List.replicate_succ, List.replicate_zero, List.cons_append, List.nil_append, List.append_nil, List.getElem?_cons_zero, List.getElem?_cons_succ, List.set_cons_zero, List.set_cons_succ, List.getD_cons_zero, List.getD_cons_succ, List.all_cons, List.all_nil, Nat.reduceAdd, Nat.reduceSub, Nat.reduceLeDiff, Nat.reduceLT, Bool.not_false, Bool.not_true, Bool.and_true, Bool.true_and, Bool.and_self, and_true, true_and, reduceCtorEq])
/-! ### things of bounded size -/
mutual
def smb (L : Nat) : D → Bool
  | .str z => decide (z.length ≤ L)
  | .list ds => decide (ds.length ≤ L) && smbs L ds
  | .tuple ds => decide (ds.length ≤ L) && smbs L ds
  | _ => true
def smbs (L : Nat) : List D → Bool
  | [] => true
  | d :: ds => smb L d && smbs L ds
end
/-- good: laid, of depth at most n, all within L -/
structure Gd (L n : Nat) (d : D) : Prop where
  lay : d.canLay0 = true
  dep : d.depth ≤ n
  sm : smb L d = true
theorem smbs_iff {L : Nat} : ∀ {ds : List D}, smbs L ds = true ↔ ∀ d ∈ ds, smb L d = true
  | [] => ⟨fun _ _ h => (by cases h), fun _ => rfl⟩
  | e :: ds => by
    simp only [smbs, Bool.and_eq_true, List.forall_mem_cons, smbs_iff (ds := ds)]
theorem lays_iff : ∀ {ds : List D}, PyData.canLayAll0 ds = true ↔ ∀ d ∈ ds, d.canLay0 = true
  | [] => ⟨fun _ _ h => (by cases h), fun _ => rfl⟩
  | e :: ds => by
    simp only [PyData.canLayAll0, Bool.and_eq_true, List.forall_mem_cons, lays_iff (ds := ds)]
theorem deps_iff {n : Nat} : ∀ {ds : List D}, PyData.depthAll ds ≤ n ↔ ∀ d ∈ ds, d.depth ≤ n
  | [] => ⟨fun _ _ h => (by cases h), fun _ => Nat.zero_le _⟩
  | e :: ds => by
    simp only [PyData.depthAll, List.forall_mem_cons, ← deps_iff (ds := ds)]
    omega
theorem gd_tup {L n : Nat} {ds : List D} : Gd L (n + 1) (.tuple ds) ↔ ds.length ≤ L ∧ ∀ d ∈ ds, Gd L n d := by
  constructor
  · intro h
    have h1 := h.lay
    have h2 := h.dep
    have h3 := h.sm
    simp only [PyData.canLay0, lays_iff] at h1
    simp only [PyData.depth] at h2
    have h2 := deps_iff.mp (show PyData.depthAll ds ≤ n by omega)
    simp only [smb, Bool.and_eq_true, decide_eq_true_eq, smbs_iff] at h3
    exact ⟨h3.1, fun d hd => ⟨h1 d hd, h2 d hd, h3.2 d hd⟩⟩
  · intro ⟨h, k⟩
    refine ⟨?_, ?_, ?_⟩
    · simp only [PyData.canLay0, lays_iff]; exact fun d hd => (k d hd).lay
    · simp only [PyData.depth]; exact Nat.succ_le_succ (deps_iff.mpr fun d hd => (k d hd).dep)
    · simp only [smb, Bool.and_eq_true, decide_eq_true_eq, smbs_iff]; exact ⟨h, fun d hd => (k d hd).sm⟩
theorem gd_lst {L n : Nat} {ds : List D} : Gd L n (.tuple ds) → Gd L n (.list ds) := fun h => ⟨h.lay, h.dep, h.sm⟩
mutual
theorem smb_mono {L M : Nat} (l : L ≤ M) : ∀ d : D, smb L d = true → smb M d = true
  | .str z, h => by simp only [smb, decide_eq_true_eq] at h ⊢; omega
  | .list ds, h => by simp only [smb, Bool.and_eq_true, decide_eq_true_eq] at h ⊢; exact ⟨by omega, smbs_mono l ds h.2⟩
  | .tuple ds, h => by simp only [smb, Bool.and_eq_true, decide_eq_true_eq] at h ⊢; exact ⟨by omega, smbs_mono l ds h.2⟩
  | .none, _ => rfl
  | .int _, _ => rfl
  | .bool _, _ => rfl
  | .dict _, _ => rfl
theorem smbs_mono {L M : Nat} (l : L ≤ M) : ∀ ds : List D, smbs L ds = true → smbs M ds = true
  | [], _ => rfl
  | d :: ds, h => by simp only [smbs, Bool.and_eq_true] at h ⊢; exact ⟨smb_mono l d h.1, smbs_mono l ds h.2⟩
end
mutual
theorem smb_sml : ∀ d : D, smb 16777216 d = sml d
  | .str z => rfl
  | .list ds => by simp only [smb, sml, smbs_smls ds]
  | .tuple ds => by simp only [smb, sml, smbs_smls ds]
  | .none => rfl
  | .int _ => rfl
  | .bool _ => rfl
  | .dict _ => rfl
theorem smbs_smls : ∀ ds : List D, smbs 16777216 ds = smls ds
  | [] => rfl
  | d :: ds => by simp only [smbs, smls, smb_sml d, smbs_smls ds]
end
theorem Gd.sml {L n : Nat} {d : D} (h : Gd L n d) (l : L ≤ 16777216) : SpA.sml d = true := by
  rw [← smb_sml]; exact smb_mono l d h.sm
theorem Gd.mono {L M n m : Nat} {d : D} (h : Gd L n d) (l : L ≤ M) (k : n ≤ m) : Gd M m d := ⟨h.lay, Nat.le_trans h.dep k, smb_mono l d h.sm⟩
/-! ### the law's own check -/
def isWhole : D → Bool
  | .int _ => true
  | _ => false
def sp_law_whole : DSp := fun ds Q => ∃ v, ds = [v] ∧ Q (.bool (isWhole v))
def sp_law_is_row : DSp := fun ds Q => ∃ v lo hi, ds = [v, .int lo, .int hi] ∧ sml v = true ∧ Q (.bool (areFrom lo hi v))
def sp_law_is := sp_is_rule_of
def sp_is_rule := sp_is_rule_of
theorem len_law_whole (ds : List D) (Q : D → Prop) : sp_law_whole ds Q → ds.length = 1 := by rintro ⟨v, rfl, _⟩; rfl
theorem len_law_is_row (ds : List D) (Q : D → Prop) : sp_law_is_row ds Q → ds.length = 3 := by rintro ⟨v, _, _, rfl, _⟩; rfl
theorem len_law_is (ds : List D) (Q : D → Prop) : sp_law_is ds Q → ds.length = 1 := len_is_rule_of ds Q
theorem len_is_rule (ds : List D) (Q : D → Prop) : sp_is_rule ds Q → ds.length = 1 := len_is_rule_of ds Q
def sp_law_one : DSpk := fun m ds Q => ∃ xs : List D, m < 900000000 ∧ ds = [.list xs] ∧ xs ≠ [] ∧ xs.length < 1000 ∧ ∀ x ∈ xs, Q x (m + 1)
theorem len_law_one (n : Nat) (ds : List D) (Q : D → Nat → Prop) : sp_law_one n ds Q → ds.length + 1 = 2 := by rintro ⟨_, _, rfl, _⟩; rfl
def sp_law_changed : Nat → DSpk := fun n m ds Q => ∃ v L d, ds = [v] ∧ m + 10 * n ≤ 800000000 ∧ 3 ≤ L ∧ L ≤ 1000 ∧ n ≤ 60 ∧ d < n ∧ Gd L d v ∧ ∀ v', Gd (L + 1) (d + 1) v' → Q v' (m + 10 * n)
theorem len_law_changed {k : Nat} (n : Nat) (ds : List D) (Q : D → Nat → Prop) : sp_law_changed k n ds Q → ds.length + 1 = 2 := by rintro ⟨_, _, _, rfl, _⟩; rfl
theorem no_law_changed (n : Nat) (ds : List D) (Q : D → Nat → Prop) : sp_law_changed 0 n ds Q → False := by rintro ⟨_, _, _, _, _, _, _, _, h, _⟩; omega
def sp_law : DSp := fun ds Q => ∃ ns : List Int, ns.length ≤ 63 ∧ ds = [.list (ns.map .int)] ∧ Q (.bool true)
theorem len_law (ds : List D) (Q : D → Prop) : sp_law ds Q → ds.length = 1 := by rintro ⟨v, _, rfl, _⟩; rfl
/-- is_rule: 0 value -/
def t_is_rule : DSt := (sRet (dCall sp_is_rule_of (dCons (dVar 0) dNil)))
/-- _law_whole: 0 thing -/
def t_law_whole : DSt := (sRet (dAnd (dIsi .int (dVar 0)) (dNot (dIsi .bool (dVar 0)))))
/-- _law_is_row: 0 thing, 1 low, 2 high, 3 part -/
def t_law_is_row : DSt := (sSeq (sIf (bOr (bNot (dTst (dIsi .tuple (dVar 0)))) (dTst (dOp gNe (dFz (dLc (dIt (dVar 0)) (gN 3) (bNot (dTst (dCall sp_law_whole (dCons (dVar 3) dNil)))) (dC (.int 1)) [3])) (dLst dNil)))) (sRet (dC (.bool false))) sNext)
    (sRet (dOp gEq (dFz (dLc (dIt (dVar 0)) (gN 3) (bNot (dTst (dChain gLe gLe (dVar 1) (dVar 3) (dVar 2)))) (dC (.int 1)) [3])) (dLst dNil))))
/-- _law_is: 0 thing, 1 row -/
def t_law_is : DSt := (sSeq (sIf (bOr (bNot (dTst (dIsi .tuple (dVar 0)))) (bOr (dTst (dOp gNe (dCall gLen (dCons (dVar 0) dNil)) (dC (.int 4)))) (bOr (bNot (dTst (dCall sp_law_is_row (dCons (dOp gIx (dVar 0) (dC (.int 0))) (dCons (dC (.int 1)) (dCons (dC (.int 3)) dNil)))))) (dTst (dOp gGt (dCall gLen (dCons (dOp gIx (dVar 0) (dC (.int 0))) dNil)) (dC (.int 3))))))) (sRet (dC (.bool false))) sNext)
    (sSeq (sIf (bOr (bNot (dTst (dCall sp_law_whole (dCons (dOp gIx (dVar 0) (dC (.int 1))) dNil)))) (bOr (bNot (dTst (dChain gLe gLe (dC (.int 0)) (dOp gIx (dVar 0) (dC (.int 1))) (dC (.int 3))))) (bNot (dTst (dIsi .bool (dOp gIx (dVar 0) (dC (.int 2)))))))) (sRet (dC (.bool false))) sNext)
    (sSeq (sIf (bOr (bNot (dTst (dIsi .tuple (dOp gIx (dVar 0) (dC (.int 3)))))) (dTst (dOp gNe (dCall gLen (dCons (dOp gIx (dVar 0) (dC (.int 3))) dNil)) (dOp gAdd (dCall gLen (dCons (dOp gIx (dVar 0) (dC (.int 0))) dNil)) (dC (.int 1)))))) (sRet (dC (.bool false))) sNext)
    (sRet (dOp gEq (dFz (dLc (dIt (dOp gIx (dVar 0) (dC (.int 3)))) (gN 1) (bOr (bNot (dTst (dCall sp_law_is_row (dCons (dVar 1) (dCons (dNeg (dC (.int 20))) (dCons (dC (.int 20)) dNil)))))) (dTst (dOp gNe (dCall gLen (dCons (dVar 1) dNil)) (dC (.int 3))))) (dC (.int 1)) [1])) (dLst dNil))))))
/-- _law_one: 0 deck, 1 some -/
def t_law_one : DSt := (sRet (dOp gIx (dVar 1) (dCallK 0 sp_law_pick (dCons (dCall gLen (dCons (dVar 1) dNil)) dNil))))
/-- _law_changed: 0 deck, 1 thing, 2 at, 3 way, 4 some -/
def t_law_changed (n : Nat) : DSt := (sCut (sIf (bAnd (dTst (dIsi .tuple (dVar 1))) (bAnd (dTst (dOp gNe (dVar 1) (dTup dNil))) (dTst (dOp gGt (dCallK 0 sp_law_pick (dCons (dC (.int 6)) dNil)) (dC (.int 0)))))) (sSeq (sPar2 2 3 (dCons (dCallK 0 sp_law_pick (dCons (dCall gLen (dCons (dVar 1) dNil)) dNil)) (dCons (dCallK 0 sp_law_pick (dCons (dC (.int 9)) dNil)) dNil)))
    (sSeq (sIf (dTst (dOp gEq (dVar 3) (dC (.int 0)))) (sRet (dOp gAdd (dSl (dVar 1) oNone (oSome (dVar 2))) (dSl (dVar 1) (oSome (dOp gAdd (dVar 2) (dC (.int 1)))) oNone))) sNext)
    (sSeq (sIf (dTst (dOp gEq (dVar 3) (dC (.int 1)))) (sRet (dOp gAdd (dSl (dVar 1) oNone (oSome (dOp gAdd (dVar 2) (dC (.int 1))))) (dSl (dVar 1) (oSome (dVar 2)) oNone))) sNext)
    (sRet (dOp gAdd (dOp gAdd (dSl (dVar 1) oNone (oSome (dVar 2))) (dTup (dCons (dCallK 0 (sp_law_changed n) (dCons (dOp gIx (dVar 1) (dVar 2)) dNil)) dNil))) (dSl (dVar 1) (oSome (dOp gAdd (dVar 2) (dC (.int 1)))) oNone)))))) sNext)
    (sSeq (sAsg (dLst (dCons (dC .none) (dCons (dC (.bool true)) (dCons (dC (.bool false)) (dCons (dC (.int 0)) (dCons (dC (.int 1)) (dCons (dC (.int 3)) (dCons (dC (.int 4)) (dCons (dC (.int 20)) (dCons (dC (.int 21)) (dCons (dNeg (dC (.int 20))) (dCons (dNeg (dC (.int 21))) (dCons (dC (.str "")) (dCons (dTup dNil) (dCons (dLst dNil) (dCons (dOp gPow (dC (.int 10)) (dC (.int 30))) (dCons (dTup (dCons (dC (.int 0)) (dCons (dC (.int 0)) (dCons (dC (.int 0)) dNil)))) dNil))))))))))))))))) (gN 4))
    (sCut (sIf (bAnd (dTst (dIsi .int (dVar 1))) (dTst (dOp gEq (dCallK 0 sp_law_pick (dCons (dC (.int 2)) dNil)) (dC (.int 0))))) (sRet (dOp gAdd (dVar 1) (dCallK 0 sp_law_one (dCons (dLst (dCons (dC (.int 1)) (dCons (dNeg (dC (.int 1))) dNil))) dNil)))) sNext)
    (sRet (dIf (bAnd (dTst (dIsi .tuple (dVar 1))) (dTst (dOp gEq (dCallK 0 sp_law_pick (dCons (dC (.int 3)) dNil)) (dC (.int 0))))) (dCall gLstOf (dCons (dVar 1) dNil)) (dCallK 0 sp_law_one (dCons (dVar 4) dNil)))))))
/-- law: 0 script, 1 k, 2 deck, 3 turn, 4 r, 5 thing, 6 found, 7 row -/
def t_law : DSt := (sSeq (sFor (dR1 (dCons (dC (.int 8)) dNil)) (gN 1) (sSeq (sSetK 2 sp_law_deck (dCons (dOp gIx (dOp gAdd (dVar 0) (dFz (dRepO (dCons (dC (.int 0)) dNil) (dC (.int 8))))) (dVar 1)) (dCons (dVar 1) dNil)))
    (sFor (dR1 (dCons (dC (.int 12)) dNil)) (gN 3) (sSeq (sAsg (dCallK 2 sp_law_rule (dCons (dC (.int 3)) dNil)) (gN 4))
    (sSeq (sIf (dTst (dOp gNot (dCall sp_is_rule (dCons (dVar 4) dNil)) (dC (.bool true)))) (sRet (dC (.bool false))) sNext)
    (sSeq (sAsg (dCallK 2 (sp_law_changed 5) (dCons (dVar 4) dNil)) (gN 5))
    (sCut (sIf (dTst (dOp gEq (dCallK 2 sp_law_pick (dCons (dC (.int 3)) dNil)) (dC (.int 0)))) (sAsg (dCallK 2 (sp_law_changed 5) (dCons (dVar 5) dNil)) (gN 5)) sNext)
    (sSeq (sAsg (dCall sp_is_rule (dCons (dVar 5) dNil)) (gN 6))
    (sIf (bOr (bNot (dTst (dIsi .bool (dVar 6)))) (dTst (dOp gNe (dVar 6) (dCall sp_law_is (dCons (dVar 5) dNil))))) (sRet (dC (.bool false))) sNext)))))))))
    (sSeq (sAsg (dTup (dCons (dNeg (dC (.int 20))) (dCons (dC (.int 0)) (dCons (dC (.int 20)) dNil)))) (gN 7))
    (sSeq (sIf (bOr (dTst (dOp gNot (dCall sp_is_rule (dCons (dTup (dCons (dTup (dCons (dC (.int 3)) (dCons (dC (.int 3)) (dCons (dC (.int 3)) dNil)))) (dCons (dC (.int 3)) (dCons (dC (.bool true)) (dCons (dOp gMul (dTup (dCons (dVar 7) dNil)) (dC (.int 4))) dNil))))) dNil)) (dC (.bool true)))) (dTst (dOp gNot (dCall sp_is_rule (dCons (dTup (dCons (dOp gMul (dTup (dCons (dC (.int 1)) dNil)) (dC (.int 4))) (dCons (dC (.int 0)) (dCons (dC (.bool false)) (dCons (dOp gMul (dTup (dCons (dVar 7) dNil)) (dC (.int 5))) dNil))))) dNil)) (dC (.bool false))))) (sRet (dC (.bool false))) sNext)
    (sRet (dAnd (dOp gIs (dCall sp_is_rule (dCons (dTup (dCons (dTup dNil) (dCons (dC (.int 0)) (dCons (dC (.int 0)) (dCons (dTup (dCons (dVar 7) dNil)) dNil))))) dNil)) (dC (.bool false))) (dOp gIs (dCall sp_is_rule (dCons (dTup (dCons (dTup dNil) (dCons (dC (.int 0)) (dCons (dC (.bool false)) (dCons (dTup dNil) dNil))))) dNil)) (dC (.bool false))))))))
theorem rd_is_rule (ds : List D) (Q : D → Prop) (h : sp_is_rule ds Q) : t_is_rule (ndQ Q) (start0 1 ds) := by
  obtain ⟨v, rfl, hs, q⟩ := h
  unfold t_is_rule
  walk_at "dl"
  exact ⟨v, rfl, hs, q⟩
theorem rd_law_whole (ds : List D) (Q : D → Prop) (h : sp_law_whole ds Q) : t_law_whole (ndQ Q) (start0 1 ds) := by
  obtain ⟨v, rfl, q⟩ := h
  unfold t_law_whole
  walk_at "dl"
  cases v <;> walk_at "dl" <;> exact q
theorem rd_law_is_row (ds : List D) (Q : D → Prop) (h : sp_law_is_row ds Q) : t_law_is_row (ndQ Q) (start0 4 ds) := by
  obtain ⟨v, lo, hi, rfl, hs, q⟩ := h
  unfold t_law_is_row
  walk_at "dl"
  cases v <;> walk_at "dl" <;> try exact q
  rename_i ds
  simp only [sml, Bool.and_eq_true, decide_eq_true_eq] at hs
  refine cB_onesD (p := fun x => !isWhole x) hs.1 (fun x hx K hK => ?_) ?_
  · walk_at "dl"
    exact ⟨_, rfl, hK _ rfl⟩
  · refine ones_ne (bNf (fun e => ?_) fun e => ?_)
    · have : areFrom lo hi (.tuple ds) = false := by
        rw [List.all_eq_false] at e
        obtain ⟨x, hx, e⟩ := e
        simp only [areFrom]
        rw [List.all_eq_false]
        refine ⟨x, hx, ?_⟩
        cases x <;> simp_all [isWhole, isFrom]
      rw [this] at q
      exact q
    · simp only [Bool.not_not, List.all_eq_true] at e
      walk_at "dl"
      refine cB_onesD (p := fun x => !isFrom lo hi x) hs.1 (fun x hx K hK => ?_) ?_
      · have hw := e x hx
        cases x <;> simp only [isWhole, Bool.false_eq_true] at hw
        rename_i i
        walk_at "dl"
        simp only [isFrom] at hK
        refine bIf (fun e1 => ?_) fun e1 => ?_ <;> simp only [e1, Bool.true_and, Bool.false_and] at hK <;> exact hK _ rfl
      · refine ones_eq ?_
        simp only [Bool.not_not]
        exact q
theorem isRule_len {ds : List D} (h : ds.length ≠ 4) : isRule (.tuple ds) = false := by
  unfold isRule
  split
  · rename_i e
    injection e with e
    subst e
    exact absurd rfl h
  · rfl
theorem isRule_st {st dr sc pt : D} (h : areFrom 1 3 st = false) : isRule (.tuple [st, dr, sc, pt]) = false := by
  cases st <;> first | rfl | skip
  cases sc <;> first | rfl | skip
  cases pt <;> first | rfl | skip
  simp only [areFrom] at h
  simp only [isRule, h, Bool.false_and]
theorem isRule_ln {st : List D} {dr sc pt : D} (h : ¬ st.length ≤ 3) : isRule (.tuple [.tuple st, dr, sc, pt]) = false := by
  cases sc <;> first | rfl | skip
  cases pt <;> first | rfl | skip
  simp only [isRule, h, decide_false, Bool.false_and, Bool.and_false]
theorem isRule_dr {st : List D} {dr sc pt : D} (h : isFrom 0 3 dr = false) : isRule (.tuple [.tuple st, dr, sc, pt]) = false := by
  cases sc <;> first | rfl | skip
  cases pt <;> first | rfl | skip
  simp only [isRule, h, Bool.false_and, Bool.and_false]
theorem isRule_pl {st pt : List D} {dr : D} {sc : Bool} (h : ¬ pt.length = st.length + 1) : isRule (.tuple [.tuple st, dr, .bool sc, .tuple pt]) = false := by
  simp only [isRule, h, decide_false, Bool.false_and, Bool.and_false]
theorem rd_law_is (ds : List D) (Q : D → Prop) (h : sp_law_is ds Q) : t_law_is (ndQ Q) (start0 2 ds) := by
  obtain ⟨v, rfl, hs, q⟩ := h
  unfold t_law_is
  walk_at "dl"
  cases v <;> walk_at "dl" <;> try exact q
  rename_i ds
  refine bNf (fun e => ?_) fun e => ?_
  · have := of_decide_eq_false e
    rw [isRule_len (by omega)] at q
    exact q
  · have e' : ds.length = 4 := by
      have := of_decide_eq_true e
      omega
    obtain ⟨st, dr, sc, pt, rfl⟩ : ∃ a b c d, ds = [a, b, c, d] := by
      match ds, e' with
      | [a, b, c, d], _ => exact ⟨a, b, c, d, rfl⟩
    simp only [sml, smls, Bool.and_eq_true, decide_eq_true_eq] at hs
    refine ⟨st, rfl, st, 1, 3, rfl, hs.2.1, bNf (fun e1 => ?_) fun e1 => ?_⟩
    · rw [isRule_st e1] at q
      exact q
    cases st <;> simp only [areFrom, reduceCtorEq] at e1
    rename_i st
    refine ⟨_, rfl, ?_⟩
    walk_at "dl"
    refine bIf (fun e2 => ?_) fun e2 => ?_
    · have := of_decide_eq_true e2
      rw [isRule_ln (by omega)] at q
      exact q
    have e2 : st.length ≤ 3 := by
      have := of_decide_eq_false e2
      omega
    refine ⟨dr, rfl, dr, rfl, bNf (fun e3 => ?_) fun e3 => ?_⟩
    · have : isFrom 0 3 dr = false := by cases dr <;> first | rfl | cases e3
      rw [isRule_dr this] at q
      exact q
    cases dr <;> simp only [isWhole, reduceCtorEq] at e3
    rename_i i
    refine ⟨_, rfl, ?_⟩
    walk_at "dl"
    have hd : isFrom 0 3 (.int i) = (decide (0 ≤ i) && decide (i ≤ 3)) := rfl
    cases hi : isFrom 0 3 (.int i) with
    | false =>
      rw [hi] at hd
      rw [isRule_dr hi] at q
      refine bIf (fun e4 => ?_) fun e4 => q
      rw [e4, Bool.true_and] at hd
      refine bNf (fun e5 => q) fun e5 => ?_
      rw [e5] at hd
      cases hd
    | true =>
    rw [hi] at hd
    have h2 := Bool.and_eq_true_iff.mp hd.symm
    rw [h2.1, h2.2]
    walk_at "dl"
    refine ⟨sc, rfl, bNf (fun e5 => ?_) fun e5 => ?_⟩
    · have : isRule (.tuple [.tuple st, .int i, sc, pt]) = false := by cases sc <;> first | rfl | cases e5
      rw [this] at q
      exact q
    cases sc <;> simp only [isT, reduceCtorEq] at e5
    rename_i sc
    refine ⟨pt, rfl, bNf (fun e6 => ?_) fun e6 => ?_⟩
    · have : isRule (.tuple [.tuple st, .int i, .bool sc, pt]) = false := by cases pt <;> first | rfl | cases e6
      rw [this] at q
      exact q
    cases pt <;> simp only [isT, reduceCtorEq] at e6
    rename_i pt
    refine ⟨_, rfl, ?_⟩
    walk_at "dl"
    refine ⟨_, rfl, ?_⟩
    walk_at "dl"
    refine bNf (fun e7 => ?_) fun e7 => ?_
    · have := of_decide_eq_false e7
      rw [isRule_pl (by omega)] at q
      exact q
    have e7 : pt.length = st.length + 1 := by
      have := of_decide_eq_true e7
      omega
    refine ⟨_, rfl, ?_⟩
    walk_at "dl"
    have hp := hs.2.2.2.2.1
    simp only [sml, Bool.and_eq_true, decide_eq_true_eq] at hp
    refine cB_onesD (p := fun x => !isRow x) hp.1 (fun x hx K hK => ?_) ?_
    · walk_at "dl"
      refine ⟨x, _, _, rfl, smls_mem hp.2 x hx, ?_⟩
      have hx1 : isRow x = (areFrom (-20) 20 x && match x with | .tuple ys => decide (ys.length = 3) | _ => false) := by cases x <;> rfl
      refine bNf (fun e8 => ?_) fun e8 => ?_
      · have e8 : areFrom (-20) 20 x = false := e8
        rw [e8, Bool.false_and] at hx1
        simp only [hx1] at hK
        exact hK _ rfl
      · have e8 : areFrom (-20) 20 x = true := e8
        obtain ⟨ys, rfl⟩ : ∃ ys, x = .tuple ys := by cases x <;> first | exact ⟨_, rfl⟩ | cases e8
        rw [e8, Bool.true_and] at hx1
        simp only [hx1] at hK
        walk_at "dl"
        rw [show decide ((ys.length : Int) = 3) = decide (ys.length = 3) from decide_eq_decide.mpr (by omega)]
        exact hK _ rfl
    · refine ones_eq ?_
      have : isRule (.tuple [.tuple st, .int i, .bool sc, .tuple pt]) = pt.all isRow := by
        simp only [isRule, e1, e2, hi, e7, decide_true, Bool.true_and]
      rw [this] at q
      simp only [Bool.not_not]
      exact q
theorem rd_law_one (n : Nat) (ds : List D) (Q : D → Nat → Prop) (h : sp_law_one n ds Q) : t_law_one (ndK Q) (start1 2 n ds) := by
  obtain ⟨xs, hn, rfl, h0, h1, q⟩ := h
  unfold t_law_one
  walk_at "dl"
  have hl : 0 < xs.length := List.length_pos_iff.mpr h0
  refine ⟨xs.length, hl, by omega, by omega, rfl, fun k hk => ?_⟩
  walk_at "dl"
  exact ⟨_, atI_ok (List.getElem?_eq_getElem hk), _, Nat.le_refl _, q _ (List.getElem_mem _)⟩
theorem cutD_take1 {xs : List D} {a : Nat} : cutD xs none (some ((a : Int) + 1)) = xs.take (a + 1) := cutD_take xs (a + 1)
theorem cutD_drop1 {xs : List D} {a : Nat} : cutD xs (some ((a : Int) + 1)) none = xs.drop (a + 1) := cutD_drop xs (a + 1)
theorem Gd.of3 {d : D} (h : (d.canLay0 && decide (d.depth ≤ 1) && smb 3 d) = true) : Gd 3 1 d := by
  simp only [Bool.and_eq_true, decide_eq_true_eq] at h
  exact ⟨h.1.1, h.1.2, h.2⟩
theorem gd_leaf {L n : Nat} {d : D} (h : d ∈ [.none, .bool true, .bool false, .int 0, .int 1, .int 3, .int 4, .int 20, .int 21, .int (-20), .int (-21), .str "", .tuple [], .list [], .int (10 ^ Int.toNat 30), .tuple [.int 0, .int 0, .int 0]]) (hL : 3 ≤ L) : Gd L (n + 1) d := by
  have : Gd 3 1 d := by
    simp only [List.mem_cons, List.not_mem_nil, or_false] at h
    rcases h with rfl | rfl | rfl | rfl | rfl | rfl | rfl | rfl | rfl | rfl | rfl | rfl | rfl | rfl | rfl | rfl <;> exact Gd.of3 (by decide +kernel)
  exact this.mono hL (by omega)
theorem gd_int {L n : Nat} {i : Int} : Gd L n (.int i) := ⟨rfl, Nat.zero_le _, rfl⟩
theorem ne_nil {L d : Nat} {ds : List D} (h : Gd L d (.tuple ds)) (hd : d ≤ 60) {Q : D → Prop} (q : Q (.bool (!decide (ds = [])))) : gNe (.tuple ds) (.tuple []) Q := by
  have e : PyData.eqv (.tuple ds) (.tuple []) = decide (ds = []) := by
    cases ds with
    | nil => rfl
    | cons x xs => rfl
  refine ⟨okEq_of ?_ rfl, by rw [eqD_eq, e]; exact q⟩
  unfold SeqAt.shaped
  have h1 := h.dep
  rw [h.lay, decide_eq_true (by omega)]
  rfl
theorem rd_law_changed (k : Nat) (n : Nat) (ds : List D) (Q : D → Nat → Prop) (h : sp_law_changed (k + 1) n ds Q) : t_law_changed k (ndK Q) (start1 5 n ds) := by
  obtain ⟨v, L, d, rfl, hn, hL, hL2, hk, hd, hv, q⟩ := h
  unfold t_law_changed
  refine seq_cut (fun δ => ∃ m x y, m ≤ n + 1 ∧ δ = [.ld m, .v v, x, y, .un]) ?_ fun M hM => ?_
  · rintro δ' ⟨m, x, y, hm, rfl⟩
    have fin : ∀ m' v', m' ≤ n + 10 * (k + 1) → Gd (L + 1) (d + 1) v' → ∃ m2, m' ≤ m2 ∧ Q v' m2 := fun m v' hm hv' => ⟨_, hm, q v' hv'⟩
    have one : ∀ m', m' ≤ n + 5 → sp_law_one m'
                          [PyData.list
                              [PyData.none, PyData.bool true, PyData.bool false, PyData.int 0, PyData.int 1,
                                PyData.int 3, PyData.int 4, PyData.int 20, PyData.int 21, PyData.int (-20),
                                PyData.int (-21), PyData.str (Str.ofString ""), PyData.tuple [], PyData.list [],
                                PyData.int (10 ^ Int.toNat 30),
                                PyData.tuple [PyData.int 0, PyData.int 0, PyData.int 0]]]
                          fun d n' => ∃ m, n' ≤ m ∧ Q d m := fun m' hm' => ⟨_, by omega, rfl, by simp, by decide, fun x hx => fin _ _ (by omega) (gd_leaf hx (by omega))⟩
    walk_at "dl"
    refine ⟨⟨by decide, by decide, by decide⟩, ?_⟩
    have tl : ∀ m', m' ≤ m + 1 → (match isT T5.tuple v with
                              | true =>
                                sp_law_pick m' [PyData.int 3] fun d n' =>
                                  gEq d (PyData.int 0) fun z =>
                                    match z with
                                    | PyData.bool b =>
                                      match b with
                                      | true => gLstOf [v] fun d => ∃ m, n' ≤ m ∧ Q d m
                                      | false =>
                                        sp_law_one n'
                                          [PyData.list
                                              [PyData.none, PyData.bool true, PyData.bool false, PyData.int 0,
                                                PyData.int 1, PyData.int 3, PyData.int 4, PyData.int 20, PyData.int 21,
                                                PyData.int (-20), PyData.int (-21), PyData.str (Str.ofString ""),
                                                PyData.tuple [], PyData.list [], PyData.int (10 ^ Int.toNat 30),
                                                PyData.tuple [PyData.int 0, PyData.int 0, PyData.int 0]]]
                                          fun d n' => ∃ m, n' ≤ m ∧ Q d m
                                    | x => False
                              | false =>
                                sp_law_one m'
                                  [PyData.list
                                      [PyData.none, PyData.bool true, PyData.bool false, PyData.int 0, PyData.int 1,
                                        PyData.int 3, PyData.int 4, PyData.int 20, PyData.int 21, PyData.int (-20),
                                        PyData.int (-21), PyData.str (Str.ofString ""), PyData.tuple [], PyData.list [],
                                        PyData.int (10 ^ Int.toNat 30),
                                        PyData.tuple [PyData.int 0, PyData.int 0, PyData.int 0]]]
                                  fun d n' => ∃ m, n' ≤ m ∧ Q d m) := fun m' hm' => by
      refine bIf (fun e => ?_) fun e => one _ (by omega)
      obtain ⟨ys, rfl⟩ : ∃ ys, v = .tuple ys := by cases v <;> first | exact ⟨_, rfl⟩ | cases e
      refine ⟨3, by decide, by decide, by omega, rfl, fun c hc => ?_⟩
      walk_at "dl"
      refine bIf (fun e => ?_) fun e => one _ (by omega)
      exact fin _ _ (by omega) (gd_lst (hv.mono (by omega) (by omega)))
    refine bIf (fun e => ?_) fun e => tl _ (by omega)
    refine ⟨2, by decide, by decide, by omega, rfl, fun c hc => ?_⟩
    walk_at "dl"
    refine bIf (fun e1 => ?_) fun e1 => tl _ (by omega)
    refine ⟨_, by omega, rfl, by simp, by decide, fun x hx => ?_⟩
    obtain ⟨i, rfl⟩ : ∃ i, x = .int i := by
      simp only [List.mem_cons, List.not_mem_nil, or_false] at hx
      rcases hx with rfl | rfl <;> exact ⟨_, rfl⟩
    cases v <;> first | cases e | skip
    · exact fin _ _ (by omega) gd_int
    · exact fin _ _ (by omega) gd_int
  · have hM' : ∀ m x y, m ≤ n + 1 → M [.ld m, .v v, x, y, .un] := fun m x y h => hM _ ⟨m, x, y, h, rfl⟩
    walk_at "dl"
    refine bIf (fun e => ?_) fun e => hM' _ _ _ (by omega)
    obtain ⟨ys, rfl⟩ : ∃ ys, v = .tuple ys := by cases v <;> first | exact ⟨_, rfl⟩ | cases e
    refine ne_nil hv (by omega) (bNf (fun e1 => ?_) fun e1 => hM' _ _ _ (by omega))
    have e1 := of_decide_eq_false e1
    have hl : 0 < ys.length := List.length_pos_iff.mpr e1
    obtain ⟨d, rfl⟩ : ∃ d', d = d' + 1 := by
      cases d with
      | zero =>
        have := hv.dep
        simp only [PyData.depth] at this
        omega
      | succ d => exact ⟨d, rfl⟩
    have hg := gd_tup.mp hv
    have fin : ∀ m' ws, m' ≤ n + 10 * (k + 1) → ws.length ≤ L + 1 → (∀ w ∈ ws, w ∈ ys ∨ Gd (L + 1) (d + 1) w) → ∃ m2, m' ≤ m2 ∧ Q (.tuple ws) m2 := fun m ws hm hw h =>
      ⟨_, hm, q _ (gd_tup.mpr ⟨hw, fun w hw => (h w hw).elim (fun z => (hg.2 w z).mono (by omega) (by omega)) id⟩)⟩
    refine ⟨6, by decide, by decide, by omega, rfl, fun c hc => ?_⟩
    walk_at "dl"
    refine bIf (fun e2 => ?_) fun e2 => hM' _ _ _ (by omega)
    have hL3 := hg.1
    refine ⟨ys.length, hl, by omega, by omega, rfl, fun a ha => ⟨9, by decide, by decide, by omega, rfl, fun w hw => ?_⟩⟩
    walk_at "dl"
    rw [cutD_take, cutD_drop, cutD_take1, cutD_drop1]
    have mt : ∀ {j w}, w ∈ ys.take j → w ∈ ys := fun h => List.mem_of_mem_take h
    have md : ∀ {j w}, w ∈ ys.drop j → w ∈ ys := fun h => List.mem_of_mem_drop h
    refine bIf (fun e3 => ?_) fun e3 => bIf (fun e4 => ?_) fun e4 => ?_
    · refine ⟨by rw [List.length_take, List.length_drop]; omega, fin _ _ (by omega) (by rw [List.length_append, List.length_take, List.length_drop]; omega) fun w hw => ?_⟩
      rcases List.mem_append.mp hw with h | h
      · exact .inl (mt h)
      · exact .inl (md h)
    · refine ⟨by rw [List.length_take, List.length_drop]; omega, fin _ _ (by omega) (by rw [List.length_append, List.length_take, List.length_drop]; omega) fun w hw => ?_⟩
      rcases List.mem_append.mp hw with h | h
      · exact .inl (mt h)
      · exact .inl (md h)
    · have hga := hg.2 ys[a] (List.getElem_mem ha)
      refine ⟨_, atI_ok (List.getElem?_eq_getElem ha), _, L, d, rfl, by omega, hL, hL2, by omega, by omega, hga, fun v' hv' => ?_⟩
      walk_at "dl"
      refine ⟨by rw [List.length_take]; omega, by rw [List.length_append, List.length_take, List.length_drop]; show _ + 1 + _ ≤ _; omega, fin _ _ (by omega) (by rw [List.length_append, List.length_append, List.length_take, List.length_drop]; show _ + 1 + _ ≤ _; omega) fun w hw => ?_⟩
      rcases List.mem_append.mp hw with h | h
      · rcases List.mem_append.mp h with h | h
        · exact .inl (mt h)
        · rw [List.mem_singleton.mp h]; exact .inr hv'
      · exact .inl (md h)
theorem gd_eR {r : Rule} (h : r.Ok) : Gd 4 3 (eR r) := by
  have h1 := h.sl
  have h2 := h.pl
  refine gd_tup.mpr ⟨by show 4 ≤ 4; omega, fun d hd => ?_⟩
  simp only [List.mem_cons, List.not_mem_nil, or_false] at hd
  rcases hd with rfl | rfl | rfl | rfl
  · refine gd_tup.mpr ⟨by rw [List.length_map]; omega, fun x hx => ?_⟩
    obtain ⟨y, _, rfl⟩ := List.mem_map.mp hx
    exact gd_int
  · exact gd_int
  · exact ⟨rfl, Nat.zero_le _, rfl⟩
  · refine gd_tup.mpr ⟨by rw [List.length_map]; omega, fun x hx => ?_⟩
    obtain ⟨y, _, rfl⟩ := List.mem_map.mp hx
    refine gd_tup.mpr ⟨by show 3 ≤ 4; omega, fun z hz => ?_⟩
    simp only [List.mem_cons, List.not_mem_nil, or_false] at hz
    rcases hz with rfl | rfl | rfl <;> exact gd_int
theorem rd_law (ds : List D) (Q : D → Prop) (h : sp_law ds Q) : t_law (ndQ Q) (start0 8 ds) := by
  obtain ⟨ns, hns, rfl, q⟩ := h
  unfold t_law
  walk_at "dl"
  refine ⟨by decide, ?_⟩
  refine fLoop_inv (fun i δ => ∃ x1 x2 x3 x4 x5 x6 x7 : Sl, δ = [.v (.list (ns.map .int)), x1, x2, x3, x4, x5, x6, x7] ∧ x1.isLd = false ∧ x2.isLd = false ∧ x3.isLd = false ∧ x4.isLd = false ∧ x5.isLd = false ∧ x6.isLd = false ∧ x7.isLd = false)
    ⟨_, _, _, _, _, _, _, rfl, rfl, rfl, rfl, rfl, rfl, rfl, rfl⟩ (fun k d δ K hd hI hK => ?_) fun δ hI => ?_
  · obtain ⟨x1, x2, x3, x4, x5, x6, x7, rfl, h1, h2, h3, h4, h5, h6, h7⟩ := hI
    obtain ⟨hk, rfl⟩ := rng_at hd
    have hk : k < 8 := hk
    walk_at "dl"
    refine ⟨h1, by decide, ?_⟩
    obtain ⟨c, hc⟩ := cell_at ns 8 k (by omega)
    rw [show (0 : Int) + (k : Int) = (k : Int) by omega]
    refine ⟨by rw [List.length_map, repD_len]; show _ + 8 * 1 ≤ _; omega, _, hc, h2, c, k, rfl, by decide, ?_⟩
    refine fLoop_inv (fun i δ => ∃ (m : Nat) (x3 x4 x5 x6 x7 : Sl), m ≤ k + 1000 * i ∧ δ = [.v (.list (ns.map .int)), .v (.int k), .dk m, x3, x4, x5, x6, x7] ∧ x3.isLd = false ∧ x4.isLd = false ∧ x5.isLd = false ∧ x6.isLd = false ∧ x7.isLd = false)
      ⟨k, _, _, _, _, _, by omega, rfl, h3, h4, h5, h6, h7⟩ (fun j d δ K hd hI hK2 => ?_) fun δ hI => ?_
    · obtain ⟨m, x3, x4, x5, x6, x7, hm, rfl, h3, h4, h5, h6, h7⟩ := hI
      obtain ⟨hj, rfl⟩ := rng_at hd
      have hj : j < 12 := hj
      walk_at "dl"
      refine ⟨h3, by omega, 3, by decide, rfl, fun r hr _ => ⟨h4, _, rfl, sml_eR hr, ?_⟩⟩
      rw [isRule_eR hr]
      walk_at "dl"
      refine ⟨_, 4, 3, rfl, by omega, by decide, by decide, by decide, by decide, gd_eR hr, fun v hv => ⟨h5, ?_⟩⟩
      refine seq_cut (fun δ => ∃ m' v', m' ≤ m + 500 ∧ Gd 6 5 v' ∧ δ = [.v (.list (ns.map .int)), .v (.int k), .dk m', .v (.int (0 + j)), .v (eR r), .v v', x6, x7]) ?_ fun M hM => ?_
      · rintro δ' ⟨m', v', hm', hv', rfl⟩
        walk_at "dl"
        refine ⟨_, rfl, hv'.sml (by decide), h6, _, rfl, hv'.sml (by decide), ?_⟩
        walk_at "dl"
        simp only [decide_true, Bool.not_true]
        exact hK2 _ ⟨_, _, _, _, _, _, by omega, rfl, rfl, rfl, rfl, rfl, h7⟩
      · walk_at "dl"
        refine ⟨3, by decide, by decide, by omega, rfl, fun c hc => ?_⟩
        walk_at "dl"
        refine bIf (fun e => ?_) fun e => hM _ ⟨_, _, by omega, hv.mono (by decide) (by decide), rfl⟩
        exact ⟨_, 5, 4, rfl, by omega, by decide, by decide, by decide, by decide, hv, fun v' hv' => hM _ ⟨_, _, by omega, hv', rfl⟩⟩
    · obtain ⟨m, x3, x4, x5, x6, x7, hm, rfl, h3, h4, h5, h6, h7⟩ := hI
      exact hK _ ⟨_, _, _, _, _, _, _, rfl, rfl, rfl, h3, h4, h5, h6, h7⟩
  · obtain ⟨x1, x2, x3, x4, x5, x6, x7, rfl, h1, h2, h3, h4, h5, h6, h7⟩ := hI
    walk_at "dl"
    refine ⟨h7, ⟨by simp, by decide, by decide⟩, _, rfl, by decide +kernel, ?_⟩
    rw [show isRule (.tuple [.tuple [.int 3, .int 3, .int 3], .int 3, .bool true, .tuple (repD 4 [.tuple [.int (-20), .int 0, .int 20]])]) = true by decide +kernel]
    refine ⟨⟨by simp, by decide, by decide⟩, ⟨by simp, by decide, by decide⟩, _, rfl, by decide +kernel, ?_⟩
    rw [show isRule (.tuple [.tuple (repD 4 [.int 1]), .int 0, .bool false, .tuple (repD 5 [.tuple [.int (-20), .int 0, .int 20]])]) = false by decide +kernel]
    refine ⟨_, rfl, by decide +kernel, ?_⟩
    rw [show isRule (.tuple [.tuple [], .int 0, .int 0, .tuple [.tuple [.int (-20), .int 0, .int 20]]]) = false by decide +kernel]
    refine ⟨_, rfl, by decide +kernel, ?_⟩
    rw [show isRule (.tuple [.tuple [], .int 0, .bool false, .tuple []]) = false by decide +kernel]
    exact q
end K01
namespace K01
open PySem PySem.Spec L2 DL
open PyProof.Rows hiding St
open SpA SpB
def topS (i : Nat) : Stmt := PySem.Challenge.pw_comboscores_k01_rules_recognized.main.body.getD i (.Pass ⟨0, 0, 0, 0⟩)
abbrev s_is_from : Stmt := topS 5
theorem sc_is_from : FnScope ["value", "low", "high"] ["value", "low", "high"] (defScope s_is_from) := ⟨rfl, rfl, rfl, by decide +kernel, rfl, by decide +kernel, by decide +kernel⟩
abbrev s_are_from : Stmt := topS 6
theorem sc_are_from : FnScope ["value", "low", "high", "one"] ["value", "low", "high"] (defScope s_are_from) := ⟨rfl, rfl, rfl, by decide +kernel, rfl, by decide +kernel, by decide +kernel⟩
abbrev s_is_rule_of : Stmt := topS 7
theorem sc_is_rule_of : FnScope ["value", "steps", "drop", "strict", "points", "row"] ["value"] (defScope s_is_rule_of) := ⟨rfl, rfl, rfl, by decide +kernel, rfl, by decide +kernel, by decide +kernel⟩
abbrev s_is_rule : Stmt := topS 9
theorem sc_is_rule : FnScope ["value"] ["value"] (defScope s_is_rule) := ⟨rfl, rfl, rfl, by decide +kernel, rfl, by decide +kernel, by decide +kernel⟩
abbrev s__law_deck : Stmt := topS 11
theorem sc__law_deck : FnScope ["cell", "turn"] ["cell", "turn"] (defScope s__law_deck) := ⟨rfl, rfl, rfl, by decide +kernel, rfl, by decide +kernel, by decide +kernel⟩
abbrev s__law_pick : Stmt := topS 12
theorem sc__law_pick : FnScope ["deck", "limit", "found", "number"] ["deck", "limit"] (defScope s__law_pick) := ⟨rfl, rfl, rfl, by decide +kernel, rfl, by decide +kernel, by decide +kernel⟩
abbrev s__law_triple : Stmt := topS 15
theorem sc__law_triple : FnScope ["deck"] ["deck"] (defScope s__law_triple) := ⟨rfl, rfl, rfl, by decide +kernel, rfl, by decide +kernel, by decide +kernel⟩
abbrev s__law_rule : Stmt := topS 16
theorem sc__law_rule : FnScope ["deck", "most", "ladder", "table", "turn"] ["deck", "most"] (defScope s__law_rule) := ⟨rfl, rfl, rfl, by decide +kernel, rfl, by decide +kernel, by decide +kernel⟩
abbrev s__law_whole : Stmt := topS 14
theorem sc__law_whole : FnScope ["thing"] ["thing"] (defScope s__law_whole) := ⟨rfl, rfl, rfl, by decide +kernel, rfl, by decide +kernel, by decide +kernel⟩
abbrev s__law_is_row : Stmt := topS 18
theorem sc__law_is_row : FnScope ["thing", "low", "high", "part"] ["thing", "low", "high"] (defScope s__law_is_row) := ⟨rfl, rfl, rfl, by decide +kernel, rfl, by decide +kernel, by decide +kernel⟩
abbrev s__law_is : Stmt := topS 19
theorem sc__law_is : FnScope ["thing", "row"] ["thing"] (defScope s__law_is) := ⟨rfl, rfl, rfl, by decide +kernel, rfl, by decide +kernel, by decide +kernel⟩
abbrev s__law_one : Stmt := topS 13
theorem sc__law_one : FnScope ["deck", "some"] ["deck", "some"] (defScope s__law_one) := ⟨rfl, rfl, rfl, by decide +kernel, rfl, by decide +kernel, by decide +kernel⟩
abbrev s__law_changed : Stmt := topS 20
theorem sc__law_changed : FnScope ["deck", "thing", "at", "way", "some"] ["deck", "thing"] (defScope s__law_changed) := ⟨rfl, rfl, rfl, by decide +kernel, rfl, by decide +kernel, by decide +kernel⟩
abbrev s_law : Stmt := topS 21
theorem sc_law : FnScope ["script", "k", "deck", "turn", "r", "thing", "found", "row"] ["script"] (defScope s_law) := ⟨rfl, rfl, rfl, by decide +kernel, rfl, by decide +kernel, by decide +kernel⟩
structure Txt (K : PySem.W.Frag) (mg : Str → Option Value) where
  f_is_from : Addr
  fd_is_from : FuncData
  F_is_from : Fun K "is_from" "is_from" s_is_from f_is_from fd_is_from
  b_is_from : Binds K fd_is_from ["value", "low", "high"] []
  m_is_from : mg "is_from" = some (.ref f_is_from)
  f_are_from : Addr
  fd_are_from : FuncData
  F_are_from : Fun K "are_from" "are_from" s_are_from f_are_from fd_are_from
  b_are_from : Binds K fd_are_from ["value", "low", "high"] []
  m_are_from : mg "are_from" = some (.ref f_are_from)
  f_is_rule_of : Addr
  fd_is_rule_of : FuncData
  F_is_rule_of : Fun K "is_rule_of" "is_rule_of" s_is_rule_of f_is_rule_of fd_is_rule_of
  b_is_rule_of : Binds K fd_is_rule_of ["value"] []
  m_is_rule_of : mg "is_rule_of" = some (.ref f_is_rule_of)
  f_is_rule : Addr
  fd_is_rule : FuncData
  F_is_rule : Fun K "is_rule" "is_rule" s_is_rule f_is_rule fd_is_rule
  b_is_rule : Binds K fd_is_rule ["value"] []
  m_is_rule : mg "is_rule" = some (.ref f_is_rule)
  f__law_deck : Addr
  fd__law_deck : FuncData
  F__law_deck : Fun K "_law_deck" "_law_deck" s__law_deck f__law_deck fd__law_deck
  b__law_deck : Binds K fd__law_deck ["cell", "turn"] []
  m__law_deck : mg "_law_deck" = some (.ref f__law_deck)
  f__law_pick : Addr
  fd__law_pick : FuncData
  F__law_pick : Fun K "_law_pick" "_law_pick" s__law_pick f__law_pick fd__law_pick
  b__law_pick : Binds K fd__law_pick ["deck", "limit"] []
  m__law_pick : mg "_law_pick" = some (.ref f__law_pick)
  f__law_triple : Addr
  fd__law_triple : FuncData
  F__law_triple : Fun K "_law_triple" "_law_triple" s__law_triple f__law_triple fd__law_triple
  b__law_triple : Binds K fd__law_triple ["deck"] []
  m__law_triple : mg "_law_triple" = some (.ref f__law_triple)
  f__law_rule : Addr
  fd__law_rule : FuncData
  F__law_rule : Fun K "_law_rule" "_law_rule" s__law_rule f__law_rule fd__law_rule
  b__law_rule : Binds K fd__law_rule ["deck", "most"] []
  m__law_rule : mg "_law_rule" = some (.ref f__law_rule)
  f__law_whole : Addr
  fd__law_whole : FuncData
  F__law_whole : Fun K "_law_whole" "_law_whole" s__law_whole f__law_whole fd__law_whole
  b__law_whole : Binds K fd__law_whole ["thing"] []
  m__law_whole : mg "_law_whole" = some (.ref f__law_whole)
  f__law_is_row : Addr
  fd__law_is_row : FuncData
  F__law_is_row : Fun K "_law_is_row" "_law_is_row" s__law_is_row f__law_is_row fd__law_is_row
  b__law_is_row : Binds K fd__law_is_row ["thing", "low", "high"] []
  m__law_is_row : mg "_law_is_row" = some (.ref f__law_is_row)
  f__law_is : Addr
  fd__law_is : FuncData
  F__law_is : Fun K "_law_is" "_law_is" s__law_is f__law_is fd__law_is
  b__law_is : Binds K fd__law_is ["thing"] []
  m__law_is : mg "_law_is" = some (.ref f__law_is)
  f__law_one : Addr
  fd__law_one : FuncData
  F__law_one : Fun K "_law_one" "_law_one" s__law_one f__law_one fd__law_one
  b__law_one : Binds K fd__law_one ["deck", "some"] []
  m__law_one : mg "_law_one" = some (.ref f__law_one)
  f__law_changed : Addr
  fd__law_changed : FuncData
  F__law_changed : Fun K "_law_changed" "_law_changed" s__law_changed f__law_changed fd__law_changed
  b__law_changed : Binds K fd__law_changed ["deck", "thing"] []
  m__law_changed : mg "_law_changed" = some (.ref f__law_changed)
  f_law : Addr
  fd_law : FuncData
  F_law : Fun K "law" "law" s_law f_law fd_law
  b_law : Binds K fd_law ["script"] []
  m_law : mg "law" = some (.ref f_law)
  z_all : mg "all" = none
  z_bool : mg "bool" = none
  z_int : mg "int" = none
  z_isinstance : mg "isinstance" = none
  z_len : mg "len" = none
  z_list : mg "list" = none
  z_range : mg "range" = none
  z_tuple : mg "tuple" = none
  c_MOST_DROP : ∃ t, mg "MOST_DROP" = some (.int 3 t)
  c_MOST_POINTS : ∃ t, mg "MOST_POINTS" = some (.int 20 t)
  c_MOST_STEP : ∃ t, mg "MOST_STEP" = some (.int 3 t)
  c_MOST_STEPS : ∃ t, mg "MOST_STEPS" = some (.int 3 t)

section
variable {P : Program} {w : World} {K : PySem.W.Frag} {mg : Str → Option Value} {base : Heap}
theorem ok_is_from (T : Txt K mg) : FnOk P w K mg base CX0 1 T.f_is_from T.fd_is_from ["value", "low", "high"] (lift K sp_is_from) := by
  have nd := sc_is_from.nd
  exact fn_ok T.F_is_from sc_is_from len_is_from (fun cdv A outer s H E hr =>
    (ss_one (s_ret (d_and (d_isi .int T.z_isinstance T.z_int PyProof.Rows.boot_int (d_var 0)) (d_and (d_not (d_isi .bool T.z_isinstance T.z_bool PyProof.Rows.boot_bool (d_var 0))) (d_one (d_chain op_le od_le op_le od_le (d_var 1) (d_var 0) (d_var 2)))))))) rd_is_from
theorem ok_are_from (T : Txt K mg) : FnOk P w K mg base CX0 2 T.f_are_from T.fd_are_from ["value", "low", "high"] (lift K sp_are_from) := by
  have nd := sc_are_from.nd
  exact fn_ok T.F_are_from sc_are_from len_are_from (fun cdv A outer s H E hr =>
    (ss_one (s_ret (d_and (d_isi .tuple T.z_isinstance T.z_tuple PyProof.Rows.boot_tuple (d_var 0)) (d_one (d_callB (cr_all rfl) cd_all (by rfl) T.z_all PyProof.Rows.boot_all (a_cons (d_fz (o_lc [("one", 3)] rfl nd (i_any (d_var 0)) (blkOk_by (by rfl)) (fun _ _ _ _ _ => (g_name (i := 3) nd)) (fun _ _ _ _ _ => ts_nil) (fun _ _ _ _ _ => (d_call (ok_is_from T) (hr.mono (by omega)) T.m_is_from T.F_is_from.kp T.b_is_from (a_cons (d_var 3) (a_cons (d_var 1) (a_cons (d_var 2) a_nil))))) (by decide))) a_nil))))))) rd_are_from
theorem ok_is_rule_of (T : Txt K mg) : FnOk P w K mg base CX0 3 T.f_is_rule_of T.fd_is_rule_of ["value"] (lift K sp_is_rule_of) := by
  have nd := sc_is_rule_of.nd
  exact fn_ok T.F_is_rule_of sc_is_rule_of len_is_rule_of (fun cdv A outer s H E hr =>
    (ss_cons (s_if (b_w (w_or (b_not (b_val (d_isi .tuple T.z_isinstance T.z_tuple PyProof.Rows.boot_tuple (d_var 0)))) (w_or1 (b_cmp (op_neU hr.units) od_ne (d_callB call_len cd_len (by rfl) T.z_len PySem.boot_len (a_cons (d_var 0) a_nil)) d_int (nomark _))))) (ss_one (s_ret d_bl)) ss_nil)
    (ss_cons (s_asg (d_var 0) (g_tup rfl (g_cons (g_name (i := 1) nd) (g_cons (g_name (i := 2) nd) (g_cons (g_name (i := 3) nd) (g_cons (g_name (i := 4) nd) g_nil))))))
    (ss_cons (s_if (b_w (w_or (b_not (b_val (d_call (ok_are_from T) (hr.mono (by omega)) T.m_are_from T.F_are_from.kp T.b_are_from (a_cons (d_var 1) (a_cons d_int (a_cons (d_gInt T.c_MOST_STEP) a_nil)))))) (w_or (b_cmp op_gt od_gt (d_callB call_len cd_len (by rfl) T.z_len PySem.boot_len (a_cons (d_var 1) a_nil)) (d_gInt T.c_MOST_STEPS) (nomark _)) (w_or1 (b_not (b_val (d_call (ok_is_from T) (hr.mono (by omega)) T.m_is_from T.F_is_from.kp T.b_is_from (a_cons (d_var 2) (a_cons d_int (a_cons (d_gInt T.c_MOST_DROP) a_nil)))))))))) (ss_one (s_ret d_bl)) ss_nil)
    (ss_cons (s_if (b_w (w_or (b_not (b_val (d_isi .bool T.z_isinstance T.z_bool PyProof.Rows.boot_bool (d_var 3)))) (w_or (b_not (b_val (d_isi .tuple T.z_isinstance T.z_tuple PyProof.Rows.boot_tuple (d_var 4)))) (w_or1 (b_cmp (op_neU hr.units) od_ne (d_callB call_len cd_len (by rfl) T.z_len PySem.boot_len (a_cons (d_var 4) a_nil)) (d_op op_addU od_add (d_callB call_len cd_len (by rfl) T.z_len PySem.boot_len (a_cons (d_var 1) a_nil)) d_int) (nomark _)))))) (ss_one (s_ret d_bl)) ss_nil)
    (ss_one (s_ret (d_callB (cr_all rfl) cd_all (by rfl) T.z_all PyProof.Rows.boot_all (a_cons (d_fz (o_lc [("row", 5)] rfl nd (i_any (d_var 4)) (blkOk_by (by rfl)) (fun _ _ _ _ _ => (g_name (i := 5) nd)) (fun _ _ _ _ _ => ts_nil) (fun _ _ _ _ _ => (d_and (d_call (ok_are_from T) (hr.mono (by omega)) T.m_are_from T.F_are_from.kp T.b_are_from (a_cons (d_var 5) (a_cons (d_op op_sub od_sub d_int (d_gInt T.c_MOST_POINTS)) (a_cons (d_gInt T.c_MOST_POINTS) a_nil)))) (d_one (d_cmp (op_eqU hr.units) od_eq (d_callB call_len cd_len (by rfl) T.z_len PySem.boot_len (a_cons (d_var 5) a_nil)) d_int (nomark _))))) (by decide))) a_nil))))))))) rd_is_rule_of
theorem ok_is_rule (T : Txt K mg) : FnOk P w K mg base CX0 4 T.f_is_rule T.fd_is_rule ["value"] (lift K sp_is_rule) := by
  have nd := sc_is_rule.nd
  exact fn_ok T.F_is_rule sc_is_rule len_is_rule (fun cdv A outer s H E hr =>
    (ss_one (s_ret (d_call (ok_is_rule_of T) (hr.mono (by omega)) T.m_is_rule_of T.F_is_rule_of.kp T.b_is_rule_of (a_cons (d_var 0) a_nil))))) rd_is_rule
theorem ok__law_deck (T : Txt K mg) : FnOk P w K mg base CX0 1 T.f__law_deck T.fd__law_deck ["cell", "turn"] (liftM K sp_law_deck) := by
  have nd := sc__law_deck.nd
  refine T.F__law_deck.ok sc__law_deck (fun vs H Q E h => ?_) (fun cdv A outer s H vs Q E hr h => ?_)
  · obtain ⟨F0, ds, Qd, e, rs, ⟨cell, turn, rfl, _⟩, _⟩ := h
    cases rs with
    | cons r rs => cases rs with | cons r rs => cases rs; rfl
  · obtain ⟨F0, ds, Qd, e, rs, ⟨cell, turn, rfl, hq⟩, q⟩ := h
    cases rs with
    | cons r rs =>
    cases rs with
    | cons r2 rs =>
    cases rs
    cases r
    cases r2
    refine ⟨_, pss_cons (ps_if (pt_cmpR op_ge (pv 0) (pe_op op_pow pe_int pe_int) (nomark _))
        (pss_one (ps_ret (pe_lst (pa_cons (pe_op op_sub (pv 0) (pe_op op_pow pe_int pe_int)) (pa_cons (pe_op op_mod (pe_callTy call_int1 (by rfl) T.z_int PyProof.Rows.boot_int (pa_cons (pv 0) pa_nil)) pe_int) (pa_cons (pv 1) pa_nil)))))) pss_nil)
      (pss_one (ps_ret (pe_lst (pa_cons pe_int (pa_cons (pe_op op_mod (pe_callTy call_int1 (by rfl) T.z_int PyProof.Rows.boot_int (pa_cons (pv 0) pa_nil)) pe_int) (pa_cons (pv 1) pa_nil)))))), ?_⟩
    have m0 := Int.emod_nonneg cell (show (2147483579 : Int) ≠ 0 by decide)
    have m1 := Int.emod_lt_of_pos cell (show (0 : Int) < 2147483579 by decide)
    have e18 : (10 : Int) ^ (Int.toNat 18) = 1000000000000000000 := by decide
    refine ⟨.int cell, rfl, 10, 18, rfl, rfl, ⟨by decide, by decide, by decide⟩, cell, _, rfl, rfl, _, rfl, ite2 (fun c => ?_) (fun c => ?_)⟩
    · have c := of_decide_eq_true c
      rw [e18] at c
      refine ⟨.int cell, rfl, 10, 18, rfl, rfl, ⟨by decide, by decide, by decide⟩, cell, _, rfl, rfl, .int cell, rfl, .inl ⟨cell, rfl, cell, 2147483579, rfl, rfl, by show (0 : Int) < 2147483579; decide, .int turn, rfl, ?_⟩⟩
      refine ⟨by show 3 ≤ sizeLine; decide, fun p hp => ?_⟩
      exact q p _ turn _ hp (Ex.new hp) upd_same ⟨_, _, _, rfl, by rw [e18]; omega, m0, m1, by omega, by omega⟩ hq
    · refine ⟨.int cell, rfl, .inl ⟨cell, rfl, cell, 2147483579, rfl, rfl, by show (0 : Int) < 2147483579; decide, .int turn, rfl, ?_⟩⟩
      refine ⟨by show 3 ≤ sizeLine; decide, fun p hp => ?_⟩
      exact q p _ turn _ hp (Ex.new hp) upd_same ⟨_, _, _, rfl, by omega, m0, m1, by omega, by omega⟩ hq
theorem ok__law_pick (T : Txt K mg) : FnOk P w K mg base CX0 1 T.f__law_pick T.fd__law_pick ["deck", "limit"] (liftK K sp_law_pick) := by
  have nd := sc__law_pick.nd
  refine T.F__law_pick.ok sc__law_pick (fun vs H Q E h => ?_) (fun cdv A outer s H vs Q E hr h => ?_)
  · obtain ⟨a, F0, n, ds, vs', xs, Qd, rfl, e, ha, hf, dk, rs, ⟨lim, _, _, _, rfl, _⟩, _⟩ := h
    cases rs with
    | cons r rs => cases rs; rfl
  · obtain ⟨a, F0, n, ds, vs', xs, Qd, rfl, e, ha, hf, ⟨d0, d1, t, rfl, h0, h1, h1', ht, htn⟩, rs, ⟨lim, l0, l1, ln, rfl, hq⟩, q⟩ := h
    cases rs with
    | cons r rs =>
    cases rs
    cases r
    refine ⟨_, pss_cons (ps_if (pt_cmpR op_gt (pe_ix ix_list (pv 0) pe_int (fun _ _ => rfl)) pe_int (nomark _))
        (pss_cons (ps_set (i := 2) nd rfl (.inl rfl) (pe_op op_mod (pe_callTy call_int1 (by rfl) T.z_int PyProof.Rows.boot_int (pa_cons (pe_ix ix_list (pv 0) pe_int (fun _ _ => rfl)) pa_nil)) (pv 1)))
        (pss_cons (ps_asg (pe_op op_fdiv (pe_ix ix_list (pv 0) pe_int (fun _ _ => rfl)) (pv 1)) (pg_sub (pv 0) pe_int set_list))
        (pss_one (ps_ret (pv 2))))) pss_nil)
      (pss_cons (ps_asg (pe_op op_add (pe_ix ix_list (pv 0) pe_int (fun _ _ => rfl)) pe_int) (pg_sub (pv 0) pe_int set_list))
      (pss_cons (ps_set (i := 3) nd rfl (.inl rfl) (pe_op op_mod (pe_callTy call_int1 (by rfl) T.z_int PyProof.Rows.boot_int (pa_cons (pe_op op_pow (pe_callTy call_int1 (by rfl) T.z_int PyProof.Rows.boot_int (pa_cons (pe_op op_add (pe_ix ix_list (pv 0) pe_int (fun _ _ => rfl)) (pe_op op_mul pe_int (pe_ix ix_list (pv 0) pe_int (fun _ _ => rfl)))) pa_nil)) pe_int) pa_nil)) pe_int))
      (pss_cons (ps_set (i := 2) nd rfl (.inl rfl) (pe_op op_fdiv (pe_op op_mod (pe_callTy call_int1 (by rfl) T.z_int PyProof.Rows.boot_int (pa_cons (pe_op op_pow (pe_callTy call_int1 (by rfl) T.z_int PyProof.Rows.boot_int (pa_cons (pe_op op_add (pv 3) (pe_op op_mul pe_int (pe_ix ix_list (pv 0) pe_int (fun _ _ => rfl)))) pa_nil)) pe_int) pa_nil)) pe_int) pe_int))
      (pss_one (ps_ret (pe_op op_mod (pe_callTy call_int1 (by rfl) T.z_int PyProof.Rows.boot_int (pa_cons (pv 2) pa_nil)) (pv 1))))))), ?_⟩
    have sq : ∀ {H' : Hp} {ys : List V}, H' a = some (.lst ys) → SqL K H' a ys := fun h => .inl (.inl h)
    have fr : ∀ (ys : List V) (b : Addr) (o : HO), b ≠ a → H b = some o → (upd H a (.lst ys)) b = some o := fun ys b o hb h => by rw [upd_ne hb]; exact h
    have ex : ∀ (ys : List V), Ex F0 (upd H a (.lst ys)) := fun ys b o h => by
      have : b ≠ a := fun z => by rw [z, hf] at h; cases h
      rw [upd_ne this]; exact e b o h
    have fin : ∀ (ys : List V) (k : Int), DkOk (n + 1) ys → 0 ≤ k → k < lim → Q (.int k) (upd H a (.lst ys)) := fun ys k hd k0 k1 => by
      have := hq k.toNat (by omega)
      rw [show ((k.toNat : Nat) : Int) = k by omega] at this
      exact q F0 (.int k) _ (.int k) (n + 1) ys (Ex.refl F0) (ex ys) (fun b o hb h1 h2 => ⟨fr ys b o hb h1, h2⟩) upd_same hf hd (.int k) this
    refine ⟨.ref a, rfl, a, _, 0, .int d0, rfl, rfl, sq ha, rfl, d0, 1, rfl, rfl, _, rfl, ite2 (fun c => ?_) (fun c => ?_)⟩
    · have c := of_decide_eq_true c
      refine ⟨.ref a, rfl, a, _, 0, .int d0, rfl, rfl, sq ha, rfl, .inl ⟨d0, rfl, _, rfl, d0, lim, rfl, rfl, by show (0 : Int) < lim; omega, ?_⟩⟩
      refine ⟨.ref a, rfl, a, _, 0, .int d0, rfl, rfl, sq ha, rfl, .int lim, rfl, d0, lim, rfl, rfl, ⟨by omega, by omega⟩, ?_⟩
      refine ⟨.ref a, rfl, a, _, 0, 0, rfl, rfl, ha, rfl, _, rfl, ?_⟩
      refine fin _ _ ⟨d0 / lim, d1, t, rfl, Int.ediv_nonneg h0 (by omega), h1, h1', ht, by omega⟩ (Int.emod_nonneg _ (by omega)) (Int.emod_lt_of_pos _ (by omega))
    · refine ⟨.ref a, rfl, a, _, 2, .int t, rfl, rfl, sq ha, rfl, t, 1, rfl, rfl, .ref a, rfl, a, _, 2, 2, rfl, rfl, ha, rfl, ?_⟩
      refine ⟨.ref a, rfl, a, _, 1, .int d1, rfl, rfl, sq upd_same, rfl, .ref a, rfl, a, _, 2, .int (t + 1), rfl, rfl, sq upd_same, rfl, 15485867, t + 1, rfl, rfl, .inl ⟨by decide, by decide⟩, d1, 15485867 * (t + 1), rfl, rfl, .inl ⟨_, rfl, _, 5, rfl, rfl, ⟨by decide, by decide, by omega⟩, .inl ⟨_, rfl, _, 2147483647, rfl, rfl, by show (0 : Int) < 2147483647; decide, ?_⟩⟩⟩
      have n0 := Int.emod_nonneg ((d1 + 15485867 * (t + 1)) ^ (Int.toNat 5)) (show (2147483647 : Int) ≠ 0 by decide)
      have n1 := Int.emod_lt_of_pos ((d1 + 15485867 * (t + 1)) ^ (Int.toNat 5)) (show (0 : Int) < 2147483647 by decide)
      have cpw : ∀ nu : Int, 0 ≤ nu → nu < 2147483647 → CPow (nu + 7919 * (t + 1)) 3 := fun nu a b => ⟨by decide, by decide, by omega⟩
      refine ⟨_, rfl, .ref a, rfl, a, _, 2, .int (t + 1), rfl, rfl, sq upd_same, rfl, 7919, t + 1, rfl, rfl, .inl ⟨by decide, by decide⟩, _, 7919 * (t + 1), rfl, rfl, .inl ⟨_, rfl, _, 3, rfl, rfl, cpw _ n0 n1, .inl ⟨_, rfl, _, 2147483629, rfl, rfl, by show (0 : Int) < 2147483629; decide, _, 32, rfl, rfl, ⟨by decide, by decide⟩, ?_⟩⟩⟩
      refine ⟨_, rfl, .inl ⟨_, rfl, _, rfl, _, lim, rfl, rfl, by show (0 : Int) < lim; omega, ?_⟩⟩
      exact fin _ _ ⟨d0, d1, t + 1, rfl, h0, h1, h1', by omega, by omega⟩ (Int.emod_nonneg _ (by omega)) (Int.emod_lt_of_pos _ (by omega))
theorem ok__law_triple (T : Txt K mg) : FnOk P w K mg base CX0 2 T.f__law_triple T.fd__law_triple ["deck"] (liftK K sp_law_triple) := by
  have nd := sc__law_triple.nd
  exact fn_okK T.F__law_triple sc__law_triple len_law_triple (by decide) (fun cdv A outer s H E hr =>
    (ss_cons (s_if (b_cmp (op_eqU hr.units) od_eq (d_callK (i := 0) (ok__law_pick T) (hr.mono (by omega)) T.m__law_pick T.F__law_pick.kp T.b__law_pick (a_cons d_int a_nil)) d_int (nomark _)) (ss_one (s_ret (d_tup (a_cons (d_op op_sub od_sub (d_callK (i := 0) (ok__law_pick T) (hr.mono (by omega)) T.m__law_pick T.F__law_pick.kp T.b__law_pick (a_cons d_int a_nil)) d_int) (a_cons (d_op op_sub od_sub (d_callK (i := 0) (ok__law_pick T) (hr.mono (by omega)) T.m__law_pick T.F__law_pick.kp T.b__law_pick (a_cons d_int a_nil)) d_int) (a_cons (d_op op_sub od_sub (d_callK (i := 0) (ok__law_pick T) (hr.mono (by omega)) T.m__law_pick T.F__law_pick.kp T.b__law_pick (a_cons d_int a_nil)) d_int) a_nil)))))) ss_nil)
    (ss_one (s_ret (d_tup (a_cons (d_op op_sub od_sub (d_callK (i := 0) (ok__law_pick T) (hr.mono (by omega)) T.m__law_pick T.F__law_pick.kp T.b__law_pick (a_cons d_int a_nil)) d_int) (a_cons (d_op op_sub od_sub (d_callK (i := 0) (ok__law_pick T) (hr.mono (by omega)) T.m__law_pick T.F__law_pick.kp T.b__law_pick (a_cons d_int a_nil)) d_int) (a_cons (d_callK (i := 0) (ok__law_pick T) (hr.mono (by omega)) T.m__law_pick T.F__law_pick.kp T.b__law_pick (a_cons d_int a_nil)) a_nil)))))))) rd_law_triple
theorem ok__law_rule (T : Txt K mg) : FnOk P w K mg base CX0 3 T.f__law_rule T.fd__law_rule ["deck", "most"] (liftK K sp_law_rule) := by
  have nd := sc__law_rule.nd
  exact fn_okK T.F__law_rule sc__law_rule len_law_rule (by decide) (fun cdv A outer s H E hr =>
    (ss_cons (s_set (i := 2) nd (d_callTy call_tuple_of cd_tupOf (by rfl) T.z_tuple PyProof.Rows.boot_tuple (a_cons (d_fz (o_lc [("turn", 4)] rfl nd (i_r1 T.z_range (a_cons (d_callK (i := 0) (ok__law_pick T) (hr.mono (by omega)) T.m__law_pick T.F__law_pick.kp T.b__law_pick (a_cons (d_op op_addU od_add (d_var 1) d_int) a_nil)) a_nil)) (blkOk_by (by rfl)) (fun _ _ _ _ _ => (g_name (i := 4) nd)) (fun _ _ _ _ _ => ts_nil) (fun _ _ _ _ _ => (d_op op_addU od_add d_int (d_callK (i := 0) (ok__law_pick T) (hr.mono (by omega)) T.m__law_pick T.F__law_pick.kp T.b__law_pick (a_cons d_int a_nil)))) (by decide))) a_nil)))
    (ss_cons (s_set (i := 3) nd (d_callTy call_tuple_of cd_tupOf (by rfl) T.z_tuple PyProof.Rows.boot_tuple (a_cons (d_fz (o_lc [("turn", 4)] rfl nd (i_r1 T.z_range (a_cons (d_op op_addU od_add (d_callB call_len cd_len (by rfl) T.z_len PySem.boot_len (a_cons (d_var 2) a_nil)) d_int) a_nil)) (blkOk_by (by rfl)) (fun _ _ _ _ _ => (g_name (i := 4) nd)) (fun _ _ _ _ _ => ts_nil) (fun _ _ _ _ _ => (d_callK (i := 0) (ok__law_triple T) (hr.mono (by omega)) T.m__law_triple T.F__law_triple.kp T.b__law_triple a_nil)) (by decide))) a_nil)))
    (ss_one (s_ret (d_tup (a_cons (d_var 2) (a_cons (d_callK (i := 0) (ok__law_pick T) (hr.mono (by omega)) T.m__law_pick T.F__law_pick.kp T.b__law_pick (a_cons d_int a_nil)) (a_cons (d_cmp (op_eqU hr.units) od_eq (d_callK (i := 0) (ok__law_pick T) (hr.mono (by omega)) T.m__law_pick T.F__law_pick.kp T.b__law_pick (a_cons d_int a_nil)) d_int (nomark _)) (a_cons (d_var 3) a_nil)))))))))) rd_law_rule
theorem ok__law_whole (T : Txt K mg) : FnOk P w K mg base CX0 1 T.f__law_whole T.fd__law_whole ["thing"] (lift K sp_law_whole) := by
  have nd := sc__law_whole.nd
  exact fn_ok T.F__law_whole sc__law_whole len_law_whole (fun cdv A outer s H E hr =>
    (ss_one (s_ret (d_and (d_isi .int T.z_isinstance T.z_int PyProof.Rows.boot_int (d_var 0)) (d_one (d_not (d_isi .bool T.z_isinstance T.z_bool PyProof.Rows.boot_bool (d_var 0)))))))) rd_law_whole
theorem ok__law_is_row (T : Txt K mg) : FnOk P w K mg base CX0 2 T.f__law_is_row T.fd__law_is_row ["thing", "low", "high"] (lift K sp_law_is_row) := by
  have nd := sc__law_is_row.nd
  exact fn_ok T.F__law_is_row sc__law_is_row len_law_is_row (fun cdv A outer s H E hr =>
    (ss_cons (s_if (b_w (w_or (b_not (b_val (d_isi .tuple T.z_isinstance T.z_tuple PyProof.Rows.boot_tuple (d_var 0)))) (w_or1 (b_cmp (op_neU hr.units) od_ne (d_fz (o_lc [("part", 3)] rfl nd (i_any (d_var 0)) (blkOk_by (by rfl)) (fun _ _ _ _ _ => (g_name (i := 3) nd)) (fun _ _ _ _ _ => (ts_one (b_not (b_val (d_call (ok__law_whole T) (hr.mono (by omega)) T.m__law_whole T.F__law_whole.kp T.b__law_whole (a_cons (d_var 3) a_nil)))))) (fun _ _ _ _ _ => d_int) (by decide))) (d_lst a_nil) (nomark _))))) (ss_one (s_ret d_bl)) ss_nil)
    (ss_one (s_ret (d_cmp (op_eqU hr.units) od_eq (d_fz (o_lc [("part", 3)] rfl nd (i_any (d_var 0)) (blkOk_by (by rfl)) (fun _ _ _ _ _ => (g_name (i := 3) nd)) (fun _ _ _ _ _ => (ts_one (b_not (b_chain op_le od_le op_le od_le (d_var 1) (d_var 3) (d_var 2))))) (fun _ _ _ _ _ => d_int) (by decide))) (d_lst a_nil) (nomark _)))))) rd_law_is_row
theorem ok__law_is (T : Txt K mg) : FnOk P w K mg base CX0 3 T.f__law_is T.fd__law_is ["thing"] (lift K sp_law_is) := by
  have nd := sc__law_is.nd
  exact fn_ok T.F__law_is sc__law_is len_law_is (fun cdv A outer s H E hr =>
    (ss_cons (s_if (b_w (w_or (b_not (b_val (d_isi .tuple T.z_isinstance T.z_tuple PyProof.Rows.boot_tuple (d_var 0)))) (w_or (b_cmp (op_neU hr.units) od_ne (d_callB call_len cd_len (by rfl) T.z_len PySem.boot_len (a_cons (d_var 0) a_nil)) d_int (nomark _)) (w_or (b_not (b_val (d_call (ok__law_is_row T) (hr.mono (by omega)) T.m__law_is_row T.F__law_is_row.kp T.b__law_is_row (a_cons (d_ix ix_seq od_ix (d_var 0) d_int (fun _ _ => rfl)) (a_cons d_int (a_cons d_int a_nil)))))) (w_or1 (b_cmp op_gt od_gt (d_callB call_len cd_len (by rfl) T.z_len PySem.boot_len (a_cons (d_ix ix_seq od_ix (d_var 0) d_int (fun _ _ => rfl)) a_nil)) d_int (nomark _))))))) (ss_one (s_ret d_bl)) ss_nil)
    (ss_cons (s_if (b_w (w_or (b_not (b_val (d_call (ok__law_whole T) (hr.mono (by omega)) T.m__law_whole T.F__law_whole.kp T.b__law_whole (a_cons (d_ix ix_seq od_ix (d_var 0) d_int (fun _ _ => rfl)) a_nil)))) (w_or (b_not (b_chain op_le od_le op_le od_le d_int (d_ix ix_seq od_ix (d_var 0) d_int (fun _ _ => rfl)) d_int)) (w_or1 (b_not (b_val (d_isi .bool T.z_isinstance T.z_bool PyProof.Rows.boot_bool (d_ix ix_seq od_ix (d_var 0) d_int (fun _ _ => rfl))))))))) (ss_one (s_ret d_bl)) ss_nil)
    (ss_cons (s_if (b_w (w_or (b_not (b_val (d_isi .tuple T.z_isinstance T.z_tuple PyProof.Rows.boot_tuple (d_ix ix_seq od_ix (d_var 0) d_int (fun _ _ => rfl))))) (w_or1 (b_cmp (op_neU hr.units) od_ne (d_callB call_len cd_len (by rfl) T.z_len PySem.boot_len (a_cons (d_ix ix_seq od_ix (d_var 0) d_int (fun _ _ => rfl)) a_nil)) (d_op op_addU od_add (d_callB call_len cd_len (by rfl) T.z_len PySem.boot_len (a_cons (d_ix ix_seq od_ix (d_var 0) d_int (fun _ _ => rfl)) a_nil)) d_int) (nomark _))))) (ss_one (s_ret d_bl)) ss_nil)
    (ss_one (s_ret (d_cmp (op_eqU hr.units) od_eq (d_fz (o_lc [("row", 1)] rfl nd (i_any (d_ix ix_seq od_ix (d_var 0) d_int (fun _ _ => rfl))) (blkOk_by (by rfl)) (fun _ _ _ _ _ => (g_name (i := 1) nd)) (fun _ _ _ _ _ => (ts_one (b_w (w_or (b_not (b_val (d_call (ok__law_is_row T) (hr.mono (by omega)) T.m__law_is_row T.F__law_is_row.kp T.b__law_is_row (a_cons (d_var 1) (a_cons (d_neg d_int) (a_cons d_int a_nil)))))) (w_or1 (b_cmp (op_neU hr.units) od_ne (d_callB call_len cd_len (by rfl) T.z_len PySem.boot_len (a_cons (d_var 1) a_nil)) d_int (nomark _))))))) (fun _ _ _ _ _ => d_int) (by decide))) (d_lst a_nil) (nomark _)))))))) rd_law_is
theorem ok__law_one (T : Txt K mg) : FnOk P w K mg base CX0 2 T.f__law_one T.fd__law_one ["deck", "some"] (liftK K sp_law_one) := by
  have nd := sc__law_one.nd
  exact fn_okK T.F__law_one sc__law_one len_law_one (by decide) (fun cdv A outer s H E hr =>
    (ss_one (s_ret (d_ix ix_seq od_ix (d_var 1) (d_callK (i := 0) (ok__law_pick T) (hr.mono (by omega)) T.m__law_pick T.F__law_pick.kp T.b__law_pick (a_cons (d_callB call_len cd_len (by rfl) T.z_len PySem.boot_len (a_cons (d_var 1) a_nil)) a_nil)) (fun _ _ => rfl))))) rd_law_one
theorem ok__law_changed (T : Txt K mg) : ∀ n : Nat, FnOk P w K mg base CX0 (n + 3) T.f__law_changed T.fd__law_changed ["deck", "thing"] (liftK K (sp_law_changed n))
  | 0 => fn_okK T.F__law_changed sc__law_changed (fun m ds Q h => (no_law_changed m ds Q h).elim) (by decide) (fun cdv A outer s H E hr => ss_never) (fun m ds Q h => (no_law_changed m ds Q h).elim)
  | n + 1 => by
    have ih := ok__law_changed T n
    have nd := sc__law_changed.nd
    exact fn_okK T.F__law_changed sc__law_changed len_law_changed (by decide) (fun cdv A outer s H E hr =>
    (ss_cons (s_if (b_w (w_and (b_val (d_isi .tuple T.z_isinstance T.z_tuple PyProof.Rows.boot_tuple (d_var 1))) (w_and (b_cmp (op_neU hr.units) od_ne (d_var 1) (d_tup a_nil) (nomark _)) (w_and1 (b_cmp op_gt od_gt (d_callK (i := 0) (ok__law_pick T) (hr.mono (by omega)) T.m__law_pick T.F__law_pick.kp T.b__law_pick (a_cons d_int a_nil)) d_int (nomark _)))))) (ss_cons (s_par2 (i := 2) (j := 3) rfl nd (by decide) (a_cons (d_callK (i := 0) (ok__law_pick T) (hr.mono (by omega)) T.m__law_pick T.F__law_pick.kp T.b__law_pick (a_cons (d_callB call_len cd_len (by rfl) T.z_len PySem.boot_len (a_cons (d_var 1) a_nil)) a_nil)) (a_cons (d_callK (i := 0) (ok__law_pick T) (hr.mono (by omega)) T.m__law_pick T.F__law_pick.kp T.b__law_pick (a_cons d_int a_nil)) a_nil)))
    (ss_cons (s_if (b_cmp (op_eqU hr.units) od_eq (d_var 3) d_int (nomark _)) (ss_one (s_ret (d_op op_addU od_add (d_sl (d_var 1) op_none (op_some (d_var 2))) (d_sl (d_var 1) (op_some (d_op op_addU od_add (d_var 2) d_int)) op_none)))) ss_nil)
    (ss_cons (s_if (b_cmp (op_eqU hr.units) od_eq (d_var 3) d_int (nomark _)) (ss_one (s_ret (d_op op_addU od_add (d_sl (d_var 1) op_none (op_some (d_op op_addU od_add (d_var 2) d_int))) (d_sl (d_var 1) (op_some (d_var 2)) op_none)))) ss_nil)
    (ss_one (s_ret (d_op op_addU od_add (d_op op_addU od_add (d_sl (d_var 1) op_none (op_some (d_var 2))) (d_tup (a_cons (d_callK (i := 0) ih (hr.mono (by omega)) T.m__law_changed T.F__law_changed.kp T.b__law_changed (a_cons (d_ix ix_seq od_ix (d_var 1) (d_var 2) (fun _ _ => rfl)) a_nil)) a_nil))) (d_sl (d_var 1) (op_some (d_op op_addU od_add (d_var 2) d_int)) op_none))))))) ss_nil)
    (ss_cons (s_set (i := 4) nd (d_lst (a_cons d_non (a_cons d_bl (a_cons d_bl (a_cons d_int (a_cons d_int (a_cons d_int (a_cons d_int (a_cons d_int (a_cons d_int (a_cons (d_neg d_int) (a_cons (d_neg d_int) (a_cons d_str (a_cons (d_tup a_nil) (a_cons (d_lst a_nil) (a_cons (d_op op_pow od_pow d_int d_int) (a_cons (d_tup (a_cons d_int (a_cons d_int (a_cons d_int a_nil)))) a_nil))))))))))))))))))
    (ss_cons (s_if (b_w (w_and (b_val (d_isi .int T.z_isinstance T.z_int PyProof.Rows.boot_int (d_var 1))) (w_and1 (b_cmp (op_eqU hr.units) od_eq (d_callK (i := 0) (ok__law_pick T) (hr.mono (by omega)) T.m__law_pick T.F__law_pick.kp T.b__law_pick (a_cons d_int a_nil)) d_int (nomark _))))) (ss_one (s_ret (d_op op_addU od_add (d_var 1) (d_callK (i := 0) (ok__law_one T) (hr.mono (by omega)) T.m__law_one T.F__law_one.kp T.b__law_one (a_cons (d_lst (a_cons d_int (a_cons (d_neg d_int) a_nil))) a_nil))))) ss_nil)
    (ss_one (s_ret (d_if (b_w (w_and (b_val (d_isi .tuple T.z_isinstance T.z_tuple PyProof.Rows.boot_tuple (d_var 1))) (w_and1 (b_cmp (op_eqU hr.units) od_eq (d_callK (i := 0) (ok__law_pick T) (hr.mono (by omega)) T.m__law_pick T.F__law_pick.kp T.b__law_pick (a_cons d_int a_nil)) d_int (nomark _))))) (d_callTy call_list_of cd_lstOf (by rfl) T.z_list PyProof.Rows.boot_list (a_cons (d_var 1) a_nil)) (d_callK (i := 0) (ok__law_one T) (hr.mono (by omega)) T.m__law_one T.F__law_one.kp T.b__law_one (a_cons (d_var 4) a_nil))))))))) (rd_law_changed n)
theorem ok_law (T : Txt K mg) : FnOk P w K mg base CX0 9 T.f_law T.fd_law ["script"] (lift K sp_law) := by
  have nd := sc_law.nd
  exact fn_ok T.F_law sc_law len_law (fun cdv A outer s H E hr =>
    (ss_cons (s_for PassesOwn.never rfl (i_r1 T.z_range (a_cons d_int a_nil)) (g_name (i := 1) nd) (ss_cons (s_setK (i := 2) nd (ok__law_deck T) (hr.mono (by omega)) T.m__law_deck T.F__law_deck.kp T.b__law_deck (a_cons (d_ix ix_seq od_ix (d_op op_addU od_add (d_var 0) (d_fz (o_rep (a_cons d_int a_nil) d_int))) (d_var 1) (fun _ _ => rfl)) (a_cons (d_var 1) a_nil)))
    (ss_one (s_for PassesOwn.never rfl (i_r1 T.z_range (a_cons d_int a_nil)) (g_name (i := 3) nd) (ss_cons (s_set (i := 4) nd (d_callK (i := 2) (ok__law_rule T) (hr.mono (by omega)) T.m__law_rule T.F__law_rule.kp T.b__law_rule (a_cons d_int a_nil)))
    (ss_cons (s_if (b_cmp op_notU od_not (d_call (ok_is_rule T) (hr.mono (by omega)) T.m_is_rule T.F_is_rule.kp T.b_is_rule (a_cons (d_var 4) a_nil)) d_bl (nomark _)) (ss_one (s_ret d_bl)) ss_nil)
    (ss_cons (s_set (i := 5) nd (d_callK (i := 2) (ok__law_changed T 5) (hr.mono (by omega)) T.m__law_changed T.F__law_changed.kp T.b__law_changed (a_cons (d_var 4) a_nil)))
    (ss_cons (s_if (b_cmp (op_eqU hr.units) od_eq (d_callK (i := 2) (ok__law_pick T) (hr.mono (by omega)) T.m__law_pick T.F__law_pick.kp T.b__law_pick (a_cons d_int a_nil)) d_int (nomark _)) (ss_one (s_set (i := 5) nd (d_callK (i := 2) (ok__law_changed T 5) (hr.mono (by omega)) T.m__law_changed T.F__law_changed.kp T.b__law_changed (a_cons (d_var 5) a_nil)))) ss_nil)
    (ss_cons (s_set (i := 6) nd (d_call (ok_is_rule T) (hr.mono (by omega)) T.m_is_rule T.F_is_rule.kp T.b_is_rule (a_cons (d_var 5) a_nil)))
    (ss_one (s_if (b_w (w_or (b_not (b_val (d_isi .bool T.z_isinstance T.z_bool PyProof.Rows.boot_bool (d_var 6)))) (w_or1 (b_cmp (op_neU hr.units) od_ne (d_var 6) (d_call (ok__law_is T) (hr.mono (by omega)) T.m__law_is T.F__law_is.kp T.b__law_is (a_cons (d_var 5) a_nil)) (nomark _))))) (ss_one (s_ret d_bl)) ss_nil)))))))))))
    (ss_cons (s_set (i := 7) nd (d_tup (a_cons (d_neg d_int) (a_cons d_int (a_cons d_int a_nil)))))
    (ss_cons (s_if (b_w (w_or (b_cmp op_notU od_not (d_call (ok_is_rule T) (hr.mono (by omega)) T.m_is_rule T.F_is_rule.kp T.b_is_rule (a_cons (d_tup (a_cons (d_tup (a_cons d_int (a_cons d_int (a_cons d_int a_nil)))) (a_cons d_int (a_cons d_bl (a_cons (d_op op_mulU od_mul (d_tup (a_cons (d_var 7) a_nil)) d_int) a_nil))))) a_nil)) d_bl (nomark _)) (w_or1 (b_cmp op_notU od_not (d_call (ok_is_rule T) (hr.mono (by omega)) T.m_is_rule T.F_is_rule.kp T.b_is_rule (a_cons (d_tup (a_cons (d_op op_mulU od_mul (d_tup (a_cons d_int a_nil)) d_int) (a_cons d_int (a_cons d_bl (a_cons (d_op op_mulU od_mul (d_tup (a_cons (d_var 7) a_nil)) d_int) a_nil))))) a_nil)) d_bl (nomark _))))) (ss_one (s_ret d_bl)) ss_nil)
    (ss_one (s_ret (d_and (d_cmp op_isU od_is (d_call (ok_is_rule T) (hr.mono (by omega)) T.m_is_rule T.F_is_rule.kp T.b_is_rule (a_cons (d_tup (a_cons (d_tup a_nil) (a_cons d_int (a_cons d_int (a_cons (d_tup (a_cons (d_var 7) a_nil)) a_nil))))) a_nil)) d_bl (nomark _)) (d_one (d_cmp op_isU od_is (d_call (ok_is_rule T) (hr.mono (by omega)) T.m_is_rule T.F_is_rule.kp T.b_is_rule (a_cons (d_tup (a_cons (d_tup a_nil) (a_cons d_int (a_cons d_bl (a_cons (d_tup a_nil) a_nil))))) a_nil)) d_bl (nomark _)))))))))) rd_law
end
theorem all_mk {l : PySem.W.OpenLaw} {w : World} {K : PySem.W.Frag} {h : Heap} {mg : Str → Option Value} {fa : Addr} (X : K.In h) (G : h.Ns mainGlobals mg) (hfa : mg "law" = some (.ref fa))
    {f0 : Addr} {od0 an0 : Option Addr} {sl0 : Array (Option Value)} {oc0 kV0 dc0 pm0 cd0 ct0 : Value}
    (a0 : PySem.W.nsIn K mainGlobals "is_from" = some (some (.ref f0))) (l0 : K.lookup f0 = some ⟨oc0, od0, .func (PySem.W.fnOf "is_from" "is_from" (defArgs s_is_from) (defBody s_is_from) (defScope s_is_from) .none kV0 dc0 pm0 an0 cd0 ct0), sl0⟩) (c0 : PySem.W.codeIn K cd0 "is_from" = true) (k0 : PySem.W.keepIn K (.ref f0) = true)
    {f1 : Addr} {od1 an1 : Option Addr} {sl1 : Array (Option Value)} {oc1 kV1 dc1 pm1 cd1 ct1 : Value}
    (a1 : PySem.W.nsIn K mainGlobals "are_from" = some (some (.ref f1))) (l1 : K.lookup f1 = some ⟨oc1, od1, .func (PySem.W.fnOf "are_from" "are_from" (defArgs s_are_from) (defBody s_are_from) (defScope s_are_from) .none kV1 dc1 pm1 an1 cd1 ct1), sl1⟩) (c1 : PySem.W.codeIn K cd1 "are_from" = true) (k1 : PySem.W.keepIn K (.ref f1) = true)
    {f2 : Addr} {od2 an2 : Option Addr} {sl2 : Array (Option Value)} {oc2 kV2 dc2 pm2 cd2 ct2 : Value}
    (a2 : PySem.W.nsIn K mainGlobals "is_rule_of" = some (some (.ref f2))) (l2 : K.lookup f2 = some ⟨oc2, od2, .func (PySem.W.fnOf "is_rule_of" "is_rule_of" (defArgs s_is_rule_of) (defBody s_is_rule_of) (defScope s_is_rule_of) .none kV2 dc2 pm2 an2 cd2 ct2), sl2⟩) (c2 : PySem.W.codeIn K cd2 "is_rule_of" = true) (k2 : PySem.W.keepIn K (.ref f2) = true)
    {f3 : Addr} {od3 an3 : Option Addr} {sl3 : Array (Option Value)} {oc3 kV3 dc3 pm3 cd3 ct3 : Value}
    (a3 : PySem.W.nsIn K mainGlobals "is_rule" = some (some (.ref f3))) (l3 : K.lookup f3 = some ⟨oc3, od3, .func (PySem.W.fnOf "is_rule" "is_rule" (defArgs s_is_rule) (defBody s_is_rule) (defScope s_is_rule) .none kV3 dc3 pm3 an3 cd3 ct3), sl3⟩) (c3 : PySem.W.codeIn K cd3 "is_rule" = true) (k3 : PySem.W.keepIn K (.ref f3) = true)
    {f4 : Addr} {od4 an4 : Option Addr} {sl4 : Array (Option Value)} {oc4 kV4 dc4 pm4 cd4 ct4 : Value}
    (a4 : PySem.W.nsIn K mainGlobals "_law_deck" = some (some (.ref f4))) (l4 : K.lookup f4 = some ⟨oc4, od4, .func (PySem.W.fnOf "_law_deck" "_law_deck" (defArgs s__law_deck) (defBody s__law_deck) (defScope s__law_deck) .none kV4 dc4 pm4 an4 cd4 ct4), sl4⟩) (c4 : PySem.W.codeIn K cd4 "_law_deck" = true) (k4 : PySem.W.keepIn K (.ref f4) = true)
    {f5 : Addr} {od5 an5 : Option Addr} {sl5 : Array (Option Value)} {oc5 kV5 dc5 pm5 cd5 ct5 : Value}
    (a5 : PySem.W.nsIn K mainGlobals "_law_pick" = some (some (.ref f5))) (l5 : K.lookup f5 = some ⟨oc5, od5, .func (PySem.W.fnOf "_law_pick" "_law_pick" (defArgs s__law_pick) (defBody s__law_pick) (defScope s__law_pick) .none kV5 dc5 pm5 an5 cd5 ct5), sl5⟩) (c5 : PySem.W.codeIn K cd5 "_law_pick" = true) (k5 : PySem.W.keepIn K (.ref f5) = true)
    {f6 : Addr} {od6 an6 : Option Addr} {sl6 : Array (Option Value)} {oc6 kV6 dc6 pm6 cd6 ct6 : Value}
    (a6 : PySem.W.nsIn K mainGlobals "_law_triple" = some (some (.ref f6))) (l6 : K.lookup f6 = some ⟨oc6, od6, .func (PySem.W.fnOf "_law_triple" "_law_triple" (defArgs s__law_triple) (defBody s__law_triple) (defScope s__law_triple) .none kV6 dc6 pm6 an6 cd6 ct6), sl6⟩) (c6 : PySem.W.codeIn K cd6 "_law_triple" = true) (k6 : PySem.W.keepIn K (.ref f6) = true)
    {f7 : Addr} {od7 an7 : Option Addr} {sl7 : Array (Option Value)} {oc7 kV7 dc7 pm7 cd7 ct7 : Value}
    (a7 : PySem.W.nsIn K mainGlobals "_law_rule" = some (some (.ref f7))) (l7 : K.lookup f7 = some ⟨oc7, od7, .func (PySem.W.fnOf "_law_rule" "_law_rule" (defArgs s__law_rule) (defBody s__law_rule) (defScope s__law_rule) .none kV7 dc7 pm7 an7 cd7 ct7), sl7⟩) (c7 : PySem.W.codeIn K cd7 "_law_rule" = true) (k7 : PySem.W.keepIn K (.ref f7) = true)
    {f8 : Addr} {od8 an8 : Option Addr} {sl8 : Array (Option Value)} {oc8 kV8 dc8 pm8 cd8 ct8 : Value}
    (a8 : PySem.W.nsIn K mainGlobals "_law_whole" = some (some (.ref f8))) (l8 : K.lookup f8 = some ⟨oc8, od8, .func (PySem.W.fnOf "_law_whole" "_law_whole" (defArgs s__law_whole) (defBody s__law_whole) (defScope s__law_whole) .none kV8 dc8 pm8 an8 cd8 ct8), sl8⟩) (c8 : PySem.W.codeIn K cd8 "_law_whole" = true) (k8 : PySem.W.keepIn K (.ref f8) = true)
    {f9 : Addr} {od9 an9 : Option Addr} {sl9 : Array (Option Value)} {oc9 kV9 dc9 pm9 cd9 ct9 : Value}
    (a9 : PySem.W.nsIn K mainGlobals "_law_is_row" = some (some (.ref f9))) (l9 : K.lookup f9 = some ⟨oc9, od9, .func (PySem.W.fnOf "_law_is_row" "_law_is_row" (defArgs s__law_is_row) (defBody s__law_is_row) (defScope s__law_is_row) .none kV9 dc9 pm9 an9 cd9 ct9), sl9⟩) (c9 : PySem.W.codeIn K cd9 "_law_is_row" = true) (k9 : PySem.W.keepIn K (.ref f9) = true)
    {f10 : Addr} {od10 an10 : Option Addr} {sl10 : Array (Option Value)} {oc10 kV10 dc10 pm10 cd10 ct10 : Value}
    (a10 : PySem.W.nsIn K mainGlobals "_law_is" = some (some (.ref f10))) (l10 : K.lookup f10 = some ⟨oc10, od10, .func (PySem.W.fnOf "_law_is" "_law_is" (defArgs s__law_is) (defBody s__law_is) (defScope s__law_is) .none kV10 dc10 pm10 an10 cd10 ct10), sl10⟩) (c10 : PySem.W.codeIn K cd10 "_law_is" = true) (k10 : PySem.W.keepIn K (.ref f10) = true)
    {f11 : Addr} {od11 an11 : Option Addr} {sl11 : Array (Option Value)} {oc11 kV11 dc11 pm11 cd11 ct11 : Value}
    (a11 : PySem.W.nsIn K mainGlobals "_law_one" = some (some (.ref f11))) (l11 : K.lookup f11 = some ⟨oc11, od11, .func (PySem.W.fnOf "_law_one" "_law_one" (defArgs s__law_one) (defBody s__law_one) (defScope s__law_one) .none kV11 dc11 pm11 an11 cd11 ct11), sl11⟩) (c11 : PySem.W.codeIn K cd11 "_law_one" = true) (k11 : PySem.W.keepIn K (.ref f11) = true)
    {f12 : Addr} {od12 an12 : Option Addr} {sl12 : Array (Option Value)} {oc12 kV12 dc12 pm12 cd12 ct12 : Value}
    (a12 : PySem.W.nsIn K mainGlobals "_law_changed" = some (some (.ref f12))) (l12 : K.lookup f12 = some ⟨oc12, od12, .func (PySem.W.fnOf "_law_changed" "_law_changed" (defArgs s__law_changed) (defBody s__law_changed) (defScope s__law_changed) .none kV12 dc12 pm12 an12 cd12 ct12), sl12⟩) (c12 : PySem.W.codeIn K cd12 "_law_changed" = true) (k12 : PySem.W.keepIn K (.ref f12) = true)
    {f13 : Addr} {od13 an13 : Option Addr} {sl13 : Array (Option Value)} {oc13 kV13 dc13 pm13 cd13 ct13 : Value}
    (a13 : PySem.W.nsIn K mainGlobals "law" = some (some (.ref f13))) (l13 : K.lookup f13 = some ⟨oc13, od13, .func (PySem.W.fnOf "law" "law" (defArgs s_law) (defBody s_law) (defScope s_law) .none kV13 dc13 pm13 an13 cd13 ct13), sl13⟩) (c13 : PySem.W.codeIn K cd13 "law" = true) (k13 : PySem.W.keepIn K (.ref f13) = true)
    (z_all : PySem.W.nsIn K mainGlobals "all" = some none)
    (z_bool : PySem.W.nsIn K mainGlobals "bool" = some none)
    (z_int : PySem.W.nsIn K mainGlobals "int" = some none)
    (z_isinstance : PySem.W.nsIn K mainGlobals "isinstance" = some none)
    (z_len : PySem.W.nsIn K mainGlobals "len" = some none)
    (z_list : PySem.W.nsIn K mainGlobals "list" = some none)
    (z_range : PySem.W.nsIn K mainGlobals "range" = some none)
    (z_tuple : PySem.W.nsIn K mainGlobals "tuple" = some none)
    {t_MOST_DROP : _} (c_MOST_DROP : PySem.W.nsIn K mainGlobals "MOST_DROP" = some (some (.int 3 t_MOST_DROP)))
    {t_MOST_POINTS : _} (c_MOST_POINTS : PySem.W.nsIn K mainGlobals "MOST_POINTS" = some (some (.int 20 t_MOST_POINTS)))
    {t_MOST_STEP : _} (c_MOST_STEP : PySem.W.nsIn K mainGlobals "MOST_STEP" = some (some (.int 3 t_MOST_STEP)))
    {t_MOST_STEPS : _} (c_MOST_STEPS : PySem.W.nsIn K mainGlobals "MOST_STEPS" = some (some (.int 3 t_MOST_STEPS)))
    : ∃ fd : FuncData, (∀ (s : Shared) (v : Value), BindsTo s fd ⟨[v], []⟩ [("script", v)]) ∧ ∀ base : Heap, K.In base → base.Ns mainGlobals mg → FnOk l.prog w K mg base CX0 9 fa fd ["script"] (lift K sp_law) := by
  let T : Txt K mg := {
    f_is_from := f0, fd_is_from := PySem.W.fnOf "is_from" "is_from" (defArgs s_is_from) (defBody s_is_from) (defScope s_is_from) .none kV0 dc0 pm0 an0 cd0 ct0
    F_is_from := fun_mk (st := s_is_from) l0 c0 k0
    b_is_from := (fun_mk (st := s_is_from) l0 c0 k0).binds (ps := ["value", "low", "high"]) fun _ _ _ _ _ _ us hl => match us, hl with | [_, _, _], _ => rfl
    m_is_from := PySem.W.mg_of X G a0
    f_are_from := f1, fd_are_from := PySem.W.fnOf "are_from" "are_from" (defArgs s_are_from) (defBody s_are_from) (defScope s_are_from) .none kV1 dc1 pm1 an1 cd1 ct1
    F_are_from := fun_mk (st := s_are_from) l1 c1 k1
    b_are_from := (fun_mk (st := s_are_from) l1 c1 k1).binds (ps := ["value", "low", "high"]) fun _ _ _ _ _ _ us hl => match us, hl with | [_, _, _], _ => rfl
    m_are_from := PySem.W.mg_of X G a1
    f_is_rule_of := f2, fd_is_rule_of := PySem.W.fnOf "is_rule_of" "is_rule_of" (defArgs s_is_rule_of) (defBody s_is_rule_of) (defScope s_is_rule_of) .none kV2 dc2 pm2 an2 cd2 ct2
    F_is_rule_of := fun_mk (st := s_is_rule_of) l2 c2 k2
    b_is_rule_of := (fun_mk (st := s_is_rule_of) l2 c2 k2).binds (ps := ["value"]) fun _ _ _ _ _ _ us hl => match us, hl with | [_], _ => rfl
    m_is_rule_of := PySem.W.mg_of X G a2
    f_is_rule := f3, fd_is_rule := PySem.W.fnOf "is_rule" "is_rule" (defArgs s_is_rule) (defBody s_is_rule) (defScope s_is_rule) .none kV3 dc3 pm3 an3 cd3 ct3
    F_is_rule := fun_mk (st := s_is_rule) l3 c3 k3
    b_is_rule := (fun_mk (st := s_is_rule) l3 c3 k3).binds (ps := ["value"]) fun _ _ _ _ _ _ us hl => match us, hl with | [_], _ => rfl
    m_is_rule := PySem.W.mg_of X G a3
    f__law_deck := f4, fd__law_deck := PySem.W.fnOf "_law_deck" "_law_deck" (defArgs s__law_deck) (defBody s__law_deck) (defScope s__law_deck) .none kV4 dc4 pm4 an4 cd4 ct4
    F__law_deck := fun_mk (st := s__law_deck) l4 c4 k4
    b__law_deck := (fun_mk (st := s__law_deck) l4 c4 k4).binds (ps := ["cell", "turn"]) fun _ _ _ _ _ _ us hl => match us, hl with | [_, _], _ => rfl
    m__law_deck := PySem.W.mg_of X G a4
    f__law_pick := f5, fd__law_pick := PySem.W.fnOf "_law_pick" "_law_pick" (defArgs s__law_pick) (defBody s__law_pick) (defScope s__law_pick) .none kV5 dc5 pm5 an5 cd5 ct5
    F__law_pick := fun_mk (st := s__law_pick) l5 c5 k5
    b__law_pick := (fun_mk (st := s__law_pick) l5 c5 k5).binds (ps := ["deck", "limit"]) fun _ _ _ _ _ _ us hl => match us, hl with | [_, _], _ => rfl
    m__law_pick := PySem.W.mg_of X G a5
    f__law_triple := f6, fd__law_triple := PySem.W.fnOf "_law_triple" "_law_triple" (defArgs s__law_triple) (defBody s__law_triple) (defScope s__law_triple) .none kV6 dc6 pm6 an6 cd6 ct6
    F__law_triple := fun_mk (st := s__law_triple) l6 c6 k6
    b__law_triple := (fun_mk (st := s__law_triple) l6 c6 k6).binds (ps := ["deck"]) fun _ _ _ _ _ _ us hl => match us, hl with | [_], _ => rfl
    m__law_triple := PySem.W.mg_of X G a6
    f__law_rule := f7, fd__law_rule := PySem.W.fnOf "_law_rule" "_law_rule" (defArgs s__law_rule) (defBody s__law_rule) (defScope s__law_rule) .none kV7 dc7 pm7 an7 cd7 ct7
    F__law_rule := fun_mk (st := s__law_rule) l7 c7 k7
    b__law_rule := (fun_mk (st := s__law_rule) l7 c7 k7).binds (ps := ["deck", "most"]) fun _ _ _ _ _ _ us hl => match us, hl with | [_, _], _ => rfl
    m__law_rule := PySem.W.mg_of X G a7
    f__law_whole := f8, fd__law_whole := PySem.W.fnOf "_law_whole" "_law_whole" (defArgs s__law_whole) (defBody s__law_whole) (defScope s__law_whole) .none kV8 dc8 pm8 an8 cd8 ct8
    F__law_whole := fun_mk (st := s__law_whole) l8 c8 k8
    b__law_whole := (fun_mk (st := s__law_whole) l8 c8 k8).binds (ps := ["thing"]) fun _ _ _ _ _ _ us hl => match us, hl with | [_], _ => rfl
    m__law_whole := PySem.W.mg_of X G a8
    f__law_is_row := f9, fd__law_is_row := PySem.W.fnOf "_law_is_row" "_law_is_row" (defArgs s__law_is_row) (defBody s__law_is_row) (defScope s__law_is_row) .none kV9 dc9 pm9 an9 cd9 ct9
    F__law_is_row := fun_mk (st := s__law_is_row) l9 c9 k9
    b__law_is_row := (fun_mk (st := s__law_is_row) l9 c9 k9).binds (ps := ["thing", "low", "high"]) fun _ _ _ _ _ _ us hl => match us, hl with | [_, _, _], _ => rfl
    m__law_is_row := PySem.W.mg_of X G a9
    f__law_is := f10, fd__law_is := PySem.W.fnOf "_law_is" "_law_is" (defArgs s__law_is) (defBody s__law_is) (defScope s__law_is) .none kV10 dc10 pm10 an10 cd10 ct10
    F__law_is := fun_mk (st := s__law_is) l10 c10 k10
    b__law_is := (fun_mk (st := s__law_is) l10 c10 k10).binds (ps := ["thing"]) fun _ _ _ _ _ _ us hl => match us, hl with | [_], _ => rfl
    m__law_is := PySem.W.mg_of X G a10
    f__law_one := f11, fd__law_one := PySem.W.fnOf "_law_one" "_law_one" (defArgs s__law_one) (defBody s__law_one) (defScope s__law_one) .none kV11 dc11 pm11 an11 cd11 ct11
    F__law_one := fun_mk (st := s__law_one) l11 c11 k11
    b__law_one := (fun_mk (st := s__law_one) l11 c11 k11).binds (ps := ["deck", "some"]) fun _ _ _ _ _ _ us hl => match us, hl with | [_, _], _ => rfl
    m__law_one := PySem.W.mg_of X G a11
    f__law_changed := f12, fd__law_changed := PySem.W.fnOf "_law_changed" "_law_changed" (defArgs s__law_changed) (defBody s__law_changed) (defScope s__law_changed) .none kV12 dc12 pm12 an12 cd12 ct12
    F__law_changed := fun_mk (st := s__law_changed) l12 c12 k12
    b__law_changed := (fun_mk (st := s__law_changed) l12 c12 k12).binds (ps := ["deck", "thing"]) fun _ _ _ _ _ _ us hl => match us, hl with | [_, _], _ => rfl
    m__law_changed := PySem.W.mg_of X G a12
    f_law := f13, fd_law := PySem.W.fnOf "law" "law" (defArgs s_law) (defBody s_law) (defScope s_law) .none kV13 dc13 pm13 an13 cd13 ct13
    F_law := fun_mk (st := s_law) l13 c13 k13
    b_law := (fun_mk (st := s_law) l13 c13 k13).binds (ps := ["script"]) fun _ _ _ _ _ _ us hl => match us, hl with | [_], _ => rfl
    m_law := PySem.W.mg_of X G a13
    z_all := PySem.W.mg_none_of X G z_all
    z_bool := PySem.W.mg_none_of X G z_bool
    z_int := PySem.W.mg_none_of X G z_int
    z_isinstance := PySem.W.mg_none_of X G z_isinstance
    z_len := PySem.W.mg_none_of X G z_len
    z_list := PySem.W.mg_none_of X G z_list
    z_range := PySem.W.mg_none_of X G z_range
    z_tuple := PySem.W.mg_none_of X G z_tuple
    c_MOST_DROP := ⟨_, PySem.W.mg_of X G c_MOST_DROP⟩
    c_MOST_POINTS := ⟨_, PySem.W.mg_of X G c_MOST_POINTS⟩
    c_MOST_STEP := ⟨_, PySem.W.mg_of X G c_MOST_STEP⟩
    c_MOST_STEPS := ⟨_, PySem.W.mg_of X G c_MOST_STEPS⟩
    }
  have e := hfa.symm.trans T.m_law
  cases e
  exact ⟨T.fd_law, fun s v => .of_eq rfl, fun base _ _ => ok_law T⟩
end K01
open PySem PySem.W PyProof.Rows
set_option maxHeartbeats 0 in
theorem PySem.Challenge.cw_comboscores_k01_rules_recognized_holds : PySem.Challenge.rw_comboscores_k01_rules_recognized.Holds := by
  w_on; o_law; k_head; (case hw => w_witness2)
  k_fill
  refine L2.walk_of (l := PySem.Challenge.rw_comboscores_k01_rules_recognized) (n := 63) (k := 9) (x := "script") (CX := fun _ => L2.CX0) (sp := fun w => DL.lift _ K01.sp_law) rfl (by decide) rfl ⟨rfl, by decide, by decide⟩ (fun w h Y => PySem.W.kIn_of Y) ?F (fun _ _ a ns hl _ hS => DL.law_start hS hl fun ns Q h1 h2 => ⟨ns, h1, rfl, h2⟩) (fun _ _ _ _ _ h => h)
  case F =>
    intro w mg fa h KX G hmg
    refine' K01.all_mk KX G hmg ?a0 ?l0 ?c0 ?k0 ?a1 ?l1 ?c1 ?k1 ?a2 ?l2 ?c2 ?k2 ?a3 ?l3 ?c3 ?k3 ?a4 ?l4 ?c4 ?k4 ?a5 ?l5 ?c5 ?k5 ?a6 ?l6 ?c6 ?k6 ?a7 ?l7 ?c7 ?k7 ?a8 ?l8 ?c8 ?k8 ?a9 ?l9 ?c9 ?k9 ?a10 ?l10 ?c10 ?k10 ?a11 ?l11 ?c11 ?k11 ?a12 ?l12 ?c12 ?k12 ?a13 ?l13 ?c13 ?k13 ?z_all ?z_bool ?z_int ?z_isinstance ?z_len ?z_list ?z_range ?z_tuple ?c_MOST_DROP ?c_MOST_POINTS ?c_MOST_STEP ?c_MOST_STEPS
    (case a0 => k_is); (case l0 => k_is); (case c0 => k_is); (case k0 => k_is); (case a1 => k_is); (case l1 => k_is); (case c1 => k_is); (case k1 => k_is); (case a2 => k_is); (case l2 => k_is); (case c2 => k_is); (case k2 => k_is); (case a3 => k_is); (case l3 => k_is); (case c3 => k_is); (case k3 => k_is); (case a4 => k_is); (case l4 => k_is); (case c4 => k_is); (case k4 => k_is); (case a5 => k_is); (case l5 => k_is); (case c5 => k_is); (case k5 => k_is); (case a6 => k_is); (case l6 => k_is); (case c6 => k_is); (case k6 => k_is); (case a7 => k_is); (case l7 => k_is); (case c7 => k_is); (case k7 => k_is); (case a8 => k_is); (case l8 => k_is); (case c8 => k_is); (case k8 => k_is); (case a9 => k_is); (case l9 => k_is); (case c9 => k_is); (case k9 => k_is); (case a10 => k_is); (case l10 => k_is); (case c10 => k_is); (case k10 => k_is); (case a11 => k_is); (case l11 => k_is); (case c11 => k_is); (case k11 => k_is); (case a12 => k_is); (case l12 => k_is); (case c12 => k_is); (case k12 => k_is); (case a13 => k_is); (case l13 => k_is); (case c13 => k_is); (case k13 => k_is); (case z_all => k_is); (case z_bool => k_is); (case z_int => k_is); (case z_isinstance => k_is); (case z_len => k_is); (case z_list => k_is); (case z_range => k_is); (case z_tuple => k_is); (case c_MOST_DROP => k_is); (case c_MOST_POINTS => k_is); (case c_MOST_STEP => k_is); (case c_MOST_STEPS => k_is)
