/- Part 1 of what the proof rests on: an abstract machine over the model, its contracts for the program, and plain mathematics. -/
import Derived.Calls
import Derived.Below
import Derived.Orders
import Derived.Laws.Sem
import Derived.Laws.World
import Derived.Laws.Cells
import Derived.Laws.Rows
import Derived.Laws.CopyRow
import Derived.Laws.AppendOwn
import GoSem.Dispatch
import Derived.OrdersIn
import Derived.LoopNIn
import Derived.Laws.StructEq
import Derived.Laws.Cover3
import Derived.Laws.MakeOwn
/- Abstract values and how they lie in the machine's memory. -/
namespace Go.Abs

/-- Abstract values: what a proof knows of a value. -/
inductive AV where
  | any
  | bool (b : Bool)
  | int (k : IntKind) (n : Int)
  | str (s : ByteArray)
  | agg (vs : List AV)
  | arr (sz : Nat) (vs : List AV)
  | lit (sz : Nat) (vs : List AV)
  | nilS
  | own (sh : Bool) (j ver : Nat)
  | pin (v : AV)
  | nilP
  | ref (sh : Bool) (j ver : Nat) (path : List Nat) (off : Nat)
  | func (fn : Fn) (first cap : List AV)
  | nilF
  | mapr (sh : Bool) (j : Nat)
  | nilM
  | iface (t : TypeId) (v : AV)
  | nilI
  | tup (vs : List AV)
  | yld (sh : Bool) (j : Nat)
  | win (j ver esz off len : Nat)
  deriving Inhabited

mutual
def AV.size : AV → Nat
  | .agg vs => AV.sizes vs
  | .arr _ vs => AV.sizes vs
  | _ => 1
def AV.sizes : List AV → Nat
  | [] => 0
  | v :: vs => v.size + AV.sizes vs
end
def AV.isAgg : AV → Bool
  | .agg _ | .arr _ _ => true
  | _ => false

/-- Is it the value of cells (not 'any', not several results)? -/
def AV.solid : AV → Bool
  | .any | .tup _ => false
  | _ => true

/-- Where a private or shared object lies: address and capacity. -/
abbrev Lam := Bool → Nat → Nat → Option (Option Addr × Nat)

structure Cx where
  w : World
  Fz : Nat → Prop
  lam : Lam

/-- The value of some cells. -/
def vOf (v : AV) (cs : List Value) : Value := if v.isAgg then .agg cs.toArray else cs.headD undef

mutual
/-- The cells in which a value lies. -/
def CR (c : Cx) : AV → List Value → Prop
  | .any, cs => ∃ u, cs = [u] ∧ u.oneCell' = true
  | .bool b, cs => cs = [.bool b]
  | .int k n, cs => cs = [.int k n]
  | .str s, cs => cs = [.string s]
  | .agg vs, cs => ∃ css, CRs c vs css ∧ cs = css.flatten
  | .arr sz vs, cs => (∀ v ∈ vs, v.size = sz) ∧ ∃ css, CRs c vs css ∧ cs = css.flatten
  | .lit sz vs, cs => (∀ v ∈ vs, v.size = sz) ∧ ∃ a cap css, CRs c vs css ∧ cs = [.slice a vs.length cap] ∧ vs.length ≤ cap ∧ cap ≤ maxLen ∧ (vs ≠ [] → ∃ ad, a = some ad ∧ c.Fz ad.block ∧ ∀ (k : Nat) (u : Value), css.flatten[k]? = some u → c.w.cell? (ad.add k) = some u)
  | .nilS, cs => cs = [.slice none 0 0]
  | .own sh j ver, cs => ∃ a cap, c.lam sh j ver = some (a, cap) ∧ ((a = none → ver = 0) ∧ ver ≤ cap) ∧ cs = [.slice a ver cap]
  | .pin v, cs => ∃ ad xs, CR c v xs ∧ cs = [.pointer (some ad)] ∧ c.Fz ad.block ∧ ∀ (k : Nat) (u : Value), xs[k]? = some u → c.w.cell? (ad.add k) = some u
  | .nilP, cs => cs = [.pointer none]
  | .ref sh j ver _ off, cs => ∃ ad cap, c.lam sh j ver = some (some ad, cap) ∧ cs = [.pointer (some (ad.add off))]
  | .func fn first cap, cs => ∃ fs gs, CRs c first fs ∧ CRs c cap gs ∧ cs = [.func fn ((first.zip fs).map fun p => vOf p.1 p.2).toArray ((cap.zip gs).map fun p => vOf p.1 p.2).toArray]
  | .nilF, cs => cs = [.nilFunc]
  | .mapr sh j, cs => ∃ m cap, c.lam sh j 0 = some (some ⟨m, 0, none⟩, cap) ∧ cs = [.map (some m)]
  | .nilM, cs => cs = [.map none]
  | .iface t v, cs => ∃ xs, CR c v xs ∧ cs = [.iface t (vOf v xs)]
  | .nilI, cs => cs = [.nilIface]
  | .tup _, _ => False
  | .yld sh j, cs => ∃ m cap, c.lam sh j 0 = some (some ⟨m, 0, none⟩, cap) ∧ cs = [.func (.yield m) #[] #[]]
  | .win j ver esz off len, cs => ∃ ad cap, c.lam false j ver = some (some ad, cap) ∧ (off < cap ∧ off + len ≤ ver) ∧ cs = [.slice (some (ad.add (off * esz))) len (cap - off)]
def CRs (c : Cx) : List AV → List (List Value) → Prop
  | [], css => css = []
  | v :: vs, css => ∃ x xs, css = x :: xs ∧ CR c v x ∧ CRs c vs xs
end
def VR1 (c : Cx) (v : AV) (m : Value) : Prop := ∃ cs, CR c v cs ∧ m = vOf v cs

/-- How a value stands in a temporary. -/
def VR (c : Cx) : AV → Value → Prop
  | .any, _ => True
  | .tup vs, m => ∃ ms : List Value, m = .tuple ms.toArray ∧ vs.length = ms.length ∧ ∀ (i : Nat) (v : AV) (u : Value), vs[i]? = some v → ms[i]? = some u → v = .any ∨ VR1 c v u
  | v, m => VR1 c v m

theorem sizes_eq (vs : List AV) : AV.sizes vs = (vs.map AV.size).sum := by
  induction vs with
  | nil => simp [AV.sizes]
  | cons v vs ih => simp [AV.sizes, ih]

theorem CRs_iff (c : Cx) : ∀ (vs : List AV) (css : List (List Value)), CRs c vs css ↔ vs.length = css.length ∧ ∀ (i : Nat) (v : AV) (x : List Value), vs[i]? = some v → css[i]? = some x → CR c v x
  | [], css => by
    rw [CRs]
    constructor
    · rintro rfl; simp
    · rintro ⟨h, _⟩; exact List.eq_nil_of_length_eq_zero h.symm
  | v :: vs, [] => by rw [CRs]; simp
  | v :: vs, x :: xs => by
    rw [CRs]
    constructor
    · rintro ⟨y, ys, e, h1, h2⟩
      cases e
      obtain ⟨hl, hi⟩ := (CRs_iff c vs xs).1 h2
      refine ⟨by simp [hl], ?_⟩
      intro i u z hu hz
      cases i with
      | zero => simp at hu hz; subst hu; subst hz; exact h1
      | succ i => simp at hu hz; exact hi i u z hu hz
    · rintro ⟨hl, hi⟩
      refine ⟨x, xs, rfl, hi 0 v x rfl rfl, (CRs_iff c vs xs).2 ⟨by simpa using hl, fun i u z hu hz => hi (i + 1) u z (by simpa using hu) (by simpa using hz)⟩⟩

theorem CRs_append {c : Cx} {vs us : List AV} {xs ys : List (List Value)} (h : CRs c vs xs) (k : CRs c us ys) : CRs c (vs ++ us) (xs ++ ys) := by
  induction vs generalizing xs with
  | nil => rw [CRs] at h; subst h; simpa using k
  | cons v vs ih =>
    rw [CRs] at h
    obtain ⟨x, zs, rfl, h1, h2⟩ := h
    simp only [List.cons_append]
    rw [CRs]
    exact ⟨x, _, rfl, h1, ih h2⟩

theorem CRs_length {c : Cx} {vs : List AV} {css : List (List Value)} (h : CRs c vs css) : vs.length = css.length := ((CRs_iff c vs css).1 h).1

theorem CRs_get {c : Cx} {vs : List AV} {css : List (List Value)} (h : CRs c vs css) {i : Nat} {v : AV} (hv : vs[i]? = some v) : ∃ x, css[i]? = some x ∧ CR c v x := by
  obtain ⟨hl, hi⟩ := (CRs_iff c vs css).1 h
  have hlt : i < vs.length := (List.getElem?_eq_some_iff.1 hv).1
  have hx : css[i]? = some (css[i]'(by omega)) := List.getElem?_eq_getElem (by omega)
  exact ⟨_, hx, hi i v _ hv hx⟩

mutual
theorem CR_len (c : Cx) : ∀ (v : AV) (cs : List Value), CR c v cs → cs.length = v.size
  | .any, cs, h => by rw [CR] at h; obtain ⟨u, rfl, _⟩ := h; simp [AV.size]
  | .bool b, cs, h => by rw [CR] at h; subst h; simp [AV.size]
  | .int k n, cs, h => by rw [CR] at h; subst h; simp [AV.size]
  | .str s, cs, h => by rw [CR] at h; subst h; simp [AV.size]
  | .agg vs, cs, h => by rw [CR] at h; obtain ⟨css, h, rfl⟩ := h; rw [AV.size]; exact CRs_len c vs css h
  | .arr sz vs, cs, h => by rw [CR] at h; obtain ⟨_, css, h, rfl⟩ := h; rw [AV.size]; exact CRs_len c vs css h
  | .lit sz vs, cs, h => by rw [CR] at h; obtain ⟨_, a, cap, css, _, rfl, _⟩ := h; simp [AV.size]
  | .nilS, cs, h => by rw [CR] at h; subst h; simp [AV.size]
  | .own sh j ver, cs, h => by rw [CR] at h; obtain ⟨a, cap, _, _, rfl⟩ := h; simp [AV.size]
  | .pin v, cs, h => by rw [CR] at h; obtain ⟨ad, xs, _, rfl, _⟩ := h; simp [AV.size]
  | .nilP, cs, h => by rw [CR] at h; subst h; simp [AV.size]
  | .ref sh j ver p off, cs, h => by rw [CR] at h; obtain ⟨a, cap, _, rfl⟩ := h; simp [AV.size]
  | .func fn f g, cs, h => by rw [CR] at h; obtain ⟨a, cap, _, _, rfl⟩ := h; simp [AV.size]
  | .nilF, cs, h => by rw [CR] at h; subst h; simp [AV.size]
  | .mapr sh j, cs, h => by rw [CR] at h; obtain ⟨a, cap, _, rfl⟩ := h; simp [AV.size]
  | .nilM, cs, h => by rw [CR] at h; subst h; simp [AV.size]
  | .iface t v, cs, h => by rw [CR] at h; obtain ⟨xs, _, rfl⟩ := h; simp [AV.size]
  | .nilI, cs, h => by rw [CR] at h; subst h; simp [AV.size]
  | .tup _, cs, h => by rw [CR] at h; exact h.elim
  | .yld sh j, cs, h => by rw [CR] at h; obtain ⟨a, cap, _, rfl⟩ := h; simp [AV.size]
  | .win _ _ _ _ _, cs, h => by rw [CR] at h; obtain ⟨a, cap, _, _, rfl⟩ := h; simp [AV.size]
theorem CRs_len (c : Cx) : ∀ (vs : List AV) (css : List (List Value)), CRs c vs css → css.flatten.length = AV.sizes vs
  | [], css, h => by rw [CRs] at h; subst h; simp [AV.sizes]
  | v :: vs, css, h => by
    rw [CRs] at h
    obtain ⟨x, xs, rfl, h1, h2⟩ := h
    simp only [List.flatten_cons, List.length_append, AV.sizes]
    rw [CR_len c v x h1, CRs_len c vs xs h2]
end
/-- What a later moment keeps of an earlier one. -/
structure Cx.le (c d : Cx) : Prop where
  fz : ∀ m, c.Fz m → d.Fz m
  mem : ∀ m, c.Fz m → d.w.heap[m]? = c.w.heap[m]?
  lam : ∀ sh j ver p, c.lam sh j ver = some p → d.lam sh j ver = some p

theorem Cx.le.refl (c : Cx) : c.le c := ⟨fun _ h => h, fun _ _ => rfl, fun _ _ _ _ h => h⟩
theorem Cx.le.trans {a b c : Cx} (h : a.le b) (k : b.le c) : a.le c :=
  ⟨fun m x => k.fz m (h.fz m x), fun m x => (k.mem m (h.fz m x)).trans (h.mem m x), fun sh j v p x => k.lam sh j v p (h.lam sh j v p x)⟩

theorem block_add (ad : Addr) (k : Nat) : (ad.add k).block = ad.block := by unfold Addr.add; split <;> rfl
theorem cell_same {w w' : World} {ad : Addr} (h : w'.heap[ad.block]? = w.heap[ad.block]?) (k : Nat) : w'.cell? (ad.add k) = w.cell? (ad.add k) :=
  World.cell?_of_block (by rw [block_add]; exact h)

mutual
/-- All that a value refers to is among 'p'. -/
def AV.ok (p : Bool → Nat → Bool) : AV → Bool
  | .agg vs => AV.oks p vs
  | .arr _ vs => AV.oks p vs
  | .lit _ vs => AV.oks p vs
  | .own sh j _ => p sh j
  | .pin v => v.ok p
  | .ref sh j _ _ _ => p sh j
  | .func _ f g => AV.oks p f && AV.oks p g
  | .mapr sh j => p sh j
  | .yld sh j => p sh j
  | .win j _ _ _ _ => p false j
  | .iface _ v => v.ok p
  | .tup vs => AV.oks p vs
  | _ => true
def AV.oks (p : Bool → Nat → Bool) : List AV → Bool
  | [] => true
  | v :: vs => v.ok p && AV.oks p vs
end
theorem oks_eq (p : Bool → Nat → Bool) (vs : List AV) : AV.oks p vs = vs.all (AV.ok p) := by
  induction vs with
  | nil => simp [AV.oks]
  | cons v vs ih => simp [AV.oks, ih]

mutual
theorem CR_ok {c d : Cx} {p : Bool → Nat → Bool} (hf : ∀ m, c.Fz m → d.Fz m) (hm : ∀ m, c.Fz m → d.w.heap[m]? = c.w.heap[m]?) (hl : ∀ sh j ver q, p sh j = true → c.lam sh j ver = some q → d.lam sh j ver = some q) :
    ∀ (v : AV) (cs : List Value), v.ok p = true → CR c v cs → CR d v cs
  | .any, cs, _, k => by rw [CR] at k ⊢; exact k
  | .bool b, cs, _, k => by rw [CR] at k ⊢; exact k
  | .int _ n, cs, _, k => by rw [CR] at k ⊢; exact k
  | .str s, cs, _, k => by rw [CR] at k ⊢; exact k
  | .agg vs, cs, o, k => by rw [CR] at k ⊢; rw [AV.ok] at o; obtain ⟨css, k, e⟩ := k; exact ⟨css, CRs_ok hf hm hl vs css o k, e⟩
  | .arr sz vs, cs, o, k => by rw [CR] at k ⊢; rw [AV.ok] at o; obtain ⟨k0, css, k, e⟩ := k; exact ⟨k0, css, CRs_ok hf hm hl vs css o k, e⟩
  | .lit sz vs, cs, o, k => by
    rw [CR] at k ⊢
    rw [AV.ok] at o
    obtain ⟨k0, a, cap, css, k, e, k1, k2, k3⟩ := k
    refine ⟨k0, a, cap, css, CRs_ok hf hm hl vs css o k, e, k1, k2, ?_⟩
    intro hne
    obtain ⟨ad, ea, hz, hc⟩ := k3 hne
    exact ⟨ad, ea, hf _ hz, fun i u hu => (cell_same (hm _ hz) i).trans (hc i u hu)⟩
  | .nilS, cs, _, k => by rw [CR] at k ⊢; exact k
  | .own sh j ver, cs, o, k => by rw [CR] at k ⊢; rw [AV.ok] at o; obtain ⟨a, cap, k, e⟩ := k; exact ⟨a, cap, hl _ _ _ _ o k, e⟩
  | .pin v, cs, o, k => by
    rw [CR] at k ⊢
    rw [AV.ok] at o
    obtain ⟨ad, xs, k, e, hz, hc⟩ := k
    exact ⟨ad, xs, CR_ok hf hm hl v xs o k, e, hf _ hz, fun i u hu => (cell_same (hm _ hz) i).trans (hc i u hu)⟩
  | .nilP, cs, _, k => by rw [CR] at k ⊢; exact k
  | .ref sh j ver p off, cs, o, k => by rw [CR] at k ⊢; rw [AV.ok] at o; obtain ⟨a, cap, k, e⟩ := k; exact ⟨a, cap, hl _ _ _ _ o k, e⟩
  | .func fn f g, cs, o, k => by
    rw [CR] at k ⊢
    rw [AV.ok, Bool.and_eq_true] at o
    obtain ⟨fs, gs, k1, k2, e⟩ := k
    exact ⟨fs, gs, CRs_ok hf hm hl f fs o.1 k1, CRs_ok hf hm hl g gs o.2 k2, e⟩
  | .nilF, cs, _, k => by rw [CR] at k ⊢; exact k
  | .mapr sh j, cs, o, k => by rw [CR] at k ⊢; rw [AV.ok] at o; obtain ⟨a, cap, k, e⟩ := k; exact ⟨a, cap, hl _ _ _ _ o k, e⟩
  | .nilM, cs, _, k => by rw [CR] at k ⊢; exact k
  | .iface t v, cs, o, k => by rw [CR] at k ⊢; rw [AV.ok] at o; obtain ⟨xs, k, e⟩ := k; exact ⟨xs, CR_ok hf hm hl v xs o k, e⟩
  | .nilI, cs, _, k => by rw [CR] at k ⊢; exact k
  | .tup _, cs, _, k => by rw [CR] at k; exact k.elim
  | .yld sh j, cs, o, k => by rw [CR] at k ⊢; rw [AV.ok] at o; obtain ⟨a, cap, k, e⟩ := k; exact ⟨a, cap, hl _ _ _ _ o k, e⟩
  | .win _ _ _ _ _, cs, o, k => by rw [CR] at k ⊢; rw [AV.ok] at o; obtain ⟨a, cap, k, e⟩ := k; exact ⟨a, cap, hl _ _ _ _ o k, e⟩
theorem CRs_ok {c d : Cx} {p : Bool → Nat → Bool} (hf : ∀ m, c.Fz m → d.Fz m) (hm : ∀ m, c.Fz m → d.w.heap[m]? = c.w.heap[m]?) (hl : ∀ sh j ver q, p sh j = true → c.lam sh j ver = some q → d.lam sh j ver = some q) :
    ∀ (vs : List AV) (css : List (List Value)), AV.oks p vs = true → CRs c vs css → CRs d vs css
  | [], css, _, k => by rw [CRs] at k ⊢; exact k
  | v :: vs, css, o, k => by
    rw [CRs] at k ⊢
    rw [AV.oks, Bool.and_eq_true] at o
    obtain ⟨x, xs, e, k1, k2⟩ := k
    exact ⟨x, xs, e, CR_ok hf hm hl v x o.1 k1, CRs_ok hf hm hl vs xs o.2 k2⟩
end
mutual
theorem ok_mono {p q : Bool → Nat → Bool} (h : ∀ sh j, p sh j = true → q sh j = true) : ∀ (v : AV), v.ok p = true → v.ok q = true
  | .any, _ => by rw [AV.ok]; all_goals simp
  | .bool _, _ => by rw [AV.ok]; all_goals simp
  | .int _ _, _ => by rw [AV.ok]; all_goals simp
  | .str _, _ => by rw [AV.ok]; all_goals simp
  | .agg vs, o => by rw [AV.ok] at o ⊢; exact oks_mono h vs o
  | .arr _ vs, o => by rw [AV.ok] at o ⊢; exact oks_mono h vs o
  | .lit _ vs, o => by rw [AV.ok] at o ⊢; exact oks_mono h vs o
  | .nilS, _ => by rw [AV.ok]; all_goals simp
  | .own _ _ _, o => by rw [AV.ok] at o ⊢; exact h _ _ o
  | .pin v, o => by rw [AV.ok] at o ⊢; exact ok_mono h v o
  | .nilP, _ => by rw [AV.ok]; all_goals simp
  | .ref _ _ _ _ _, o => by rw [AV.ok] at o ⊢; exact h _ _ o
  | .func _ f g, o => by
    rw [AV.ok, Bool.and_eq_true] at o ⊢
    exact ⟨oks_mono h f o.1, oks_mono h g o.2⟩
  | .nilF, _ => by rw [AV.ok]; all_goals simp
  | .mapr _ _, o => by rw [AV.ok] at o ⊢; exact h _ _ o
  | .nilM, _ => by rw [AV.ok]; all_goals simp
  | .iface _ v, o => by rw [AV.ok] at o ⊢; exact ok_mono h v o
  | .nilI, _ => by rw [AV.ok]; all_goals simp
  | .tup vs, o => by rw [AV.ok] at o ⊢; exact oks_mono h vs o
  | .yld _ _, o => by rw [AV.ok] at o ⊢; exact h _ _ o
  | .win _ _ _ _ _, o => by rw [AV.ok] at o ⊢; exact h _ _ o
theorem oks_mono {p q : Bool → Nat → Bool} (h : ∀ sh j, p sh j = true → q sh j = true) : ∀ (vs : List AV), AV.oks p vs = true → AV.oks q vs = true
  | [], _ => by rw [AV.oks]
  | v :: vs, o => by
    rw [AV.oks, Bool.and_eq_true] at o ⊢
    exact ⟨ok_mono h v o.1, oks_mono h vs o.2⟩
end
mutual
theorem ok_true : ∀ (v : AV), v.ok (fun _ _ => true) = true
  | .any => by rw [AV.ok]; all_goals simp
  | .bool _ => by rw [AV.ok]; all_goals simp
  | .int _ _ => by rw [AV.ok]; all_goals simp
  | .str _ => by rw [AV.ok]; all_goals simp
  | .agg vs => by rw [AV.ok]; exact oks_true vs
  | .arr _ vs => by rw [AV.ok]; exact oks_true vs
  | .lit _ vs => by rw [AV.ok]; exact oks_true vs
  | .nilS => by rw [AV.ok]; all_goals simp
  | .own _ _ _ => by rw [AV.ok]
  | .pin v => by rw [AV.ok]; exact ok_true v
  | .nilP => by rw [AV.ok]; all_goals simp
  | .ref _ _ _ _ _ => by rw [AV.ok]
  | .func _ f g => by
    rw [AV.ok, Bool.and_eq_true]
    exact ⟨oks_true f, oks_true g⟩
  | .nilF => by rw [AV.ok]; all_goals simp
  | .mapr _ _ => by rw [AV.ok]
  | .nilM => by rw [AV.ok]; all_goals simp
  | .iface _ v => by rw [AV.ok]; exact ok_true v
  | .nilI => by rw [AV.ok]; all_goals simp
  | .tup vs => by rw [AV.ok]; exact oks_true vs
  | .yld _ _ => by rw [AV.ok]
  | .win _ _ _ _ _ => by rw [AV.ok]
theorem oks_true : ∀ (vs : List AV), AV.oks (fun _ _ => true) vs = true
  | [] => by rw [AV.oks]
  | v :: vs => by
    rw [AV.oks, Bool.and_eq_true]
    exact ⟨ok_true v, oks_true vs⟩
end
theorem CR_mono {c d : Cx} (h : c.le d) (v : AV) (cs : List Value) (k : CR c v cs) : CR d v cs :=
  CR_ok h.fz h.mem (fun sh j ver q _ e => h.lam sh j ver q e) v cs (ok_true v) k
theorem CRs_mono {c d : Cx} (h : c.le d) (vs : List AV) (css : List (List Value)) (k : CRs c vs css) : CRs d vs css :=
  CRs_ok h.fz h.mem (fun sh j ver q _ e => h.lam sh j ver q e) vs css (oks_true vs) k

theorem VR1_mono {c d : Cx} (h : c.le d) {v : AV} {m : Value} (k : VR1 c v m) : VR1 d v m := by
  obtain ⟨cs, k, e⟩ := k
  exact ⟨cs, CR_mono h v cs k, e⟩

theorem VR_solid {c : Cx} {v : AV} {m : Value} (hs : v.solid = true) : VR c v m ↔ VR1 c v m := by
  cases v <;> simp_all [AV.solid, VR]

theorem VR1_ok {c d : Cx} {p : Bool → Nat → Bool} (hf : ∀ m, c.Fz m → d.Fz m) (hm : ∀ m, c.Fz m → d.w.heap[m]? = c.w.heap[m]?) (hl : ∀ sh j ver q, p sh j = true → c.lam sh j ver = some q → d.lam sh j ver = some q)
    {v : AV} {m : Value} (o : v.ok p = true) (k : VR1 c v m) : VR1 d v m := by
  obtain ⟨cs, k, e⟩ := k
  exact ⟨cs, CR_ok hf hm hl v cs o k, e⟩

theorem VR_ok {c d : Cx} {p : Bool → Nat → Bool} (hf : ∀ m, c.Fz m → d.Fz m) (hm : ∀ m, c.Fz m → d.w.heap[m]? = c.w.heap[m]?) (hl : ∀ sh j ver q, p sh j = true → c.lam sh j ver = some q → d.lam sh j ver = some q)
    {v : AV} {m : Value} (o : v.ok p = true) (k : VR c v m) : VR d v m := by
  cases v with
  | any => trivial
  | tup vs =>
    simp only [VR] at k ⊢
    obtain ⟨ms, e, hl', hk⟩ := k
    refine ⟨ms, e, hl', fun i v u hv hu => (hk i v u hv hu).imp id (VR1_ok hf hm hl ?_)⟩
    rw [AV.ok, oks_eq, List.all_eq_true] at o
    exact o v (List.mem_of_getElem? hv)
  | _ => exact VR1_ok hf hm hl o k

theorem VR_mono {c d : Cx} (h : c.le d) {v : AV} {m : Value} (k : VR c v m) : VR d v m := by
  cases v with
  | any => trivial
  | tup vs =>
    simp only [VR] at k ⊢
    obtain ⟨ms, e, hl, hk⟩ := k
    exact ⟨ms, e, hl, fun i v u hv hu => (hk i v u hv hu).imp id (VR1_mono h)⟩
  | _ => exact VR1_mono h k

theorem CR_one {c : Cx} {v : AV} {cs : List Value} (ha : v.isAgg = false) (h : CR c v cs) : ∃ u, cs = [u] ∧ u.oneCell' = true := by
  cases v with
  | agg vs => simp [AV.isAgg] at ha
  | arr sz vs => simp [AV.isAgg] at ha
  | any => rw [CR] at h; exact h
  | bool b => rw [CR] at h; exact ⟨_, h, rfl⟩
  | int k n => rw [CR] at h; exact ⟨_, h, rfl⟩
  | str b => rw [CR] at h; exact ⟨_, h, rfl⟩
  | lit sz vs => rw [CR] at h; obtain ⟨_, a, cap, css, _, e, _⟩ := h; exact ⟨_, e, rfl⟩
  | nilS => rw [CR] at h; exact ⟨_, h, rfl⟩
  | own sh j ver => rw [CR] at h; obtain ⟨a, cap, _, _, e⟩ := h; exact ⟨_, e, rfl⟩
  | pin v => rw [CR] at h; obtain ⟨ad, xs, _, e, _⟩ := h; exact ⟨_, e, rfl⟩
  | nilP => rw [CR] at h; exact ⟨_, h, rfl⟩
  | ref sh j ver p off => rw [CR] at h; obtain ⟨a, cap, _, e⟩ := h; exact ⟨_, e, rfl⟩
  | func fn f g => rw [CR] at h; obtain ⟨a, cap, _, _, e⟩ := h; exact ⟨_, e, rfl⟩
  | nilF => rw [CR] at h; exact ⟨_, h, rfl⟩
  | mapr sh j => rw [CR] at h; obtain ⟨a, cap, _, e⟩ := h; exact ⟨_, e, rfl⟩
  | nilM => rw [CR] at h; exact ⟨_, h, rfl⟩
  | iface t v => rw [CR] at h; obtain ⟨a, _, e⟩ := h; exact ⟨_, e, rfl⟩
  | nilI => rw [CR] at h; exact ⟨_, h, rfl⟩
  | tup vs => rw [CR] at h; exact h.elim
  | yld sh j => rw [CR] at h; obtain ⟨a, cap, _, e⟩ := h; exact ⟨_, e, rfl⟩
  | win j ver esz off len => rw [CR] at h; obtain ⟨a, cap, _, _, e⟩ := h; exact ⟨_, e, rfl⟩

theorem cells_one {u : Value} (h : u.oneCell' = true) : u.cells = #[u] := by
  cases u <;> simp_all [Value.oneCell', Value.cells]

mutual
theorem CR_each (c : Cx) : ∀ (v : AV) (cs : List Value), CR c v cs → ∀ u ∈ cs, u.oneCell' = true
  | .agg vs, cs, h => by rw [CR] at h; obtain ⟨css, h, rfl⟩ := h; exact CRs_each c vs css h
  | .arr sz vs, cs, h => by rw [CR] at h; obtain ⟨_, css, h, rfl⟩ := h; exact CRs_each c vs css h
  | .any, cs, h => by obtain ⟨u, rfl, hu⟩ := CR_one rfl h; simpa using hu
  | .bool _, cs, h => by obtain ⟨u, rfl, hu⟩ := CR_one rfl h; simpa using hu
  | .int _ _, cs, h => by obtain ⟨u, rfl, hu⟩ := CR_one rfl h; simpa using hu
  | .str _, cs, h => by obtain ⟨u, rfl, hu⟩ := CR_one rfl h; simpa using hu
  | .lit _ _, cs, h => by obtain ⟨u, rfl, hu⟩ := CR_one rfl h; simpa using hu
  | .nilS, cs, h => by obtain ⟨u, rfl, hu⟩ := CR_one rfl h; simpa using hu
  | .own _ _ _, cs, h => by obtain ⟨u, rfl, hu⟩ := CR_one rfl h; simpa using hu
  | .pin _, cs, h => by obtain ⟨u, rfl, hu⟩ := CR_one rfl h; simpa using hu
  | .nilP, cs, h => by obtain ⟨u, rfl, hu⟩ := CR_one rfl h; simpa using hu
  | .ref _ _ _ _ _, cs, h => by obtain ⟨u, rfl, hu⟩ := CR_one rfl h; simpa using hu
  | .func _ _ _, cs, h => by obtain ⟨u, rfl, hu⟩ := CR_one rfl h; simpa using hu
  | .nilF, cs, h => by obtain ⟨u, rfl, hu⟩ := CR_one rfl h; simpa using hu
  | .mapr _ _, cs, h => by obtain ⟨u, rfl, hu⟩ := CR_one rfl h; simpa using hu
  | .nilM, cs, h => by obtain ⟨u, rfl, hu⟩ := CR_one rfl h; simpa using hu
  | .iface _ _, cs, h => by obtain ⟨u, rfl, hu⟩ := CR_one rfl h; simpa using hu
  | .nilI, cs, h => by obtain ⟨u, rfl, hu⟩ := CR_one rfl h; simpa using hu
  | .tup _, cs, h => by rw [CR] at h; exact h.elim
  | .yld _ _, cs, h => by obtain ⟨u, rfl, hu⟩ := CR_one rfl h; simpa using hu
  | .win _ _ _ _ _, cs, h => by obtain ⟨u, rfl, hu⟩ := CR_one rfl h; simpa using hu
theorem CRs_each (c : Cx) : ∀ (vs : List AV) (css : List (List Value)), CRs c vs css → ∀ u ∈ css.flatten, u.oneCell' = true
  | [], css, h => by rw [CRs] at h; subst h; simp
  | v :: vs, css, h => by
    rw [CRs] at h
    obtain ⟨x, xs, rfl, h1, h2⟩ := h
    intro u hu
    simp only [List.flatten_cons, List.mem_append] at hu
    rcases hu with hu | hu
    · exact CR_each c v x h1 u hu
    · exact CRs_each c vs xs h2 u hu
end
theorem vOf_cells {c : Cx} {v : AV} {cs : List Value} (h : CR c v cs) : (vOf v cs).cells = cs.toArray := by
  cases ha : v.isAgg with
  | true => simp [vOf, ha, Value.cells]
  | false =>
    obtain ⟨u, rfl, hu⟩ := CR_one ha h
    simpa [vOf, ha] using cells_one hu

theorem VR1_cells {c : Cx} {v : AV} {m : Value} (h : VR1 c v m) : CR c v m.cells.toList ∧ m = vOf v m.cells.toList := by
  obtain ⟨cs, h, rfl⟩ := h
  rw [vOf_cells h]
  exact ⟨h, rfl⟩

end Go.Abs
/- Private and shared objects, and how they lie in memory. -/
set_option linter.unusedVariables false
set_option linter.unusedSimpArgs false
namespace Go.Abs
open Go.RowKit

/-- The record of a range over a function: the activation's temporaries as they stood, the loop's text, where it stands. -/
structure LRec where
  fn : FuncId
  N : Nat
  t : List (Nat × AV)
  ps : List Nat
  assign : Code
  body : Code
  st : LoopState
  pe : Option Code
  deriving Inhabited
def LRec.ok (r : LRec) (p : Bool → Nat → Bool) : Bool := r.t.all fun q => q.2.ok p
theorem LRec.ok_get {r : LRec} {p : Bool → Nat → Bool} (h : r.ok p = true) (i : Nat) : ((r.t.lookup i).getD .any).ok p = true := by
  unfold LRec.ok at h
  generalize r.t = l at *
  induction l with
  | nil => simp [AV.ok]
  | cons q l ih =>
    simp only [List.all_cons, Bool.and_eq_true] at h
    rw [List.lookup_cons]
    split
    · simpa using h.1
    · exact ih h.2
/-- The machine's record. -/
structure LRecAt (c : Cx) (r : LRec) (L : Loop) : Prop where
  st : L.state = r.st
  pe : L.pending = r.pe
  fn : L.fn = r.fn
  ps : L.params.toList = r.ps
  assign : L.assign = r.assign
  body : L.body = r.body
  size : L.tmps.size = r.N
  tr : ∀ i, VR c ((r.t.lookup i).getD .any) (L.tmps.getD i undef)
theorem LRecAt.imp_tr {c d : Cx} {r : LRec} {L : Loop} (h : LRecAt c r L) (k : ∀ i, VR c ((r.t.lookup i).getD .any) (L.tmps.getD i undef) → VR d ((r.t.lookup i).getD .any) (L.tmps.getD i undef)) : LRecAt d r L :=
  ⟨h.st, h.pe, h.fn, h.ps, h.assign, h.body, h.size, fun i => k i (h.tr i)⟩

inductive AO where
  | dead
  | cell (v : AV)
  | row (sz : Nat) (vs : List AV)
  | frow (sz : Nat) (vs : List AV)
  | xrow (sz : Nat) (vs : List AV)
  | fwd (j : Nat)
  | mp (kvs : List (Value × Value))
  | lrec (r : LRec)
  deriving Inhabited

def AO.ver : AO → Nat
  | .row _ vs => vs.length
  | .frow _ vs => vs.length
  | .xrow _ vs => vs.length
  | _ => 0
/-- May it be written? -/
def AO.owned : AO → Bool
  | .cell _ | .row _ _ | .mp _ | .lrec _ => true
  | _ => false
def AO.ok (p : Bool → Nat → Bool) : AO → Bool
  | .cell v => v.ok p
  | .row _ vs => AV.oks p vs
  | .frow _ vs => AV.oks p vs
  | .xrow _ vs => AV.oks p vs
  | .fwd j => p true j
  | .dead => true
  | .mp _ => true
  | .lrec r => r.ok p

/-- An object lies at its place. -/
def ObjAt (c : Cx) (pl : Option Addr × Nat) : AO → Prop
  | .dead => True
  | .fwd j => c.lam true j 0 = some pl
  | .mp kvs => ∃ m es clock, pl = (some ⟨m, 0, none⟩, 0) ∧ c.w.heap[m]? = some (.map es clock) ∧ es.toList.map (fun e => (e.key, e.val)) = kvs
  | .lrec r => ∃ m L, pl = (some ⟨m, 0, none⟩, 0) ∧ c.w.heap[m]? = some (.loop L) ∧ LRecAt c r L
  | .cell v => ∃ m t cs, pl = (some ⟨m, 0, none⟩, 0) ∧ CR c v cs ∧ c.w.heap[m]? = some (.cells cs.toArray t (0, 0))
  | .row sz vs => (∀ v ∈ vs, v.size = sz) ∧ 0 < sz ∧ ((pl = (none, 0) ∧ vs = []) ∨ ∃ m cap cur t css, pl = (some ⟨m, 0, none⟩, cap) ∧ c.w.heap[m]? = some (.cells cur t (0, 0)) ∧ vs.length ≤ cap ∧ cap ≤ maxLen ∧ cur.size = cap * sz ∧ CRs c vs css ∧ cur.toList.take (vs.length * sz) = css.flatten)
  | .frow sz vs => (∀ v ∈ vs, v.size = sz) ∧ 0 < sz ∧ ∃ css, CRs c vs css ∧ vs.length ≤ pl.2 ∧ pl.2 ≤ maxLen ∧ (vs ≠ [] → ∃ ad, pl.1 = some ad ∧ c.Fz ad.block ∧ ∀ (k : Nat) (u : Value), css.flatten[k]? = some u → c.w.cell? (ad.add k) = some u)
  | .xrow sz vs => (∀ v ∈ vs, v.size = sz) ∧ 0 < sz ∧ ∃ css, CRs c vs css ∧ pl.2 = vs.length ∧ pl.2 ≤ maxLen ∧ (vs ≠ [] → ∃ ad, pl.1 = some ad ∧ c.Fz ad.block ∧ ∀ (k : Nat) (u : Value), css.flatten[k]? = some u → c.w.cell? (ad.add k) = some u)

abbrev Mem := Bool → List AO
def mem (loc H : List AO) : Mem := fun sh => if sh then H else loc
@[simp] theorem mem_true (loc H : List AO) : mem loc H true = H := rfl
@[simp] theorem mem_false (loc H : List AO) : mem loc H false = loc := rfl

/-- 'm' is the machine's block of an object that may be written. -/
def Owns (lam : Lam) (M : Mem) (sh : Bool) (j m : Nat) : Prop :=
  ∃ o a cap, (M sh)[j]? = some o ∧ o.owned = true ∧ lam sh j o.ver = some (some a, cap) ∧ a.block = m

structure MemR (c : Cx) (M : Mem) : Prop where
  obj : ∀ (sh : Bool) (j : Nat) (o : AO) pl, (M sh)[j]? = some o → c.lam sh j o.ver = some pl → ObjAt c pl o
  dom : ∀ sh j ver pl, c.lam sh j ver = some pl → ∃ o, (M sh)[j]? = some o ∧ (o.owned = true → ver ≤ o.ver)
  sep : ∀ sh j sh' j' m, Owns c.lam M sh j m → Owns c.lam M sh' j' m → sh = sh' ∧ j = j'
  unf : ∀ sh j m, Owns c.lam M sh j m → ¬ c.Fz m
  fzl : ∀ m, c.Fz m → m < c.w.heap.size

/-- How a moment follows on an earlier one, whose shared objects were 'H0'. -/
structure Ev (c0 : Cx) (H0 : List AO) (c : Cx) (M : Mem) : Prop where
  size : c0.w.heap.size ≤ c.w.heap.size
  os : c.w.os = c0.w.os
  tape : c.w.tape = c0.w.tape
  output : c.w.output = c0.w.output
  same : ∀ m, m < c0.w.heap.size → (∀ j, ¬ Owns c0.lam (mem [] H0) true j m) → c.w.heap[m]? = c0.w.heap[m]?
  fz : ∀ m, c0.Fz m → c.Fz m
  fzn : ∀ m, c.Fz m → c0.Fz m ∨ c0.w.heap.size ≤ m ∨ ∃ j, Owns c0.lam (mem [] H0) true j m
  lam : ∀ j ver p, j < H0.length → c0.lam true j ver = some p → c.lam true j ver = some p
  own : ∀ sh j m, Owns c.lam M sh j m → c0.w.heap.size ≤ m ∨ ∃ j, Owns c0.lam (mem [] H0) true j m

theorem Owns.lt {c : Cx} {M : Mem} (h : MemR c M) {sh : Bool} {j m : Nat} (k : Owns c.lam M sh j m) : m < c.w.heap.size := by
  obtain ⟨o, a, cap, h1, h2, h3, rfl⟩ := k
  have hk := h.obj sh j o _ h1 h3
  cases o with
  | cell v =>
    obtain ⟨m, t, cs, e, _, hb⟩ := hk
    cases e
    exact (Array.getElem?_eq_some_iff.1 hb).1
  | row sz vs =>
    obtain ⟨_, _, ⟨e, _⟩ | ⟨m, cap, cur, t, css, e, hb, _⟩⟩ := hk
    · cases e
    · cases e
      exact (Array.getElem?_eq_some_iff.1 hb).1
  | mp kvs =>
    obtain ⟨m, es, clock, e, hb, _⟩ := hk
    cases e
    exact (Array.getElem?_eq_some_iff.1 hb).1
  | lrec r =>
    obtain ⟨m, L, e, hb, _⟩ := hk
    cases e
    exact (Array.getElem?_eq_some_iff.1 hb).1
  | _ => simp [AO.owned] at h2

/-- Nothing but 'm' has turned (and what is new). -/
structure Turn (w w' : World) (only : Nat → Prop) : Prop where
  size : w.heap.size ≤ w'.heap.size
  os : w'.os = w.os
  tape : w'.tape = w.tape
  output : w'.output = w.output
  same : ∀ m, m < w.heap.size → ¬ only m → w'.heap[m]? = w.heap[m]?

theorem Turn.refl (w : World) (only : Nat → Prop) : Turn w w only := ⟨Nat.le_refl _, rfl, rfl, rfl, fun _ _ _ => rfl⟩
theorem Turn.trans {a b c : World} {p : Nat → Prop} (h : Turn a b p) (k : Turn b c p) : Turn a c p :=
  ⟨Nat.le_trans h.size k.size, k.os.trans h.os, k.tape.trans h.tape, k.output.trans h.output, fun m hm hp => (k.same m (Nat.lt_of_lt_of_le hm h.size) hp).trans (h.same m hm hp)⟩
theorem Turn.alloc (w : World) (o : Obj) (p : Nat → Prop) : Turn w (w.alloc o) p :=
  ⟨by simp, rfl, rfl, rfl, fun m hm _ => Below.heap_alloc w o m hm⟩
theorem Turn.drew (w : World) (p : Nat → Prop) : Turn w w.drew p := ⟨Nat.le_refl _, rfl, rfl, rfl, fun _ _ _ => rfl⟩
theorem Turn.mono {w w' : World} {p q : Nat → Prop} (h : Turn w w' p) (hq : ∀ m, p m → q m) : Turn w w' q :=
  ⟨h.size, h.os, h.tape, h.output, fun m hm hn => h.same m hm (fun x => hn (hq m x))⟩
/-- One step: from 'c', 'M' to 'd', 'M''. -/
structure Step (c : Cx) (M : Mem) (d : Cx) (M' : Mem) : Prop where
  turn : Turn c.w d.w (fun m => ∃ sh j, Owns c.lam M sh j m)
  fz : ∀ m, c.Fz m → d.Fz m
  fzn : ∀ m, d.Fz m → c.Fz m ∨ c.w.heap.size ≤ m ∨ ∃ sh j, Owns c.lam M sh j m
  lam : ∀ sh j ver p, c.lam sh j ver = some p → d.lam sh j ver = some p
  own : ∀ sh j m, Owns d.lam M' sh j m → c.w.heap.size ≤ m ∨ ∃ sh j, Owns c.lam M sh j m
  len : (M true).length ≤ (M' true).length
  lenF : (M false).length ≤ (M' false).length
  und : ∀ j, j < (M false).length → (∀ ver, c.lam false j ver = none) → ∀ ver, d.lam false j ver = none

theorem Step.refl (c : Cx) (M : Mem) : Step c M c M :=
  ⟨Turn.refl _ _, fun _ h => h, fun _ h => .inl h, fun _ _ _ _ h => h, fun sh j m h => .inr ⟨sh, j, h⟩, Nat.le_refl _, Nat.le_refl _, fun _ _ h => h⟩

theorem Step.trans {a b c : Cx} {M N K : Mem} (h : Step a M b N) (k : Step b N c K) (hM : MemR a M) : Step a M c K := by
  refine ⟨⟨Nat.le_trans h.turn.size k.turn.size, k.turn.os.trans h.turn.os, k.turn.tape.trans h.turn.tape, k.turn.output.trans h.turn.output, ?_⟩, fun m x => k.fz m (h.fz m x), ?_, fun sh j v p x => k.lam sh j v p (h.lam sh j v p x), ?_, Nat.le_trans h.len k.len, Nat.le_trans h.lenF k.lenF, fun j hj hn => k.und j (Nat.lt_of_lt_of_le hj h.lenF) (h.und j hj hn)⟩
  · intro m hm hn
    refine (k.turn.same m (Nat.lt_of_lt_of_le hm h.turn.size) ?_).trans (h.turn.same m hm hn)
    rintro ⟨sh, j, ho⟩
    rcases h.own sh j m ho with h1 | h1
    · omega
    · exact hn h1
  · intro m hm
    rcases k.fzn m hm with h1 | h1 | ⟨sh, j, h1⟩
    · exact h.fzn m h1
    · exact .inr (.inl (Nat.le_trans h.turn.size h1))
    · rcases h.own sh j m h1 with h2 | h2
      · exact .inr (.inl h2)
      · exact .inr (.inr h2)
  · intro sh j m ho
    rcases k.own sh j m ho with h1 | ⟨sh', j', h1⟩
    · exact .inl (Nat.le_trans h.turn.size h1)
    · exact h.own sh' j' m h1

/-- What a step keeps: what is frozen stays. -/
theorem Step.le {c d : Cx} {M M' : Mem} (h : Step c M d M') (hM : MemR c M) : c.le d :=
  ⟨h.fz, fun m hm => h.turn.same m (hM.fzl m hm) (fun ⟨sh, j, ho⟩ => hM.unf sh j m ho hm), h.lam⟩

theorem Ev.refl (c : Cx) (M : Mem) (H : List AO) (hl : ∀ j m, ¬ Owns c.lam M false j m) (hH : M true = H) : Ev c H c M :=
  ⟨Nat.le_refl _, rfl, rfl, rfl, fun _ _ _ => rfl, fun _ h => h, fun _ h => .inl h, fun _ _ _ _ h => h, fun sh j m h => by
    cases sh with
    | false => exact (hl j m h).elim
    | true =>
      obtain ⟨o, a, cap, h1, h2⟩ := h
      exact .inr ⟨j, o, a, cap, by simpa [mem, ← hH] using h1, h2⟩⟩

theorem Ev.step {c0 c d : Cx} {H0 : List AO} {M M' : Mem} (h : Ev c0 H0 c M) (k : Step c M d M') : Ev c0 H0 d M' := by
  refine ⟨Nat.le_trans h.size k.turn.size, k.turn.os.trans h.os, k.turn.tape.trans h.tape, k.turn.output.trans h.output, ?_, fun m x => k.fz m (h.fz m x), ?_, fun j v p hj x => k.lam true j v p (h.lam j v p hj x), ?_⟩
  · intro m hm hn
    refine (k.turn.same m (Nat.lt_of_lt_of_le hm h.size) ?_).trans (h.same m hm hn)
    rintro ⟨sh, j, ho⟩
    rcases h.own sh j m ho with h1 | ⟨j', h1⟩
    · omega
    · exact hn j' h1
  · intro m hm
    rcases k.fzn m hm with h1 | h1 | ⟨sh, j, h1⟩
    · exact h.fzn m h1
    · exact .inr (.inl (Nat.le_trans h.size h1))
    · rcases h.own sh j m h1 with h2 | h2
      · exact .inr (.inl h2)
      · exact .inr (.inr h2)
  · intro sh j m ho
    rcases k.own sh j m ho with h1 | ⟨sh', j', h1⟩
    · exact .inl (Nat.le_trans h.size h1)
    · exact h.own sh' j' m h1

/-! ### Objects through a step -/
theorem ObjAt_keep {c d : Cx} {pl : Option Addr × Nat} {o : AO} (h : ObjAt c pl o) (hle : c.le d) (hs : o.owned = true → ∀ a, pl.1 = some a → d.w.heap[a.block]? = c.w.heap[a.block]?) : ObjAt d pl o := by
  cases o with
  | dead => trivial
  | fwd j => exact hle.lam _ _ _ _ h
  | mp kvs =>
    obtain ⟨m, es, clock, rfl, h1, h2⟩ := h
    exact ⟨m, es, clock, rfl, (hs rfl _ rfl).trans h1, h2⟩
  | lrec r =>
    obtain ⟨m, L, rfl, h1, h2⟩ := h
    exact ⟨m, L, rfl, (hs rfl _ rfl).trans h1, h2.imp_tr fun i => VR_mono hle⟩
  | cell v =>
    obtain ⟨m, t, cs, rfl, h1, h2⟩ := h
    exact ⟨m, t, cs, rfl, CR_mono hle v cs h1, (hs rfl _ rfl).trans h2⟩
  | row sz vs =>
    obtain ⟨h0, hz, ⟨rfl, h1⟩ | ⟨m, cap, cur, t, css, rfl, h1, h2, h3, h4, h5, h6⟩⟩ := h
    · exact ⟨h0, hz, .inl ⟨rfl, h1⟩⟩
    · exact ⟨h0, hz, .inr ⟨m, cap, cur, t, css, rfl, (hs rfl _ rfl).trans h1, h2, h3, h4, CRs_mono hle vs css h5, h6⟩⟩
  | frow sz vs =>
    obtain ⟨h0, hz, css, h1, h2, h3, h4⟩ := h
    refine ⟨h0, hz, css, CRs_mono hle vs css h1, h2, h3, ?_⟩
    intro hne
    obtain ⟨ad, e, hf, hc⟩ := h4 hne
    exact ⟨ad, e, hle.fz _ hf, fun k u hu => (cell_same (hle.mem _ hf) k).trans (hc k u hu)⟩
  | xrow sz vs =>
    obtain ⟨h0, hz, css, h1, h2, h3, h4⟩ := h
    refine ⟨h0, hz, css, CRs_mono hle vs css h1, h2, h3, ?_⟩
    intro hne
    obtain ⟨ad, e, hf, hc⟩ := h4 hne
    exact ⟨ad, e, hle.fz _ hf, fun k u hu => (cell_same (hle.mem _ hf) k).trans (hc k u hu)⟩

/-- A step that turns no old block and makes no object: a draw, memory of nobody. -/
theorem quiet_step {c : Cx} {M : Mem} {w' : World} (hM : MemR c M) (ht : Turn c.w w' (fun _ => False)) :
    MemR { c with w := w' } M ∧ Step c M { c with w := w' } M := by
  have hst : Step c M { c with w := w' } M := ⟨ht.mono (fun _ h => h.elim), fun _ h => h, fun _ h => .inl h, fun _ _ _ _ h => h, fun sh j m h => .inr ⟨sh, j, h⟩, Nat.le_refl _, Nat.le_refl _, fun _ _ h => h⟩
  refine ⟨⟨?_, hM.dom, hM.sep, hM.unf, fun m h => Nat.lt_of_lt_of_le (hM.fzl m h) ht.size⟩, hst⟩
  intro sh j o pl h1 h2
  refine ObjAt_keep (hM.obj sh j o pl h1 h2) (hst.le hM) ?_
  intro ho a ha
  refine ht.same _ ?_ (fun h => h)
  obtain ⟨pa, pc⟩ := pl
  simp only at ha
  subst ha
  exact Owns.lt hM ⟨o, a, pc, h1, ho, h2, rfl⟩

end Go.Abs
/- Making and turning objects. -/
set_option linter.unusedVariables false
set_option linter.unusedSimpArgs false
namespace Go.Abs
open Go.RowKit

def updL (lam : Lam) (sh : Bool) (j ver : Nat) (pl : Option Addr × Nat) : Lam := fun sh' j' ver' => if sh' = sh ∧ j' = j ∧ ver' = ver then some pl else lam sh' j' ver'

theorem updL_same (lam : Lam) (sh : Bool) (j ver : Nat) (pl : Option Addr × Nat) : updL lam sh j ver pl sh j ver = some pl := by simp [updL]
theorem updL_ne {lam : Lam} {sh sh' : Bool} {j j' ver ver' : Nat} {pl : Option Addr × Nat} (h : ¬ (sh' = sh ∧ j' = j ∧ ver' = ver)) : updL lam sh j ver pl sh' j' ver' = lam sh' j' ver' := by simp [updL, h]
theorem updL_le {lam : Lam} {sh : Bool} {j ver : Nat} {pl : Option Addr × Nat} (hf : ∀ q, lam sh j ver = some q → q = pl) {sh' : Bool} {j' ver' : Nat} {q : Option Addr × Nat} (h : lam sh' j' ver' = some q) : updL lam sh j ver pl sh' j' ver' = some q := by
  unfold updL
  split
  · rename_i e
    obtain ⟨rfl, rfl, rfl⟩ := e
    rw [hf q h]
  · exact h

def pushM (M : Mem) (sh : Bool) (o : AO) : Mem := fun s => if s = sh then M s ++ [o] else M s
def setM (M : Mem) (sh : Bool) (j : Nat) (o : AO) : Mem := fun s => if s = sh then (M s).set j o else M s

theorem pushM_old {M : Mem} {sh : Bool} {o : AO} {s : Bool} {j : Nat} {x : AO} (h : (M s)[j]? = some x) : (pushM M sh o s)[j]? = some x := by
  unfold pushM
  split
  · rw [List.getElem?_append_left (List.getElem?_eq_some_iff.1 h).1]; exact h
  · exact h
theorem pushM_inv {M : Mem} {sh : Bool} {o : AO} {s : Bool} {j : Nat} {x : AO} (h : (pushM M sh o s)[j]? = some x) : (M s)[j]? = some x ∨ (s = sh ∧ j = (M sh).length ∧ x = o) := by
  unfold pushM at h
  split at h
  · rename_i e
    subst e
    rcases Nat.lt_or_ge j (M s).length with hl | hl
    · rw [List.getElem?_append_left hl] at h; exact .inl h
    · rw [List.getElem?_append_right hl] at h
      have : j - (M s).length = 0 := by
        rcases Nat.eq_zero_or_pos (j - (M s).length) with h0 | h0
        · exact h0
        · rw [List.getElem?_eq_none (by simp; omega)] at h; cases h
      rw [this] at h
      simp at h
      exact .inr ⟨rfl, by omega, h.symm⟩
  · exact .inl h
theorem pushM_new (M : Mem) (sh : Bool) (o : AO) : (pushM M sh o sh)[(M sh).length]? = some o := by simp [pushM]
theorem pushM_len (M : Mem) (sh : Bool) (o : AO) (s : Bool) : (M s).length ≤ (pushM M sh o s).length := by
  unfold pushM; split <;> simp

theorem setM_same {M : Mem} {sh : Bool} {j : Nat} {o x : AO} (h : (M sh)[j]? = some x) : (setM M sh j o sh)[j]? = some o := by
  simp only [setM, if_true]
  rw [List.getElem?_set_self (List.getElem?_eq_some_iff.1 h).1]
theorem setM_other {M : Mem} {sh s : Bool} {j i : Nat} {o : AO} (h : ¬ (s = sh ∧ i = j)) : (setM M sh j o s)[i]? = (M s)[i]? := by
  unfold setM
  split
  · rename_i e
    subst e
    rw [List.getElem?_set_ne (fun e => h ⟨rfl, e.symm⟩)]
  · rfl
theorem setM_len (M : Mem) (sh : Bool) (j : Nat) (o : AO) (s : Bool) : (setM M sh j o s).length = (M s).length := by
  unfold setM; split <;> simp

theorem getlt {M : Mem} {s : Bool} {j : Nat} {o : AO} (h : (M s)[j]? = some o) : j < (M s).length := (List.getElem?_eq_some_iff.1 h).1

/-- A new object of one's own. -/
theorem push_obj {c : Cx} {M : Mem} (hM : MemR c M) (sh : Bool) {w' : World} {o : AO} {pl : Option Addr × Nat} (ht : Turn c.w w' (fun _ => False))
    (ho : ObjAt ⟨w', c.Fz, updL c.lam sh (M sh).length o.ver pl⟩ pl o)
    (hn : o.owned = true → ∀ a, pl.1 = some a → c.w.heap.size ≤ a.block) :
    MemR ⟨w', c.Fz, updL c.lam sh (M sh).length o.ver pl⟩ (pushM M sh o) ∧ Step c M ⟨w', c.Fz, updL c.lam sh (M sh).length o.ver pl⟩ (pushM M sh o) := by
  have hnone : ∀ ver, c.lam sh (M sh).length ver = none := by
    intro ver
    cases h : c.lam sh (M sh).length ver with
    | none => rfl
    | some p =>
      obtain ⟨x, hx, _⟩ := hM.dom _ _ _ _ h
      have := getlt hx
      omega
  have hle : ∀ s j ver q, c.lam s j ver = some q → updL c.lam sh (M sh).length o.ver pl s j ver = some q := fun s j ver q h => updL_le (fun q hq => by rw [hnone] at hq; cases hq) h
  have hown : ∀ s j m, Owns (updL c.lam sh (M sh).length o.ver pl) (pushM M sh o) s j m → Owns c.lam M s j m ∨ (s = sh ∧ j = (M sh).length ∧ c.w.heap.size ≤ m) := by
    rintro s j m ⟨x, a, cap, h1, h2, h3, rfl⟩
    rcases pushM_inv h1 with h1 | ⟨rfl, rfl, rfl⟩
    · have hlt := getlt h1
      rw [updL_ne (by rintro ⟨rfl, rfl, _⟩; omega)] at h3
      exact .inl ⟨x, a, cap, h1, h2, h3, rfl⟩
    · rw [updL_same] at h3
      cases h3
      exact .inr ⟨rfl, rfl, hn h2 a rfl⟩
  have hst : Step c M ⟨w', c.Fz, updL c.lam sh (M sh).length o.ver pl⟩ (pushM M sh o) :=
    ⟨ht.mono (fun _ h => h.elim), fun _ h => h, fun _ h => .inl h, hle, fun s j m h => by
      rcases hown s j m h with h | ⟨_, _, h⟩
      · exact .inr ⟨s, j, h⟩
      · exact .inl h, pushM_len _ _ _ _, pushM_len _ _ _ _, fun j hj hn ver => by
      exact (updL_ne (by rintro ⟨rfl, rfl, _⟩; omega)).trans (hn ver)⟩
  refine ⟨⟨?_, ?_, ?_, ?_, fun m h => Nat.lt_of_lt_of_le (hM.fzl m h) ht.size⟩, hst⟩
  · intro s j x p h1 h2
    rcases pushM_inv h1 with h1 | ⟨rfl, rfl, rfl⟩
    · have hlt := getlt h1
      have h2' : c.lam s j x.ver = some p := by
        rw [← h2]; exact (updL_ne (by rintro ⟨rfl, rfl, _⟩; omega)).symm
      refine ObjAt_keep (hM.obj s j x p h1 h2') (hst.le hM) ?_
      intro hx a ha
      obtain ⟨pa, pc⟩ := p
      simp only at ha
      subst ha
      exact ht.same _ (Owns.lt hM ⟨x, a, pc, h1, hx, h2', rfl⟩) (fun h => h)
    · have : p = pl := by
        have h2' := h2
        simp only [updL_same] at h2'
        exact (Option.some.inj h2').symm
      subst this
      exact ho
  · intro s j ver p h
    by_cases e : s = sh ∧ j = (M sh).length ∧ ver = o.ver
    · obtain ⟨rfl, rfl, rfl⟩ := e
      exact ⟨o, pushM_new M s o, fun _ => Nat.le_refl _⟩
    · have h' : c.lam s j ver = some p := by rw [← h]; exact (updL_ne e).symm
      obtain ⟨x, h1, h2⟩ := hM.dom s j ver p h'
      exact ⟨x, pushM_old h1, h2⟩
  · intro s j s' j' m h h'
    rcases hown s j m h with h | ⟨e1, e2, h⟩ <;> rcases hown s' j' m h' with h' | ⟨e1', e2', h'⟩
    · exact hM.sep s j s' j' m h h'
    · have := h.lt hM; omega
    · have := h'.lt hM; omega
    · exact ⟨e1.trans e1'.symm, e2.trans e2'.symm⟩
  · intro s j m h
    rcases hown s j m h with h | ⟨_, _, h⟩
    · exact hM.unf s j m h
    · intro hf
      have := hM.fzl m hf
      omega

/-- An object of one's own is turned: written, or carried elsewhere. -/
theorem turn_obj {c : Cx} {M : Mem} (hM : MemR c M) {sh : Bool} {j : Nat} {x : AO} (hx : (M sh)[j]? = some x) (hxo : x.owned = true) {p : Option Addr × Nat} (hp : c.lam sh j x.ver = some p)
    {w' : World} {o : AO} {pl : Option Addr × Nat} (hoo : o.owned = true) (hv : x.ver ≤ o.ver) (hf : ∀ q, c.lam sh j o.ver = some q → q = pl)
    (ht : Turn c.w w' (fun m => ∃ a, p.1 = some a ∧ m = a.block))
    (ho : ObjAt ⟨w', c.Fz, updL c.lam sh j o.ver pl⟩ pl o)
    (hn : ∀ a, pl.1 = some a → c.w.heap.size ≤ a.block ∨ ∃ a', p.1 = some a' ∧ a.block = a'.block) :
    MemR ⟨w', c.Fz, updL c.lam sh j o.ver pl⟩ (setM M sh j o) ∧ Step c M ⟨w', c.Fz, updL c.lam sh j o.ver pl⟩ (setM M sh j o) := by
  have hle : ∀ s i ver q, c.lam s i ver = some q → updL c.lam sh j o.ver pl s i ver = some q := fun s i ver q h => updL_le hf h
  have hold : ∀ a, p.1 = some a → Owns c.lam M sh j a.block := by
    intro a ha
    obtain ⟨pa, pc⟩ := p
    simp only at ha
    subst ha
    exact ⟨x, a, pc, hx, hxo, hp, rfl⟩
  have hown : ∀ s i m, Owns (updL c.lam sh j o.ver pl) (setM M sh j o) s i m → (¬ (s = sh ∧ i = j) ∧ Owns c.lam M s i m) ∨ (s = sh ∧ i = j ∧ (c.w.heap.size ≤ m ∨ Owns c.lam M sh j m)) := by
    rintro s i m ⟨y, a, cap, h1, h2, h3, rfl⟩
    by_cases e : s = sh ∧ i = j
    · obtain ⟨rfl, rfl⟩ := e
      rw [setM_same hx] at h1
      cases h1
      rw [updL_same] at h3
      cases h3
      refine .inr ⟨rfl, rfl, ?_⟩
      rcases hn a rfl with h | ⟨a', h, e⟩
      · exact .inl h
      · rw [e]; exact .inr (hold a' h)
    · rw [setM_other e] at h1
      rw [updL_ne (by rintro ⟨h, h', _⟩; exact e ⟨h, h'⟩)] at h3
      exact .inl ⟨e, y, a, cap, h1, h2, h3, rfl⟩
  have hst : Step c M ⟨w', c.Fz, updL c.lam sh j o.ver pl⟩ (setM M sh j o) := by
    refine ⟨ht.mono ?_, fun _ h => h, fun _ h => .inl h, hle, ?_, by rw [setM_len]; exact Nat.le_refl _, by rw [setM_len]; exact Nat.le_refl _, fun i hi hn ver => by
      exact (updL_ne (by rintro ⟨rfl, rfl, _⟩; rw [hn] at hp; cases hp)).trans (hn ver)⟩
    · rintro m ⟨a, ha, rfl⟩
      exact ⟨sh, j, hold a ha⟩
    · intro s i m h
      rcases hown s i m h with ⟨_, h⟩ | ⟨_, _, h | h⟩
      · exact .inr ⟨s, i, h⟩
      · exact .inl h
      · exact .inr ⟨sh, j, h⟩
  refine ⟨⟨?_, ?_, ?_, ?_, fun m h => Nat.lt_of_lt_of_le (hM.fzl m h) ht.size⟩, hst⟩
  · intro s i y q h1 h2
    by_cases e : s = sh ∧ i = j
    · obtain ⟨rfl, rfl⟩ := e
      rw [setM_same hx] at h1
      cases h1
      have : q = pl := by
        have h2' := h2
        simp only [updL_same] at h2'
        exact (Option.some.inj h2').symm
      subst this
      exact ho
    · rw [setM_other e] at h1
      have h2' : c.lam s i y.ver = some q := by rw [← h2]; exact (updL_ne (by rintro ⟨h, h', _⟩; exact e ⟨h, h'⟩)).symm
      refine ObjAt_keep (hM.obj s i y q h1 h2') (hst.le hM) ?_
      intro hy a ha
      obtain ⟨pa, pc⟩ := q
      simp only at ha
      subst ha
      have hoy : Owns c.lam M s i a.block := ⟨y, a, pc, h1, hy, h2', rfl⟩
      refine ht.same _ (hoy.lt hM) ?_
      rintro ⟨a', h, e'⟩
      have hoa := hold a' h
      rw [← e'] at hoa
      exact e (hM.sep s i sh j _ hoy hoa)
  · intro s i ver q h
    by_cases e : s = sh ∧ i = j
    · obtain ⟨rfl, rfl⟩ := e
      refine ⟨o, setM_same hx, fun _ => ?_⟩
      by_cases ev : ver = o.ver
      · omega
      · have h' : c.lam s i ver = some q := by rw [← h]; exact (updL_ne (by rintro ⟨_, _, h⟩; exact ev h)).symm
        obtain ⟨z, h1, h2⟩ := hM.dom s i ver q h'
        rw [hx] at h1
        cases h1
        have := h2 hxo
        omega
    · have h' : c.lam s i ver = some q := by rw [← h]; exact (updL_ne (by rintro ⟨h, h', _⟩; exact e ⟨h, h'⟩)).symm
      obtain ⟨z, h1, h2⟩ := hM.dom s i ver q h'
      exact ⟨z, by rw [setM_other e]; exact h1, h2⟩
  · intro s i s' i' m h h'
    rcases hown s i m h with ⟨e, h⟩ | ⟨e1, e2, h⟩ <;> rcases hown s' i' m h' with ⟨e', h'⟩ | ⟨e1', e2', h'⟩
    · exact hM.sep s i s' i' m h h'
    · rcases h' with h' | h'
      · have := h.lt hM; omega
      · exact (e (hM.sep _ _ _ _ m h h')).elim
    · rcases h with h | h
      · have := h'.lt hM; omega
      · exact (e' (hM.sep _ _ _ _ m h' h)).elim
    · exact ⟨e1.trans e1'.symm, e2.trans e2'.symm⟩
  · intro s i m h
    rcases hown s i m h with ⟨_, h⟩ | ⟨_, _, h | h⟩
    · exact hM.unf s i m h
    · intro hf
      have := hM.fzl m hf
      omega
    · exact hM.unf sh j m h

/-- A row is frozen: from now on it can only be read. -/
theorem freeze_obj {c : Cx} {M : Mem} (hM : MemR c M) {sh : Bool} {j : Nat} {sz : Nat} {vs : List AV} (hx : (M sh)[j]? = some (.row sz vs)) :
    let Fz' : Nat → Prop := fun m => c.Fz m ∨ Owns c.lam M sh j m
    MemR ⟨c.w, Fz', c.lam⟩ (setM M sh j (.frow sz vs)) ∧ Step c M ⟨c.w, Fz', c.lam⟩ (setM M sh j (.frow sz vs)) := by
  intro Fz'
  have hown : ∀ s i m, Owns c.lam (setM M sh j (.frow sz vs)) s i m → ¬ (s = sh ∧ i = j) ∧ Owns c.lam M s i m := by
    rintro s i m ⟨y, a, cap, h1, h2, h3, rfl⟩
    by_cases e : s = sh ∧ i = j
    · obtain ⟨rfl, rfl⟩ := e
      rw [setM_same hx] at h1
      cases h1
      simp [AO.owned] at h2
    · rw [setM_other e] at h1
      exact ⟨e, y, a, cap, h1, h2, h3, rfl⟩
  have hst : Step c M ⟨c.w, Fz', c.lam⟩ (setM M sh j (.frow sz vs)) :=
    ⟨Turn.refl _ _, fun _ h => .inl h, fun m h => h.imp id (fun h => .inr ⟨sh, j, h⟩), fun _ _ _ _ h => h, fun s i m h => .inr ⟨s, i, (hown s i m h).2⟩, by rw [setM_len]; exact Nat.le_refl _, by rw [setM_len]; exact Nat.le_refl _, fun _ _ h => h⟩
  refine ⟨⟨?_, ?_, fun s i s' i' m h h' => hM.sep s i s' i' m (hown s i m h).2 (hown s' i' m h').2, ?_, ?_⟩, hst⟩
  · intro s i y q h1 h2
    by_cases e : s = sh ∧ i = j
    · obtain ⟨rfl, rfl⟩ := e
      rw [setM_same hx] at h1
      cases h1
      have hro := hM.obj s i (.row sz vs) q hx h2
      obtain ⟨h0, hz, ⟨rfl, h3⟩ | ⟨m, cap, cur, t, css, rfl, h3, h4, h5, h6, h7, h8⟩⟩ := hro
      · subst h3
        exact ⟨h0, hz, [], by rw [CRs], Nat.le_refl _, by simp, fun h => (h rfl).elim⟩
      · refine ⟨h0, hz, css, CRs_mono (hst.le hM) vs css h7, h4, h5, fun _ => ⟨⟨m, 0, none⟩, rfl, .inr ⟨.row sz vs, ⟨m, 0, none⟩, cap, hx, rfl, h2, rfl⟩, ?_⟩⟩
        intro k u hu
        have hadd : (⟨m, 0, none⟩ : Addr).add k = ⟨m, k, none⟩ := by unfold Addr.add; split <;> simp_all
        rw [hadd]
        rw [← h8, List.getElem?_take] at hu
        simp only [World.cell?, h3]
        split at hu
        · simpa using hu
        · cases hu
    · rw [setM_other e] at h1
      exact ObjAt_keep (hM.obj s i y q h1 h2) (hst.le hM) (fun _ _ _ => rfl)
  · intro s i ver q h
    obtain ⟨z, h1, h2⟩ := hM.dom s i ver q h
    by_cases e : s = sh ∧ i = j
    · obtain ⟨rfl, rfl⟩ := e
      exact ⟨_, setM_same hx, fun h => by simp [AO.owned] at h⟩
    · exact ⟨z, by rw [setM_other e]; exact h1, h2⟩
  · intro s i m h hf
    obtain ⟨e, h⟩ := hown s i m h
    rcases hf with hf | hf
    · exact hM.unf s i m h hf
    · exact e (hM.sep _ _ _ _ m h hf)
  · intro m h
    rcases h with h | h
    · exact hM.fzl m h
    · exact h.lt hM

end Go.Abs
/- Parts of values, the table of types, states, and what operands are. -/
set_option linter.unusedVariables false
set_option linter.unusedSimpArgs false
namespace Go.Abs
open Go.RowKit

/-! ### Parts -/
def AV.sub : AV → List Nat → Option (AV × Nat)
  | v, [] => some (v, 0)
  | .agg vs, i :: p => (vs[i]?).bind fun u => (u.sub p).map fun q => (q.1, AV.sizes (vs.take i) + q.2)
  | .arr sz vs, i :: p => (vs[i]?).bind fun u => (u.sub p).map fun q => (q.1, i * sz + q.2)
  | _, _ :: _ => none

def AV.upd : AV → List Nat → AV → Option AV
  | v, [], x => if v.size = x.size then some x else none
  | .agg vs, i :: p, x => (vs[i]?).bind fun u => (u.upd p x).map fun u' => .agg (vs.set i u')
  | .arr sz vs, i :: p, x => (vs[i]?).bind fun u => (u.upd p x).map fun u' => .arr sz (vs.set i u')
  | _, _ :: _, _ => none

theorem flatten_split {css : List (List Value)} {i : Nat} {x : List Value} (h : css[i]? = some x) : css.flatten = (css.take i).flatten ++ x ++ (css.drop (i + 1)).flatten := by
  have hlt := (List.getElem?_eq_some_iff.1 h).1
  have hx := (List.getElem?_eq_some_iff.1 h).2
  have h1 : css = css.take i ++ x :: css.drop (i + 1) := by
    rw [← hx, ← List.drop_eq_getElem_cons hlt, List.take_append_drop]
  conv => lhs; rw [h1]
  simp
theorem flatten_set {css : List (List Value)} {i : Nat} {x y : List Value} (h : css[i]? = some x) : (css.set i y).flatten = (css.take i).flatten ++ y ++ (css.drop (i + 1)).flatten := by
  have hlt := (List.getElem?_eq_some_iff.1 h).1
  have h2 : (css.set i y)[i]? = some y := List.getElem?_set_self hlt
  rw [flatten_split h2, List.take_set_of_le (Nat.le_refl _), List.drop_set_of_lt (by omega)]

theorem CRs_take {c : Cx} {vs : List AV} {css : List (List Value)} (h : CRs c vs css) (i : Nat) : CRs c (vs.take i) (css.take i) := by
  obtain ⟨hl, hi⟩ := (CRs_iff c vs css).1 h
  refine (CRs_iff c _ _).2 ⟨by simp [hl], ?_⟩
  intro j v x hv hx
  rw [List.getElem?_take] at hv hx
  split at hv
  · rename_i hj; rw [if_pos hj] at hx; exact hi j v x hv hx
  · cases hv
theorem CRs_set {c : Cx} {vs : List AV} {css : List (List Value)} (h : CRs c vs css) (i : Nat) {v : AV} {x : List Value} (hx : CR c v x) : CRs c (vs.set i v) (css.set i x) := by
  obtain ⟨hl, hi⟩ := (CRs_iff c vs css).1 h
  refine (CRs_iff c _ _).2 ⟨by simp [hl], ?_⟩
  intro j u y hu hy
  rw [List.getElem?_set] at hu hy
  split at hu
  · rename_i hj
    rw [if_pos hj] at hy
    split at hu
    · split at hy
      · cases hu; cases hy; exact hx
      · cases hy
    · cases hu
  · rename_i hj; rw [if_neg hj] at hy; exact hi j u y hu hy

theorem sizes_same {vs : List AV} {sz : Nat} (h : ∀ v ∈ vs, v.size = sz) : AV.sizes vs = vs.length * sz := by
  induction vs with
  | nil => simp [AV.sizes]
  | cons v vs ih =>
    rw [AV.sizes, ih (fun u hu => h u (List.mem_cons_of_mem _ hu)), h v List.mem_cons_self]
    simp [Nat.add_mul, Nat.add_comm]
theorem take_len {c : Cx} {vs : List AV} {css : List (List Value)} (h : CRs c vs css) (i : Nat) : ((css.take i).flatten).length = AV.sizes (vs.take i) := CRs_len c _ _ (CRs_take h i)
theorem take_len_same {c : Cx} {vs : List AV} {css : List (List Value)} {sz : Nat} (h : CRs c vs css) (hs : ∀ v ∈ vs, v.size = sz) {i : Nat} (hi : i ≤ vs.length) : ((css.take i).flatten).length = i * sz := by
  rw [take_len h, sizes_same (fun v hv => hs v (List.mem_of_mem_take hv)), List.length_take, Nat.min_eq_left hi]

theorem sub_cells {c : Cx} : ∀ (p : List Nat) {v : AV} {cs : List Value} {u : AV} {o : Nat}, CR c v cs → v.sub p = some (u, o) → ∃ pre xs post, cs = pre ++ xs ++ post ∧ pre.length = o ∧ CR c u xs
  | [], v, cs, u, o, h, hs => by
    have : v.sub [] = some (v, 0) := by unfold AV.sub; cases v <;> rfl
    rw [this] at hs
    cases hs
    exact ⟨[], cs, [], by simp, rfl, h⟩
  | i :: p, v, cs, u, o, h, hs => by
    cases v with
    | agg vs =>
      rw [CR] at h
      obtain ⟨css, h, rfl⟩ := h
      simp only [AV.sub, Option.bind_eq_some_iff, Option.map_eq_some_iff] at hs
      obtain ⟨w, hw, ⟨q, o'⟩, hq, e⟩ := hs
      cases e
      obtain ⟨x, hx, hcx⟩ := CRs_get h hw
      obtain ⟨pre, xs, post, rfl, hl, hr⟩ := sub_cells p hcx hq
      refine ⟨(css.take i).flatten ++ pre, xs, post ++ (css.drop (i + 1)).flatten, ?_, ?_, hr⟩
      · rw [flatten_split hx]; simp
      · rw [List.length_append, take_len h, hl]
    | arr sz vs =>
      rw [CR] at h
      obtain ⟨h0, css, h, rfl⟩ := h
      simp only [AV.sub, Option.bind_eq_some_iff, Option.map_eq_some_iff] at hs
      obtain ⟨w, hw, ⟨q, o'⟩, hq, e⟩ := hs
      cases e
      obtain ⟨x, hx, hcx⟩ := CRs_get h hw
      obtain ⟨pre, xs, post, rfl, hl, hr⟩ := sub_cells p hcx hq
      refine ⟨(css.take i).flatten ++ pre, xs, post ++ (css.drop (i + 1)).flatten, ?_, ?_, hr⟩
      · rw [flatten_split hx]; simp
      · rw [List.length_append, take_len_same h h0 (Nat.le_of_lt (List.getElem?_eq_some_iff.1 hw).1), hl]
    | _ => simp [AV.sub] at hs

theorem sizes_set {vs : List AV} {i : Nat} {u u' : AV} (h : vs[i]? = some u) (hs : u'.size = u.size) : AV.sizes (vs.set i u') = AV.sizes vs := by
  induction vs generalizing i with
  | nil => simp at h
  | cons v vs ih =>
    cases i with
    | zero => simp at h; subst h; simp [AV.sizes, hs]
    | succ i => simp at h; simp [AV.sizes, ih h]

theorem upd_size : ∀ (p : List Nat) {v x v' : AV}, v.upd p x = some v' → v'.size = v.size
  | [], v, x, v', h => by
    have : v.upd [] x = if v.size = x.size then some x else none := by unfold AV.upd; cases v <;> rfl
    rw [this] at h
    split at h
    · cases h; omega
    · cases h
  | i :: p, v, x, v', h => by
    cases v with
    | agg vs =>
      simp only [AV.upd, Option.bind_eq_some_iff, Option.map_eq_some_iff] at h
      obtain ⟨w, hw, q, hq, rfl⟩ := h
      rw [AV.size, AV.size, sizes_set hw (upd_size p hq)]
    | arr sz vs =>
      simp only [AV.upd, Option.bind_eq_some_iff, Option.map_eq_some_iff] at h
      obtain ⟨w, hw, q, hq, rfl⟩ := h
      rw [AV.size, AV.size, sizes_set hw (upd_size p hq)]
    | _ => simp [AV.upd] at h

theorem upd_cells {c : Cx} : ∀ (p : List Nat) {v : AV} {cs : List Value} {x v' : AV} {xs : List Value}, CR c v cs → v.upd p x = some v' → CR c x xs →
    ∃ u o pre ys post, v.sub p = some (u, o) ∧ cs = pre ++ ys ++ post ∧ pre.length = o ∧ ys.length = xs.length ∧ CR c v' (pre ++ xs ++ post)
  | [], v, cs, x, v', xs, h, hu, hx => by
    have h1 : v.upd [] x = if v.size = x.size then some x else none := by unfold AV.upd; cases v <;> rfl
    have h2 : v.sub [] = some (v, 0) := by unfold AV.sub; cases v <;> rfl
    rw [h1] at hu
    split at hu
    · rename_i e
      cases hu
      exact ⟨v, 0, [], cs, [], h2, by simp, rfl, by rw [CR_len c _ _ h, CR_len c _ _ hx, e], by simpa using hx⟩
    · cases hu
  | i :: p, v, cs, x, v', xs, h, hu, hx => by
    cases v with
    | agg vs =>
      rw [CR] at h
      obtain ⟨css, h, rfl⟩ := h
      simp only [AV.upd, Option.bind_eq_some_iff, Option.map_eq_some_iff] at hu
      obtain ⟨w, hw, q, hq, rfl⟩ := hu
      obtain ⟨y, hy, hcy⟩ := CRs_get h hw
      obtain ⟨u, o, pre, ys, post, h1, rfl, h2, h3, h4⟩ := upd_cells p hcy hq hx
      refine ⟨u, AV.sizes (vs.take i) + o, (css.take i).flatten ++ pre, ys, post ++ (css.drop (i + 1)).flatten, ?_, ?_, ?_, h3, ?_⟩
      · simp [AV.sub, hw, h1]
      · rw [flatten_split hy]; simp
      · rw [List.length_append, take_len h, h2]
      · rw [CR]
        refine ⟨css.set i (pre ++ xs ++ post), CRs_set h i h4, ?_⟩
        rw [flatten_set hy]; simp
    | arr sz vs =>
      rw [CR] at h
      obtain ⟨h0, css, h, rfl⟩ := h
      simp only [AV.upd, Option.bind_eq_some_iff, Option.map_eq_some_iff] at hu
      obtain ⟨w, hw, q, hq, rfl⟩ := hu
      obtain ⟨y, hy, hcy⟩ := CRs_get h hw
      obtain ⟨u, o, pre, ys, post, h1, rfl, h2, h3, h4⟩ := upd_cells p hcy hq hx
      refine ⟨u, i * sz + o, (css.take i).flatten ++ pre, ys, post ++ (css.drop (i + 1)).flatten, ?_, ?_, ?_, h3, ?_⟩
      · simp [AV.sub, hw, h1]
      · rw [flatten_split hy]; simp
      · rw [List.length_append, take_len_same h h0 (Nat.le_of_lt (List.getElem?_eq_some_iff.1 hw).1), h2]
      · rw [CR]
        refine ⟨?_, css.set i (pre ++ xs ++ post), CRs_set h i h4, ?_⟩
        · intro z hz
          rcases List.mem_or_eq_of_mem_set hz with hz | rfl
          · exact h0 z hz
          · rw [upd_size p hq]; exact h0 w (List.mem_of_getElem? hw)
        · rw [flatten_set hy]; simp
    | _ => simp [AV.upd] at hu

/-! ### Parts of objects -/
def AO.sub : AO → List Nat → Option (AV × Nat)
  | .cell v, p => v.sub p
  | .row sz vs, i :: p => (vs[i]?).bind fun u => (u.sub p).map fun q => (q.1, i * sz + q.2)
  | .frow sz vs, i :: p => (vs[i]?).bind fun u => (u.sub p).map fun q => (q.1, i * sz + q.2)
  | .xrow sz vs, i :: p => (vs[i]?).bind fun u => (u.sub p).map fun q => (q.1, i * sz + q.2)
  | _, _ => none
def AO.upd : AO → List Nat → AV → Option AO
  | .cell v, p, x => (v.upd p x).map .cell
  | .row sz vs, i :: p, x => (vs[i]?).bind fun u => (u.upd p x).map fun u' => .row sz (vs.set i u')
  | _, _, _ => none

theorem add_lit (m o k : Nat) : (⟨m, o, none⟩ : Addr).add k = ⟨m, o + k, none⟩ := by unfold Addr.add; split <;> simp_all
theorem add_add (ad : Addr) (i j : Nat) : (ad.add i).add j = ad.add (i + j) := by
  unfold Addr.add
  by_cases hi : i = 0
  · subst hi
    by_cases hj : j = 0 <;> simp [hj]
  · by_cases hj : j = 0
    · subst hj; simp [hi]
    · have : i + j ≠ 0 := by omega
      simp [hi, hj, this, Nat.add_assoc]

/-- A part of an object can be read where it lies. -/
theorem obj_read {c : Cx} {M : Mem} (hM : MemR c M) {sh : Bool} {j : Nat} {o : AO} {a : Addr} {cap : Nat} (ho : (M sh)[j]? = some o) (hl : c.lam sh j o.ver = some (some a, cap)) {p : List Nat} {u : AV} {off : Nat} (hs : o.sub p = some (u, off)) :
    ∃ xs, CR c u xs ∧ ∀ (k : Nat) (x : Value), xs[k]? = some x → c.w.cell? ((a.add off).add k) = some x := by
  have hob := hM.obj sh j o _ ho hl
  cases o with
  | dead => simp [AO.sub] at hs
  | fwd _ => simp [AO.sub] at hs
  | mp _ => simp [AO.sub] at hs
  | lrec _ => simp [AO.sub] at hs
  | cell v =>
    obtain ⟨m, t, cs, e, h1, h2⟩ := hob
    cases e
    obtain ⟨pre, xs, post, rfl, hlen, hr⟩ := sub_cells p h1 hs
    refine ⟨xs, hr, ?_⟩
    intro k x hx
    rw [add_lit, add_lit, cell_of_row _ _ _ _ _ _ h2]
    have hk := (List.getElem?_eq_some_iff.1 hx).1
    simp only [Nat.zero_add, List.getElem?_toArray]
    rw [List.append_assoc, List.getElem?_append_right (by omega), hlen, Nat.add_sub_cancel_left, List.getElem?_append_left hk]
    exact hx
  | row sz vs =>
    cases p with
    | nil => simp [AO.sub] at hs
    | cons i p =>
      simp only [AO.sub, Option.bind_eq_some_iff, Option.map_eq_some_iff] at hs
      obtain ⟨w, hw, ⟨q, o'⟩, hq, e⟩ := hs
      cases e
      obtain ⟨h0, hz, ⟨e, h1⟩ | ⟨m, cap', cur, t, css, e, h1, h2, h3, h4, h5, h6⟩⟩ := hob
      · cases e
      · cases e
        obtain ⟨x0, hx0, hc0⟩ := CRs_get h5 hw
        obtain ⟨pre, xs, post, rfl, hlen, hr⟩ := sub_cells p hc0 hq
        have hi := (List.getElem?_eq_some_iff.1 hw).1
        refine ⟨xs, hr, ?_⟩
        intro k x hx
        rw [add_lit, add_lit, cell_of_row _ _ _ _ _ _ h1]
        have hk := (List.getElem?_eq_some_iff.1 hx).1
        have hfl := flatten_split hx0
        have hpos : css.flatten[0 + (i * sz + o') + k]? = some x := by
          rw [hfl, List.append_assoc, List.getElem?_append_right (by rw [take_len_same h5 h0 (by omega)]; omega), take_len_same h5 h0 (by omega)]
          have e1 : 0 + (i * sz + o') + k - i * sz = o' + k := by omega
          rw [e1, List.append_assoc, List.append_assoc, List.getElem?_append_right (by omega), hlen, Nat.add_sub_cancel_left, List.getElem?_append_left hk]
          exact hx
        rw [← h6, List.getElem?_take] at hpos
        split at hpos
        · simpa using hpos
        · cases hpos
  | frow sz vs =>
    cases p with
    | nil => simp [AO.sub] at hs
    | cons i p =>
      simp only [AO.sub, Option.bind_eq_some_iff, Option.map_eq_some_iff] at hs
      obtain ⟨w, hw, ⟨q, o'⟩, hq, e⟩ := hs
      cases e
      obtain ⟨h0, hz, css, h5, h2, h3, h4⟩ := hob
      have hi := (List.getElem?_eq_some_iff.1 hw).1
      obtain ⟨ad, e, hf, hc⟩ := h4 (by rintro rfl; simp at hi)
      simp only at e
      cases e
      obtain ⟨x0, hx0, hc0⟩ := CRs_get h5 hw
      obtain ⟨pre, xs, post, rfl, hlen, hr⟩ := sub_cells p hc0 hq
      refine ⟨xs, hr, ?_⟩
      intro k x hx
      rw [add_add]
      refine hc _ x ?_
      have hk := (List.getElem?_eq_some_iff.1 hx).1
      rw [flatten_split hx0, List.append_assoc, List.getElem?_append_right (by rw [take_len_same h5 h0 (by omega)]; omega), take_len_same h5 h0 (by omega)]
      have e1 : i * sz + o' + k - i * sz = o' + k := by omega
      rw [e1, List.append_assoc, List.append_assoc, List.getElem?_append_right (by omega), hlen, Nat.add_sub_cancel_left, List.getElem?_append_left hk]
      exact hx
  | xrow sz vs =>
    cases p with
    | nil => simp [AO.sub] at hs
    | cons i p =>
      simp only [AO.sub, Option.bind_eq_some_iff, Option.map_eq_some_iff] at hs
      obtain ⟨w, hw, ⟨q, o'⟩, hq, e⟩ := hs
      cases e
      obtain ⟨h0, hz, css, h5, h2, h3, h4⟩ := hob
      have hi := (List.getElem?_eq_some_iff.1 hw).1
      obtain ⟨ad, e, hf, hc⟩ := h4 (by rintro rfl; simp at hi)
      simp only at e
      cases e
      obtain ⟨x0, hx0, hc0⟩ := CRs_get h5 hw
      obtain ⟨pre, xs, post, rfl, hlen, hr⟩ := sub_cells p hc0 hq
      refine ⟨xs, hr, ?_⟩
      intro k x hx
      rw [add_add]
      refine hc _ x ?_
      have hk := (List.getElem?_eq_some_iff.1 hx).1
      rw [flatten_split hx0, List.append_assoc, List.getElem?_append_right (by rw [take_len_same h5 h0 (by omega)]; omega), take_len_same h5 h0 (by omega)]
      have e1 : i * sz + o' + k - i * sz = o' + k := by omega
      rw [e1, List.append_assoc, List.append_assoc, List.getElem?_append_right (by omega), hlen, Nat.add_sub_cancel_left, List.getElem?_append_left hk]
      exact hx

end Go.Abs
/- Writing a part of an object. -/
set_option linter.unusedVariables false
set_option linter.unusedSimpArgs false
namespace Go.Abs
open Go.RowKit

theorem Turn.setRow (w : World) (g : Nat) (cs : Array Value) : Turn w (w.setRow g cs) (fun m => m = g) :=
  ⟨by simp, rfl, rfl, rfl, fun m _ hn => setRow_other w g m cs hn⟩

theorem updL_self {lam : Lam} {sh : Bool} {j ver : Nat} {pl : Option Addr × Nat} (h : lam sh j ver = some pl) : updL lam sh j ver pl = lam := by
  funext a b d
  unfold updL
  split
  · rename_i e; obtain ⟨rfl, rfl, rfl⟩ := e; exact h.symm
  · rfl

theorem seg_general {α : Type} (A pre ys post D T xs : List α) :
    (A ++ (pre ++ ys ++ post) ++ D ++ T).take (A.length + pre.length) ++ xs ++ (A ++ (pre ++ ys ++ post) ++ D ++ T).drop (A.length + pre.length + ys.length) = A ++ (pre ++ xs ++ post) ++ D ++ T := by
  have e1 : A ++ (pre ++ ys ++ post) ++ D ++ T = (A ++ pre) ++ (ys ++ (post ++ (D ++ T))) := by simp
  have e2 : A ++ (pre ++ ys ++ post) ++ D ++ T = (A ++ pre ++ ys) ++ (post ++ (D ++ T)) := by simp
  have h1 : (A ++ (pre ++ ys ++ post) ++ D ++ T).take (A.length + pre.length) = A ++ pre := by
    rw [e1, ← List.length_append, List.take_left]
  have h2 : (A ++ (pre ++ ys ++ post) ++ D ++ T).drop (A.length + pre.length + ys.length) = post ++ (D ++ T) := by
    rw [e2, ← List.length_append, ← List.length_append, List.drop_left]
  rw [h1, h2]
  simp

/-- A part of an object of one's own is written. -/
theorem obj_write {P : Program} {c : Cx} {M : Mem} (hM : MemR c M) {sh : Bool} {j : Nat} {o o' : AO} {a : Addr} {cap : Nat} (ho : (M sh)[j]? = some o) (hoo : o.owned = true) (hl : c.lam sh j o.ver = some (some a, cap))
    {p : List Nat} {x u : AV} {off : Nat} (hu : o.upd p x = some o') (hs : o.sub p = some (u, off)) {xs : List Value} (hx : CR c x xs) :
    ∃ w', (storeCells (a.add off) xs).run P c.w = .ok () w' ∧ MemR ⟨w', c.Fz, c.lam⟩ (setM M sh j o') ∧ Step c M ⟨w', c.Fz, c.lam⟩ (setM M sh j o') := by
  have hob := hM.obj sh j o _ ho hl
  cases o with
  | dead => simp [AO.owned] at hoo
  | fwd _ => simp [AO.owned] at hoo
  | mp _ => simp [AO.sub] at hs
  | lrec _ => simp [AO.sub] at hs
  | frow _ _ => simp [AO.owned] at hoo
  | xrow _ _ => simp [AO.owned] at hoo
  | cell v =>
    obtain ⟨m, t, cs, e, h1, h2⟩ := hob
    cases e
    simp only [AO.upd, Option.map_eq_some_iff] at hu
    obtain ⟨v', hv', rfl⟩ := hu
    obtain ⟨u', o2, pre, ys, post, hsub, rfl, hlen, hyl, hr⟩ := upd_cells p h1 hv' hx
    simp only [AO.sub] at hs
    rw [hs] at hsub
    cases hsub
    have hrun := run_storeCells_at P m off t xs 0 (pre ++ ys ++ post).toArray c.w h2 (by simp; omega) (CR_each c x xs hx)
    have hseg : ((pre ++ ys ++ post).toArray.toList.take (off + 0) ++ xs ++ (pre ++ ys ++ post).toArray.toList.drop (off + 0 + xs.length)) = pre ++ xs ++ post := by
      simp only [Nat.add_zero]
      rw [← hlen, List.append_assoc, List.append_assoc, ← hyl]
      simp [List.take_append_of_le_length, List.drop_append]
    rw [hseg] at hrun
    refine ⟨_, by rw [add_lit, Nat.zero_add]; exact hrun, ?_⟩
    have h := turn_obj hM ho hoo hl (o := .cell v') (pl := (some ⟨m, 0, none⟩, 0)) (w' := c.w.setRow m (pre ++ xs ++ post).toArray) rfl (Nat.le_refl _) (fun q hq => by
      have : c.lam sh j 0 = some (some ⟨m, 0, none⟩, 0) := hl
      rw [show (AO.cell v').ver = 0 from rfl, this] at hq; exact (Option.some.inj hq).symm)
      ((Turn.setRow _ _ _).mono fun m' h => ⟨_, rfl, h⟩) ?_ (fun a ha => .inr ⟨a, ha, rfl⟩)
    · rw [updL_self (ver := (AO.cell v').ver) hl] at h
      exact h
    · rw [updL_self (ver := (AO.cell v').ver) hl]
      refine ⟨m, t, pre ++ xs ++ post, rfl, ?_, setRow_heap _ _ _ _ _ _ h2⟩
      have hown : Owns c.lam M sh j m := ⟨_, _, _, ho, hoo, hl, rfl⟩
      have hle2 : c.le ⟨c.w.setRow m (pre ++ xs ++ post).toArray, c.Fz, c.lam⟩ := by
        refine ⟨fun _ h => h, fun m' hm' => setRow_other _ _ _ _ ?_, fun _ _ _ _ h => h⟩
        rintro rfl
        exact hM.unf sh j _ hown hm'
      exact CR_mono hle2 _ _ hr
  | row sz vs =>
    cases p with
    | nil => simp [AO.sub] at hs
    | cons i p =>
      simp only [AO.sub, Option.bind_eq_some_iff, Option.map_eq_some_iff] at hs
      obtain ⟨z, hz, ⟨q, o2⟩, hq, e⟩ := hs
      cases e
      simp only [AO.upd, Option.bind_eq_some_iff, Option.map_eq_some_iff] at hu
      obtain ⟨z', hz', v', hv', rfl⟩ := hu
      rw [hz] at hz'
      cases hz'
      obtain ⟨h0, hzp, ⟨e, h1⟩ | ⟨m, cap', cur, t, css, e, h1, h2, h3, h4, h5, h6⟩⟩ := hob
      · cases e
      cases e
      obtain ⟨y, hy, hcy⟩ := CRs_get h5 hz
      obtain ⟨u', o3, pre, ys, post, hsub, rfl, hlen, hyl, hr⟩ := upd_cells p hcy hv' hx
      rw [hq] at hsub
      cases hsub
      have hi := (List.getElem?_eq_some_iff.1 hz).1
      have hfl := flatten_split hy
      have hcl : css.flatten.length = vs.length * sz := by rw [CRs_len c _ _ h5, sizes_same h0]
      have hpl : ((css.take i).flatten).length = i * sz := take_len_same h5 h0 (by omega)
      have hcur : cur.toList = css.flatten ++ cur.toList.drop (vs.length * sz) := by rw [← h6, List.take_append_drop]
      have hle : css.flatten.length ≤ cur.toList.length := by
        have hcu : cur.toList.length = cap * sz := by simpa using h4
        rw [hcl, hcu]; exact Nat.mul_le_mul_right _ h2
      have hflen : css.flatten.length = i * sz + (o2 + ys.length + post.length) + ((css.drop (i + 1)).flatten).length := by
        rw [hfl]; simp only [List.length_append]; omega
      have hcsz : css.flatten.length ≤ cur.size := by simpa using hle
      have hrun := run_storeCells_at P m (i * sz + o2) t xs 0 cur c.w h1 (by omega) (CR_each c x xs hx)
      have hseg : (cur.toList.take (i * sz + o2 + 0) ++ xs ++ cur.toList.drop (i * sz + o2 + 0 + xs.length)) = (css.set i (pre ++ xs ++ post)).flatten ++ cur.toList.drop (vs.length * sz) := by
        rw [flatten_set hy]
        have e1 : cur.toList = (css.take i).flatten ++ (pre ++ ys ++ post) ++ (css.drop (i + 1)).flatten ++ cur.toList.drop (vs.length * sz) := by
          rw [← hfl]; exact hcur
        have e2 := seg_general (css.take i).flatten pre ys post (css.drop (i + 1)).flatten (cur.toList.drop (vs.length * sz)) xs
        rw [← e1, hpl, hlen, hyl] at e2
        simpa using e2
      rw [hseg] at hrun
      refine ⟨_, by rw [add_lit, Nat.zero_add]; exact hrun, ?_⟩
      have hver : (AO.row sz (vs.set i v')).ver = (AO.row sz vs).ver := by simp [AO.ver]
      have h := turn_obj hM ho hoo hl (o := .row sz (vs.set i v')) (pl := (some ⟨m, 0, none⟩, cap)) (w' := c.w.setRow m ((css.set i (pre ++ xs ++ post)).flatten ++ cur.toList.drop (vs.length * sz)).toArray) rfl (by rw [hver]; exact Nat.le_refl _) (fun q hq => by
        rw [hver, hl] at hq; exact (Option.some.inj hq).symm)
        ((Turn.setRow _ _ _).mono fun m' h => ⟨_, rfl, h⟩) ?_ (fun a ha => .inr ⟨a, ha, rfl⟩)
      · rw [updL_self (by rw [hver]; exact hl)] at h
        exact h
      · rw [updL_self (by rw [hver]; exact hl)]
        have hown : Owns c.lam M sh j m := ⟨_, _, _, ho, hoo, hl, rfl⟩
        have hle2 : c.le ⟨c.w.setRow m ((css.set i (pre ++ xs ++ post)).flatten ++ cur.toList.drop (vs.length * sz)).toArray, c.Fz, c.lam⟩ := by
          refine ⟨fun _ h => h, fun m' hm' => setRow_other _ _ _ _ ?_, fun _ _ _ _ h => h⟩
          rintro rfl
          exact hM.unf sh j _ hown hm'
        have hset := CRs_set h5 i hr
        have hsl : ((css.set i (pre ++ xs ++ post)).flatten).length = vs.length * sz := by
          rw [← hcl, flatten_set hy, hfl]
          simp only [List.length_append]; omega
        refine ⟨?_, hzp, .inr ⟨m, cap, _, t, css.set i (pre ++ xs ++ post), rfl, setRow_heap _ _ _ _ _ _ h1, by simpa using h2, h3, ?_, CRs_mono hle2 _ _ hset, ?_⟩⟩
        · intro z' hz'
          rcases List.mem_or_eq_of_mem_set hz' with hz' | rfl
          · exact h0 z' hz'
          · rw [upd_size p hv']; exact h0 z (List.mem_of_getElem? hz)
        · have hcu : cur.toList.length = cap * sz := by simpa using h4
          have hm : vs.length * sz ≤ cap * sz := Nat.mul_le_mul_right _ h2
          rw [List.size_toArray, List.length_append, hsl, List.length_drop, hcu]
          omega
        · simp only [List.length_set]
          rw [← hsl, List.take_left]

end Go.Abs
/- The table of types; states; what an operation does. -/
set_option linter.unusedVariables false
set_option linter.unusedSimpArgs false
namespace Go.Abs
open Go.RowKit

structure FI where
  off : Nat
  size : Nat
  agg : Bool
inductive TK where
  | scalar
  | int (k : IntKind)
  | string
  | struct (fs : List FI)
  | array (n esz : Nat) (eagg : Bool)
  | slice (esz : Nat) (e : TypeId)
def TK.isAgg : TK → Bool
  | .struct _ => true
  | .array _ _ _ => true
  | _ => false
structure TI where
  k : TK
  size : Nat
  bytes : Nat
  zero : AV
def TI.isAgg (i : TI) : Bool := i.k.isAgg

mutual
def plain : AV → Option (List Value)
  | .bool b => some [.bool b]
  | .int k n => some [.int k n]
  | .str s => some [.string s]
  | .nilS => some [.slice none 0 0]
  | .nilP => some [.pointer none]
  | .nilF => some [.nilFunc]
  | .nilM => some [.map none]
  | .nilI => some [.nilIface]
  | .agg vs => (plains vs).map List.flatten
  | .arr sz vs => if vs.all (fun v => v.size == sz) then (plains vs).map List.flatten else none
  | _ => none
def plains : List AV → Option (List (List Value))
  | [] => some []
  | v :: vs => (plain v).bind fun x => (plains vs).map fun xs => x :: xs
end
mutual
theorem plain_CR (c : Cx) : ∀ (v : AV) (cs : List Value), plain v = some cs → CR c v cs
  | .any, cs, h => by rw [plain] at h; cases h; all_goals simp
  | .bool b, cs, h => by rw [plain] at h; cases h; rw [CR]
  | .int k n, cs, h => by rw [plain] at h; cases h; rw [CR]
  | .str s, cs, h => by rw [plain] at h; cases h; rw [CR]
  | .nilS, cs, h => by rw [plain] at h; cases h; rw [CR]
  | .nilP, cs, h => by rw [plain] at h; cases h; rw [CR]
  | .nilF, cs, h => by rw [plain] at h; cases h; rw [CR]
  | .nilM, cs, h => by rw [plain] at h; cases h; rw [CR]
  | .nilI, cs, h => by rw [plain] at h; cases h; rw [CR]
  | .agg vs, cs, h => by
    rw [plain, Option.map_eq_some_iff] at h
    obtain ⟨css, h, rfl⟩ := h
    rw [CR]
    exact ⟨css, plains_CR c vs css h, rfl⟩
  | .arr sz vs, cs, h => by
    rw [plain] at h
    split at h
    · rename_i hs
      rw [Option.map_eq_some_iff] at h
      obtain ⟨css, h, rfl⟩ := h
      rw [CR]
      exact ⟨by simpa using hs, css, plains_CR c vs css h, rfl⟩
    · cases h
  | .lit _ _, cs, h => by rw [plain] at h; cases h; all_goals simp
  | .own _ _ _, cs, h => by rw [plain] at h; cases h; all_goals simp
  | .pin _, cs, h => by rw [plain] at h; cases h; all_goals simp
  | .ref _ _ _ _ _, cs, h => by rw [plain] at h; cases h; all_goals simp
  | .func _ _ _, cs, h => by rw [plain] at h; cases h; all_goals simp
  | .mapr _ _, cs, h => by rw [plain] at h; cases h; all_goals simp
  | .iface _ _, cs, h => by rw [plain] at h; cases h; all_goals simp
  | .tup _, cs, h => by rw [plain] at h; cases h; all_goals simp
  | .yld _ _, cs, h => by rw [plain] at h; cases h; all_goals simp
  | .win _ _ _ _ _, cs, h => by rw [plain] at h; cases h; all_goals simp
theorem plains_CR (c : Cx) : ∀ (vs : List AV) (css : List (List Value)), plains vs = some css → CRs c vs css
  | [], css, h => by rw [plains] at h; cases h; rw [CRs]
  | v :: vs, css, h => by
    rw [plains, Option.bind_eq_some_iff] at h
    obtain ⟨x, hx, h⟩ := h
    rw [Option.map_eq_some_iff] at h
    obtain ⟨xs, hxs, rfl⟩ := h
    rw [CRs]
    exact ⟨x, xs, rfl, plain_CR c v x hx, plains_CR c vs xs hxs⟩
end
def vEq : Value → Value → Bool
  | .bool a, .bool b => a == b
  | .int k a, .int l b => k == l && a == b
  | .string a, .string b => a.data.toList == b.data.toList
  | .slice none a b, .slice none c d => a == c && b == d
  | .pointer none, .pointer none => true
  | .nilFunc, .nilFunc => true
  | .map none, .map none => true
  | .nilIface, .nilIface => true
  | _, _ => false
theorem vEq_eq {a b : Value} (h : vEq a b = true) : a = b := by
  unfold vEq at h
  split at h <;> simp_all
  rename_i x y
  cases x; cases y; simp_all
def vsEq : List Value → List Value → Bool
  | [], [] => true
  | a :: x, b :: y => vEq a b && vsEq x y
  | _, _ => false
theorem vsEq_eq : ∀ {x y : List Value}, vsEq x y = true → x = y
  | [], [], _ => rfl
  | a :: x, b :: y, h => by
    simp only [vsEq, Bool.and_eq_true] at h
    rw [vEq_eq h.1, vsEq_eq h.2]
  | [], _ :: _, h => by simp [vsEq] at h
  | _ :: _, [], h => by simp [vsEq] at h

def aggD : TypeDesc → Bool
  | .struct _ | .array _ _ => true
  | _ => false
def aggT (P : Program) (t : TypeId) : Option Bool := (P.underlying t).map aggD

def fiChk (P : Program) : List Field → List FI → Bool
  | [], [] => true
  | f :: fs, i :: is => f.offset == i.off && (P.info? f.type).map (·.size) == some i.size && aggT P f.type == some i.agg && fiChk P fs is
  | _, _ => false
def kChk (P : Program) (t : TypeId) : TK → Bool
  | .scalar => aggT P t == some false
  | .int k => match P.underlying t with | some (.int k') => k == k' | _ => false
  | .string => match P.underlying t with | some .string => true | _ => false
  | .struct fs => match P.underlying t with | some (.struct arr) => fiChk P arr.toList fs | _ => false
  | .array n esz ea => match P.underlying t with | some (.array m e) => n == m && (P.info? e).map (·.size) == some esz && aggT P e == some ea | _ => false
  | .slice esz e => match P.underlying t with | some (.slice e') => e == e' && (P.info? e).map (·.size) == some esz | _ => false
def tiChk (P : Program) (t : TypeId) (i : TI) : Bool :=
  match P.info? t with
  | some inf => inf.size == i.size && inf.bytes == i.bytes && (match inf.zero, plain i.zero with | some z, some cs => vsEq z.cells.toList cs && (match z with | .agg _ => i.zero.isAgg | _ => !i.zero.isAgg) | _, _ => false) && kChk P t i.k && (i.zero.isAgg == i.isAgg)
  | none => false

structure X where
  P : Program
  ti : TypeId → Option TI
  ok : ∀ t i, ti t = some i → tiChk P t i = true
  rd : Option Nat := none

structure TOK (P : Program) (t : TypeId) (i : TI) : Prop where
  inf : ∃ inf z, P.info? t = some inf ∧ inf.size = i.size ∧ inf.bytes = i.bytes ∧ inf.zero = some z ∧ ∃ cs, plain i.zero = some cs ∧ z = vOf i.zero cs ∧ z.cells.toList = cs
  k : kChk P t i.k = true
  za : i.zero.isAgg = i.isAgg

theorem tok (x : X) {t : TypeId} {i : TI} (h : x.ti t = some i) : TOK x.P t i := by
  have h := x.ok t i h
  unfold tiChk at h
  split at h
  · rename_i inf hinf
    simp only [Bool.and_eq_true, beq_iff_eq] at h
    obtain ⟨⟨⟨⟨h1, h2⟩, h3⟩, h4⟩, h5⟩ := h
    refine ⟨?_, h4, h5⟩
    split at h3
    · rename_i z cs hz hp
      simp only [Bool.and_eq_true] at h3
      have he := vsEq_eq h3.1
      refine ⟨inf, z, hinf, h1, h2, hz, cs, hp, ?_, he⟩
      cases z with
      | agg a => simp [Value.cells] at he; subst he; simp [vOf, h3.2]
      | _ => simp [Value.cells] at he; subst he; simp at h3; simp [vOf, h3]
    · cases h3
  · cases h

theorem agg_run {P : Program} {t : TypeId} {b : Bool} (h : aggT P t = some b) (w : World) : (isAgg t).run P w = .ok b w := by
  unfold aggT at h
  rw [Option.map_eq_some_iff] at h
  obtain ⟨d, hd, rfl⟩ := h
  simp only [isAgg, underlying, Sem.run_bind, run_program, Result.andThen_ok, hd, Sem.run_pure]
  cases d <;> rfl
theorem und_run {P : Program} {t : TypeId} {d : TypeDesc} (h : P.underlying t = some d) (w : World) : (underlying t).run P w = .ok d w := by
  simp [underlying, h]
theorem size_run {P : Program} {t : TypeId} {n : Nat} (h : (P.info? t).map (·.size) = some n) (w : World) : (sizeOf t).run P w = .ok n w := by
  rw [Option.map_eq_some_iff] at h
  obtain ⟨i, hi, rfl⟩ := h
  simp [sizeOf, typeInfo, hi]
theorem zero_run {P : Program} {t : TypeId} {inf : TypeInfo} {z : Value} (h : P.info? t = some inf) (hz : inf.zero = some z) (w : World) : (zeroValue t).run P w = .ok z w := by
  simp [zeroValue, typeInfo, h, hz]
theorem kChk_agg {P : Program} {t : TypeId} {k : TK} (hk : kChk P t k = true) : aggT P t = some k.isAgg := by
  cases k with
  | scalar => simpa [kChk, TK.isAgg] using hk
  | int k =>
    simp only [kChk] at hk
    split at hk
    · rename_i hu; simp [aggT, hu, aggD, TK.isAgg]
    · cases hk
  | string =>
    simp only [kChk] at hk
    split at hk
    · rename_i hu; simp [aggT, hu, aggD, TK.isAgg]
    · cases hk
  | struct fs =>
    simp only [kChk] at hk
    split at hk
    · rename_i hu; simp [aggT, hu, aggD, TK.isAgg]
    · cases hk
  | array n esz ea =>
    simp only [kChk] at hk
    split at hk
    · rename_i hu; simp [aggT, hu, aggD, TK.isAgg]
    · cases hk
  | slice esz e =>
    simp only [kChk] at hk
    split at hk
    · rename_i hu; simp [aggT, hu, aggD, TK.isAgg]
    · cases hk
theorem TOK.agg {P : Program} {t : TypeId} {i : TI} (h : TOK P t i) : aggT P t = some i.isAgg := kChk_agg h.k
theorem TOK.size {P : Program} {t : TypeId} {i : TI} (h : TOK P t i) : (P.info? t).map (·.size) = some i.size := by
  obtain ⟨inf, z, h1, h2, _⟩ := h.inf
  simp [h1, h2]

/-! ### States -/
structure AS where
  t : List (Nat × AV)
  loc : List AO
  H : List AO

def AS.mem (s : AS) : Mem := Abs.mem s.loc s.H
def AS.setMem (s : AS) (sh : Bool) (j : Nat) (o : AO) : AS := if sh then { s with H := s.H.set j o } else { s with loc := s.loc.set j o }
theorem AS.mem_setMem (s : AS) (sh : Bool) (j : Nat) (o : AO) : (s.setMem sh j o).mem = setM s.mem sh j o := by
  funext b
  cases sh <;> cases b <;> simp [AS.setMem, AS.mem, setM]
def AS.push (s : AS) (o : AO) : AS := { s with loc := s.loc ++ [o] }
theorem AS.mem_push (s : AS) (o : AO) : (s.push o).mem = pushM s.mem false o := by
  funext b
  cases b <;> simp [AS.push, AS.mem, pushM]

def AS.get (s : AS) (t : Nat) : AV := (s.t.lookup t).getD .any
def AS.put (s : AS) (d : Option Tmp) (v : AV) : AS := match d with | some d => { s with t := (d, v) :: s.t } | none => s

def ofV : Value → AV
  | .bool b => .bool b
  | .int k n => .int k n
  | .string s => .str s
  | .pointer none => .nilP
  | .slice none 0 0 => .nilS
  | .map none => .nilM
  | .nilFunc => .nilF
  | .nilIface => .nilI
  | _ => .any
def AS.ev (s : AS) : Operand → AV
  | .tmp t => s.get t
  | .const v => ofV v
  | .global _ => .any
  | .func f => .func (.func f) [] []

theorem VR_ofV (c : Cx) (v : Value) : VR c (ofV v) v := by
  unfold ofV
  split <;> first | trivial | (refine ⟨[_], by rw [CR], rfl⟩)

theorem VR_func (c : Cx) (f : FuncId) : VR c (.func (.func f) [] []) (.func (.func f) #[] #[]) := by
  refine ⟨[.func (.func f) #[] #[]], ?_, rfl⟩
  rw [CR]
  exact ⟨[], [], by rw [CRs], by rw [CRs], by simp⟩

/-- The temporaries stand as the state says. -/
def TR (c : Cx) (s : AS) (a : Act) : Prop := ∀ i, VR c (s.get i) (a.tmps.getD i undef)

theorem TR.ev {c : Cx} {s : AS} {a : Act} (h : TR c s a) (x : Operand) : VR c (s.ev x) (a.eval x) := by
  cases x with
  | tmp t => exact h t
  | const v => exact VR_ofV c v
  | global g => trivial
  | func f => exact VR_func c f

theorem TR.mono {c d : Cx} {s : AS} {a : Act} (h : TR c s a) (hle : c.le d) : TR d s a := fun i => VR_mono hle (h i)

theorem TR.put {c : Cx} {s : AS} {a : Act} (h : TR c s a) (d : Option Tmp) {v : AV} {m : Value} (hv : VR c v m) (hd : ∀ t, d = some t → t < a.tmps.size) : TR c (s.put d v) (a.put d m) := by
  cases d with
  | none => exact h
  | some t =>
    intro i
    simp only [AS.put, AS.get, Act.put, List.lookup_cons]
    by_cases e : i = t
    · subst e
      have hi := hd i rfl
      simp [Array.getD_eq_getD_getElem?, hi]
      exact hv
    · have e' : (i == t) = false := by simpa using e
      simp only [e']
      have := h i
      simp only [AS.get] at this
      simp only [Array.getD_eq_getD_getElem?]
      rw [Array.getElem?_setIfInBounds_ne (Ne.symm e)]
      simpa [Array.getD_eq_getD_getElem?] using this

end Go.Abs
/- Operations that only compute. -/
set_option linter.unusedVariables false
set_option linter.unusedSimpArgs false
namespace Go.Abs
open Go.RowKit

/-- An operation that asks nothing of memory. -/
def Pure (P : Program) (o : Oper) (s : AS) (v : AV) : Prop :=
  ∀ (c : Cx) (ρ : Operand → Value), (∀ x ∈ o.op.operands, VR c (s.ev x) (ρ x)) → ∃ m, (execOp ρ o).run P c.w = .ok (.value m) c.w ∧ VR c v m

/-- An operation that reads or turns memory. -/
def Sim (P : Program) (o : Oper) (s : AS) (v : AV) (s' : AS) : Prop :=
  ∀ (c : Cx) (ρ : Operand → Value), MemR c s.mem → (∀ x ∈ o.op.operands, VR c (s.ev x) (ρ x)) →
    ∃ n d, (execOp ρ o).run P c.w = .ok n d.w ∧ ((∃ m, n = .value m ∧ VR d v m) ∨ (n = .skip ∧ v = .any)) ∧ MemR d s'.mem ∧ Step c s.mem d s'.mem

theorem Pure.sim {P : Program} {o : Oper} {s : AS} {v : AV} (h : Pure P o s v) : Sim P o s v s := by
  intro c ρ hM ho
  obtain ⟨m, hr, hv⟩ := h c ρ ho
  exact ⟨_, c, hr, .inl ⟨m, rfl, hv⟩, hM, Step.refl _ _⟩

theorem VR_int {c : Cx} {k : IntKind} {n : Int} {m : Value} (h : VR c (.int k n) m) : m = .int k n := by
  obtain ⟨cs, h, rfl⟩ := h
  rw [CR] at h; subst h; rfl
theorem VR_bool {c : Cx} {b : Bool} {m : Value} (h : VR c (.bool b) m) : m = .bool b := by
  obtain ⟨cs, h, rfl⟩ := h
  rw [CR] at h; subst h; rfl
theorem VR_str {c : Cx} {b : ByteArray} {m : Value} (h : VR c (.str b) m) : m = .string b := by
  obtain ⟨cs, h, rfl⟩ := h
  rw [CR] at h; subst h; rfl
theorem VR_int_mk (c : Cx) (k : IntKind) (n : Int) : VR c (.int k n) (.int k n) := ⟨[_], by rw [CR], rfl⟩
theorem VR_bool_mk (c : Cx) (b : Bool) : VR c (.bool b) (.bool b) := ⟨[_], by rw [CR], rfl⟩
theorem VR_str_mk (c : Cx) (b : ByteArray) : VR c (.str b) (.string b) := ⟨[_], by rw [CR], rfl⟩
theorem VR_ref {c : Cx} {sh : Bool} {j ver : Nat} {p : List Nat} {off : Nat} {m : Value} (h : VR c (.ref sh j ver p off) m) : ∃ ad cap, c.lam sh j ver = some (some ad, cap) ∧ m = .pointer (some (ad.add off)) := by
  obtain ⟨cs, h, rfl⟩ := h
  rw [CR] at h
  obtain ⟨ad, cap, h, rfl⟩ := h
  exact ⟨ad, cap, h, rfl⟩
theorem VR_own {c : Cx} {sh : Bool} {j ver : Nat} {m : Value} (h : VR c (.own sh j ver) m) : ∃ a cap, c.lam sh j ver = some (a, cap) ∧ ((a = none → ver = 0) ∧ ver ≤ cap) ∧ m = .slice a ver cap := by
  obtain ⟨cs, h, rfl⟩ := h
  rw [CR] at h
  obtain ⟨ad, cap, h, h0, rfl⟩ := h
  exact ⟨ad, cap, h, h0, rfl⟩
theorem VR_pin {c : Cx} {v : AV} {m : Value} (h : VR c (.pin v) m) : ∃ ad xs, CR c v xs ∧ m = .pointer (some ad) ∧ c.Fz ad.block ∧ ∀ (k : Nat) (u : Value), xs[k]? = some u → c.w.cell? (ad.add k) = some u := by
  obtain ⟨cs, h, rfl⟩ := h
  rw [CR] at h
  obtain ⟨ad, xs, h1, rfl, h2⟩ := h
  exact ⟨ad, xs, h1, rfl, h2⟩
theorem VR_lit {c : Cx} {sz : Nat} {vs : List AV} {m : Value} (h : VR c (.lit sz vs) m) : ∃ a cap css, (∀ v ∈ vs, v.size = sz) ∧ CRs c vs css ∧ m = .slice a vs.length cap ∧ vs.length ≤ cap ∧ cap ≤ maxLen ∧ (vs ≠ [] → ∃ ad, a = some ad ∧ c.Fz ad.block ∧ ∀ (k : Nat) (u : Value), css.flatten[k]? = some u → c.w.cell? (ad.add k) = some u) := by
  obtain ⟨cs, h, rfl⟩ := h
  rw [CR] at h
  obtain ⟨h0, a, cap, css, h1, rfl, h2⟩ := h
  exact ⟨a, cap, css, h0, h1, rfl, h2⟩

/-! ### Moves -/
theorem pure_move {P : Program} {o : Oper} {s : AS} {x : Operand} (h : o.op = .move x) : Pure P o s (s.ev x) := by
  intro c ρ ho
  refine ⟨ρ x, ?_, ho x (by simp [h, Op.operands])⟩
  simp [execOp, h]
theorem pure_assign {P : Program} {o : Oper} {s : AS} {x : Operand} (h : o.op = .assign x) : Pure P o s (s.ev x) := by
  intro c ρ ho
  refine ⟨ρ x, ?_, ho x (by simp [h, Op.operands])⟩
  simp [execOp, h]
theorem pure_pick {P : Program} {o : Oper} {s : AS} {q x y : Operand} {b : Bool} (h : o.op = .pick q x y) (hq : s.ev q = .bool b) : Pure P o s (s.ev (if b then x else y)) := by
  intro c ρ ho
  have h1 := ho q (by simp [h, Op.operands])
  rw [hq] at h1
  have h1 := VR_bool h1
  have hx := ho x (by simp [h, Op.operands])
  have hy := ho y (by simp [h, Op.operands])
  refine ⟨ρ (if b then x else y), ?_, by cases b <;> simpa⟩
  cases b <;> simp [execOp, h, h1, asBool]

/-! ### Numbers, bools, strings -/
def intBin (op : BinOp) (k : IntKind) (x y : Int) : Option AV :=
  match op with
  | .add => some (.int k (k.wrap (x + y)))
  | .sub => some (.int k (k.wrap (x - y)))
  | .mul => some (.int k (k.wrap (x * y)))
  | .quo => if y = 0 then none else some (.int k (k.wrap (x.tdiv y)))
  | .rem => if y = 0 then none else some (.int k (x.tmod y))
  | .eql => some (.bool (x == y))
  | .neq => some (.bool (x != y))
  | .lss => some (.bool (decide (x < y)))
  | .leq => some (.bool (decide (x ≤ y)))
  | .gtr => some (.bool (decide (x > y)))
  | .geq => some (.bool (decide (x ≥ y)))
  | .and => some (.int k (k.wrap ((BitVec.ofInt k.bits x &&& BitVec.ofInt k.bits y).toNat : Nat)))
  | .shr => if y < 0 then none else some (.int k (x.fdiv (2 ^ (min y.toNat k.bits))))
  | _ => none
def strBin (op : BinOp) (x y : ByteArray) : Option AV :=
  match op with
  | .add => if ((x.size + y.size : Nat) : Int) ≤ 9223372036854775807 then some (.str (x ++ y)) else none
  | .eql => some (.bool (x.toList == y.toList))
  | .neq => some (.bool !(x.toList == y.toList))
  | _ => none
def binV (op : BinOp) (a b : AV) : Option AV :=
  match a, b with
  | .int k x, .int k' y => if k = k' then intBin op k x y else none
  | .str x, .str y => strBin op x y
  | _, _ => none

theorem pure_int {P : Program} {o : Oper} {s : AS} {op : BinOp} {t yt : TypeId} {x y : Operand} {k : IntKind} {a b : Int} {v : AV} (h : o.op = .binOp op t x y yt) (hx : s.ev x = .int k a) (hy : s.ev y = .int k b) (hv : intBin op k a b = some v) : Pure P o s v := by
  intro c ρ ho
  have h1 := ho x (by simp [h, Op.operands])
  have h2 := ho y (by simp [h, Op.operands])
  rw [hx] at h1
  rw [hy] at h2
  have h1 := VR_int h1
  have h2 := VR_int h2
  have hg : (eqGuard op t x y (.int k a) (.int k b)).run P c.w = .ok () c.w := by
    unfold eqGuard
    cases op <;> simp [Sem.run_ite]
  cases op <;> simp only [intBin] at hv
  case add => cases hv; exact ⟨_, by simp [execOp, h, h1, h2, hg, binOp, Op.intArith], VR_int_mk _ _ _⟩
  case sub => cases hv; exact ⟨_, by simp [execOp, h, h1, h2, hg, binOp, Op.intArith], VR_int_mk _ _ _⟩
  case mul => cases hv; exact ⟨_, by simp [execOp, h, h1, h2, hg, binOp, Op.intArith], VR_int_mk _ _ _⟩
  case quo =>
    split at hv
    · cases hv
    · rename_i hb; cases hv; exact ⟨_, by simp [execOp, h, h1, h2, hg, binOp, Op.intDiv, hb], VR_int_mk _ _ _⟩
  case rem =>
    split at hv
    · cases hv
    · rename_i hb; cases hv; exact ⟨_, by simp [execOp, h, h1, h2, hg, binOp, Op.intDiv, hb], VR_int_mk _ _ _⟩
  case eql => cases hv; exact ⟨_, by simp [execOp, h, h1, h2, hg, binOp, Op.intCmp], VR_bool_mk _ _⟩
  case neq => cases hv; exact ⟨_, by simp [execOp, h, h1, h2, hg, binOp, Op.intCmp], VR_bool_mk _ _⟩
  case lss => cases hv; exact ⟨_, by simp [execOp, h, h1, h2, hg, binOp, Op.intCmp], VR_bool_mk _ _⟩
  case leq => cases hv; exact ⟨_, by simp [execOp, h, h1, h2, hg, binOp, Op.intCmp], VR_bool_mk _ _⟩
  case gtr => cases hv; exact ⟨_, by simp [execOp, h, h1, h2, hg, binOp, Op.intCmp], VR_bool_mk _ _⟩
  case geq => cases hv; exact ⟨_, by simp [execOp, h, h1, h2, hg, binOp, Op.intCmp], VR_bool_mk _ _⟩
  case and => cases hv; exact ⟨_, by simp [execOp, h, h1, h2, hg, binOp, Op.intBits], VR_int_mk _ _ _⟩
  case shr =>
    split at hv
    · cases hv
    · rename_i hb; cases hv; exact ⟨_, by simp [execOp, h, h1, h2, hg, binOp, Op.shift, hb], VR_int_mk _ _ _⟩
  all_goals cases hv

theorem pure_str {P : Program} {o : Oper} {s : AS} {op : BinOp} {t yt : TypeId} {x y : Operand} {a b : ByteArray} {v : AV} (h : o.op = .binOp op t x y yt) (hx : s.ev x = .str a) (hy : s.ev y = .str b) (hv : strBin op a b = some v) : Pure P o s v := by
  intro c ρ ho
  have h1 := ho x (by simp [h, Op.operands])
  have h2 := ho y (by simp [h, Op.operands])
  rw [hx] at h1
  rw [hy] at h2
  have h1 := VR_str h1
  have h2 := VR_str h2
  have hg : (eqGuard op t x y (.string a) (.string b)).run P c.w = .ok () c.w := by
    unfold eqGuard
    cases op <;> simp [Sem.run_ite]
  cases op <;> simp only [strBin] at hv
  case add =>
    split at hv
    · rename_i hle
      cases hv
      have hn : ¬ (IntKind.i64.max < (a.size : Int) + (b.size : Int)) := by
        have : IntKind.i64.max = 9223372036854775807 := by decide
        omega
      refine ⟨.string (a ++ b), ?_, VR_str_mk _ _⟩
      simp [execOp, h, h1, h2, hg, binOp, Op.stringOp, hn]
      omega
    · cases hv
  case eql => cases hv; exact ⟨_, by simp [execOp, h, h1, h2, hg, binOp, Op.stringOp], VR_bool_mk _ _⟩
  case neq => cases hv; exact ⟨_, by simp [execOp, h, h1, h2, hg, binOp, Op.stringOp], VR_bool_mk _ _⟩
  all_goals cases hv

theorem pure_bin {P : Program} {o : Oper} {s : AS} {op : BinOp} {t yt : TypeId} {x y : Operand} {v : AV} (h : o.op = .binOp op t x y yt) (hv : binV op (s.ev x) (s.ev y) = some v) : Pure P o s v := by
  unfold binV at hv
  split at hv
  · rename_i k a k' b e1 e2
    split at hv
    · rename_i e
      subst e
      exact pure_int h e1 e2 hv
    · cases hv
  · rename_i e1 e2
    exact pure_str h e1 e2 hv
  · cases hv

def unV (op : UnOp) : AV → Option AV
  | .int k n => match op with | .neg => some (.int k (k.wrap (0 - n))) | _ => none
  | .bool b => match op with | .not => some (.bool !b) | _ => none
  | _ => none
theorem pure_un {P : Program} {o : Oper} {s : AS} {op : UnOp} {t : TypeId} {x : Operand} {v : AV} (h : o.op = .unOp op t x) (hv : unV op (s.ev x) = some v) : Pure P o s v := by
  intro c ρ ho
  have h1 := ho x (by simp [h, Op.operands])
  unfold unV at hv
  split at hv
  · rename_i k n e
    rw [e] at h1
    have h1 := VR_int h1
    cases op <;> simp at hv
    subst hv
    exact ⟨_, by simp [execOp, h, h1, Op.unary, Op.intArith], VR_int_mk _ _ _⟩
  · rename_i b e
    rw [e] at h1
    have h1 := VR_bool h1
    cases op <;> simp at hv
    subst hv
    exact ⟨_, by simp [execOp, h, h1, Op.unary], VR_bool_mk _ _⟩
  · cases hv

/-- A whole number to another kind. -/
theorem pure_conv {P : Program} {o : Oper} {s : AS} {src dst : TypeId} {x : Operand} {k k' : IntKind} {n : Int} (h : o.op = .convert src dst x) (hx : s.ev x = .int k n) (h0 : ∃ d, P.underlying src = some d) (h1 : P.underlying dst = some (.int k')) : Pure P o s (.int k' (k'.wrap n)) := by
  intro c ρ ho
  have h2 := ho x (by simp [h, Op.operands])
  rw [hx] at h2
  have h2 := VR_int h2
  obtain ⟨d, h0⟩ := h0
  refine ⟨.int k' (k'.wrap n), ?_, VR_int_mk _ _ _⟩
  cases d <;> simp [execOp, h, h2, convert, und_run h0, und_run h1, Conv.intToInt]

end Go.Abs
/- Places, fields, indices; memory read and written. -/
set_option linter.unusedVariables false
set_option linter.unusedSimpArgs false
namespace Go.Abs
open Go.RowKit

theorem VR_of_CR {c : Cx} {u : AV} {xs : List Value} (h : CR c u xs) : VR c u (vOf u xs) := by
  cases u with
  | any => trivial
  | tup vs => rw [CR] at h; exact h.elim
  | _ => exact ⟨xs, h, rfl⟩

theorem part_run {P : Program} {c : Cx} {v u : AV} {cs : List Value} {p : List Nat} {off : Nat} {t : TypeId} (h : CR c v cs) (hs : v.sub p = some (u, off)) (ha : aggT P t = some u.isAgg) (hz : (P.info? t).map (·.size) = some u.size) (w : World) :
    ∃ xs, (part t cs.toArray off).run P w = .ok (vOf u xs) w ∧ CR c u xs := by
  obtain ⟨pre, xs, post, rfl, hl, hx⟩ := sub_cells p h hs
  refine ⟨xs, ?_, hx⟩
  have hxl := CR_len c u xs hx
  cases hg : u.isAgg with
  | true =>
    simp [part, agg_run ha, hg, size_run hz, vOf]
    subst hl
    rw [List.drop_left, ← hxl, List.take_left]
  | false =>
    obtain ⟨m, rfl, _⟩ := CR_one hg hx
    simp [part, agg_run ha, hg, vOf]
    subst hl
    simp

theorem fi_get {P : Program} : ∀ {l : List Field} {is : List FI} {i : Nat} {fi : FI}, fiChk P l is = true → is[i]? = some fi → ∃ f, l[i]? = some f ∧ f.offset = fi.off ∧ (P.info? f.type).map (·.size) = some fi.size ∧ aggT P f.type = some fi.agg := by
  intro l
  induction l with
  | nil => intro is i fi h1 h2; cases is with | nil => simp at h2 | cons _ _ => simp [fiChk] at h1
  | cons f l ih =>
    intro is i fi h1 h2
    cases is with
    | nil => simp at h2
    | cons a is =>
      simp only [fiChk, Bool.and_eq_true, beq_iff_eq] at h1
      cases i with
      | zero => simp at h2; subst h2; exact ⟨f, rfl, h1.1.1.1, h1.1.1.2, h1.1.2⟩
      | succ i => simp at h2; obtain ⟨g, hg, hh⟩ := ih h1.2 h2; exact ⟨g, by simpa using hg, hh⟩
theorem k_struct {P : Program} {t : TypeId} {fs : List FI} (hk : kChk P t (.struct fs) = true) : ∃ arr, P.underlying t = some (.struct arr) ∧ fiChk P arr.toList fs = true := by
  simp only [kChk] at hk
  split at hk
  · rename_i arr hu; exact ⟨arr, hu, hk⟩
  · cases hk
theorem k_array {P : Program} {t : TypeId} {n esz : Nat} {ea : Bool} (hk : kChk P t (.array n esz ea) = true) : ∃ e, P.underlying t = some (.array n e) ∧ (P.info? e).map (·.size) = some esz ∧ aggT P e = some ea := by
  simp only [kChk] at hk
  split at hk
  · rename_i m e hu
    simp only [Bool.and_eq_true, beq_iff_eq] at hk
    obtain ⟨⟨rfl, h1⟩, h2⟩ := hk
    exact ⟨e, hu, h1, h2⟩
  · cases hk
theorem k_slice {P : Program} {t : TypeId} {esz : Nat} {e : TypeId} (hk : kChk P t (.slice esz e) = true) : P.underlying t = some (.slice e) ∧ (P.info? e).map (·.size) = some esz := by
  simp only [kChk] at hk
  split at hk
  · rename_i e' hu
    simp only [Bool.and_eq_true, beq_iff_eq] at hk
    obtain ⟨rfl, h1⟩ := hk
    exact ⟨hu, h1⟩
  · cases hk

theorem k_int {P : Program} {t : TypeId} {k : IntKind} (hk : kChk P t (.int k) = true) : P.underlying t = some (.int k) := by
  simp only [kChk] at hk
  split at hk
  · rename_i k' hu; simp at hk; subst hk; exact hu
  · cases hk
theorem k_string {P : Program} {t : TypeId} (hk : kChk P t .string = true) : P.underlying t = some .string := by
  simp only [kChk] at hk
  split at hk
  · rename_i hu; exact hu
  · cases hk
theorem solid_of_agg {v : AV} (h : v.isAgg = true) : v.solid = true := by cases v <;> simp_all [AV.isAgg, AV.solid]
theorem VR_agg {c : Cx} {v : AV} {m : Value} (ha : v.isAgg = true) (h : VR c v m) : ∃ cs, CR c v cs ∧ m = .agg cs.toArray := by
  obtain ⟨cs, h2, hm⟩ := (VR_solid (solid_of_agg ha)).1 h
  exact ⟨cs, h2, by rw [hm]; simp [vOf, ha]⟩

theorem pure_field {P : Program} {o : Oper} {s : AS} {t : TypeId} {x : Operand} {j : Nat} {fs : List FI} {f : FI} {u : AV} (h : o.op = .field t x j) (hk : kChk P t (.struct fs) = true) (ha : (s.ev x).isAgg = true) (hs : (s.ev x).sub [j] = some (u, f.off))
    (hf : fs[j]? = some f) (hz : f.size = u.size) (hg : f.agg = u.isAgg) : Pure P o s u := by
  intro c ρ ho
  obtain ⟨cs, h2, hm⟩ := VR_agg ha (ho x (by simp [h, Op.operands]))
  obtain ⟨arr, hu, hc⟩ := k_struct hk
  obtain ⟨fl, hfl, f1, f2, f3⟩ := fi_get hc hf
  have hfl' : arr[j]? = some fl := by simpa using hfl
  obtain ⟨xs, hr, hx⟩ := part_run (P := P) h2 hs (t := fl.type) (by rw [f3, hg]) (by rw [f2, hz]) c.w
  refine ⟨vOf u xs, ?_, VR_of_CR hx⟩
  simp [execOp, h, hm, Instr.field, und_run hu, hfl', asAgg]
  rw [f1, hr]
  simp

theorem pure_index {P : Program} {o : Oper} {s : AS} {t : TypeId} {x y : Operand} {n esz : Nat} {ea : Bool} {k : IntKind} {i : Int} {u : AV} (h : o.op = .index t x y) (hk : kChk P t (.array n esz ea) = true) (ha : (s.ev x).isAgg = true) (hy : s.ev y = .int k i) (h0 : 0 ≤ i) (h1 : i < n)
    (hs : (s.ev x).sub [i.toNat] = some (u, i.toNat * esz)) (hz : esz = u.size) (hg : ea = u.isAgg) : Pure P o s u := by
  intro c ρ ho
  obtain ⟨cs, h2, hm⟩ := VR_agg ha (ho x (by simp [h, Op.operands]))
  have h3 := ho y (by simp [h, Op.operands])
  rw [hy] at h3
  have h3 := VR_int h3
  obtain ⟨e, hu, he, hea⟩ := k_array hk
  obtain ⟨xs, hr, hx⟩ := part_run (P := P) h2 hs (t := e) (by rw [hea, hg]) (by rw [he, hz]) c.w
  refine ⟨vOf u xs, ?_, VR_of_CR hx⟩
  simp [execOp, h, hm, h3, Instr.index, und_run hu, asIntOf, h0, h1, size_run he, hr]

theorem pure_indexStr {P : Program} {o : Oper} {s : AS} {t : TypeId} {x y : Operand} {k : IntKind} {i : Int} {b : ByteArray} {u : UInt8} (h : o.op = .index t x y) (hk : kChk P t .string = true) (hx : s.ev x = .str b) (hy : s.ev y = .int k i) (h0 : 0 ≤ i) (hu : b[i.toNat]? = some u) : Pure P o s (.int .u8 u.toNat) := by
  intro c ρ ho
  have h2 := ho x (by simp [h, Op.operands])
  rw [hx] at h2
  have h2 := VR_str h2
  have h3 := ho y (by simp [h, Op.operands])
  rw [hy] at h3
  have h3 := VR_int h3
  refine ⟨.int .u8 u.toNat, ?_, VR_int_mk _ _ _⟩
  simp [execOp, h, h2, h3, Instr.index, und_run (k_string hk), asIntOf, h0, hu]

theorem pure_extract {P : Program} {o : Oper} {s : AS} {x : Operand} {j : Nat} {vs : List AV} {u : AV} (h : o.op = .extract x j) (hx : s.ev x = .tup vs) (hj : vs[j]? = some u) : Pure P o s u := by
  intro c ρ ho
  have h1 := ho x (by simp [h, Op.operands])
  rw [hx] at h1
  obtain ⟨ms, hm, hl, hi⟩ := h1
  have hlt := (List.getElem?_eq_some_iff.1 hj).1
  have hmj : ms[j]? = some (ms[j]'(by omega)) := List.getElem?_eq_getElem (by omega)
  refine ⟨ms[j]'(by omega), ?_, ?_⟩
  · simp [execOp, h, hm, Instr.extract, hmj]
  · rcases hi j u _ hj hmj with rfl | ⟨cs, hc, e⟩
    · trivial
    · rw [e]; exact VR_of_CR hc

theorem pure_fieldAddr {P : Program} {o : Oper} {s : AS} {t : TypeId} {x : Operand} {j : Nat} {fs : List FI} {f : FI} {sh : Bool} {i ver : Nat} {p : List Nat} {off : Nat} (h : o.op = .fieldAddr t x j) (hk : kChk P t (.struct fs) = true) (hx : s.ev x = .ref sh i ver p off)
    (hf : fs[j]? = some f) (hz : f.size ≠ 0) : Pure P o s (.ref sh i ver (p ++ [j]) (off + f.off)) := by
  intro c ρ ho
  have h1 := ho x (by simp [h, Op.operands])
  rw [hx] at h1
  obtain ⟨ad, cap, hl, hm⟩ := VR_ref h1
  obtain ⟨arr, hu, hc⟩ := k_struct hk
  obtain ⟨fl, hfl, f1, f2, f3⟩ := fi_get hc hf
  have hfl' : arr[j]? = some fl := by simpa using hfl
  refine ⟨.pointer (some (ad.add (off + f.off))), ?_, ⟨[_], ?_, rfl⟩⟩
  · simp [execOp, h, hm, Instr.fieldAt, und_run hu, hfl', Instr.sureAddr, fieldPlace, size_run f2, hz, f1, add_add]
  · rw [CR]; exact ⟨ad, cap, hl, rfl⟩

theorem pure_fieldPin {P : Program} {o : Oper} {s : AS} {t : TypeId} {x : Operand} {j : Nat} {fs : List FI} {f : FI} {v u : AV} (h : o.op = .fieldAddr t x j) (hk : kChk P t (.struct fs) = true) (hx : s.ev x = .pin v)
    (hf : fs[j]? = some f) (hz : f.size ≠ 0) (hs : v.sub [j] = some (u, f.off)) : Pure P o s (.pin u) := by
  intro c ρ ho
  have h1 := ho x (by simp [h, Op.operands])
  rw [hx] at h1
  obtain ⟨ad, xs, hv, hm, hfz, hmem⟩ := VR_pin h1
  obtain ⟨arr, hu, hc⟩ := k_struct hk
  obtain ⟨fl, hfl, f1, f2, f3⟩ := fi_get hc hf
  have hfl' : arr[j]? = some fl := by simpa using hfl
  obtain ⟨pre, ys, post, rfl, hlen, hr⟩ := sub_cells [j] hv hs
  refine ⟨.pointer (some (ad.add f.off)), ?_, ⟨[_], ?_, rfl⟩⟩
  · simp [execOp, h, hm, Instr.fieldAt, und_run hu, hfl', Instr.sureAddr, fieldPlace, size_run f2, hz, f1]
  · rw [CR]
    refine ⟨ad.add f.off, ys, hr, rfl, by rw [block_add]; exact hfz, ?_⟩
    intro k u hu
    have hk := (List.getElem?_eq_some_iff.1 hu).1
    rw [add_add]
    refine hmem _ u ?_
    rw [List.append_assoc, List.getElem?_append_right (by omega), ← hlen, Nat.add_sub_cancel_left, List.getElem?_append_left hk]
    exact hu

theorem pure_indexLit {P : Program} {o : Oper} {s : AS} {t e : TypeId} {x y : Operand} {esz : Nat} {vs : List AV} {k : IntKind} {i : Int} {u : AV} (h : o.op = .indexAddr t x y) (hk : kChk P t (.slice esz e) = true) (hx : s.ev x = .lit esz vs) (hy : s.ev y = .int k i) (h0 : 0 ≤ i)
    (hs : vs[i.toNat]? = some u) : Pure P o s (.pin u) := by
  intro c ρ ho
  have h1 := ho x (by simp [h, Op.operands])
  rw [hx] at h1
  have h3 := ho y (by simp [h, Op.operands])
  rw [hy] at h3
  have h3 := VR_int h3
  obtain ⟨a, cap, css, hz, hc, hm, h4, h5, h6⟩ := VR_lit h1
  obtain ⟨hu, he⟩ := k_slice hk
  have hi := (List.getElem?_eq_some_iff.1 hs).1
  obtain ⟨ad, rfl, hfz, hmem⟩ := h6 (by rintro rfl; simp at hi)
  obtain ⟨xs, hxs, hcx⟩ := CRs_get hc hs
  have hlt : i < (vs.length : Int) := by omega
  refine ⟨.pointer (some (ad.add (i.toNat * esz))), ?_, ⟨[_], ?_, rfl⟩⟩
  · simp [execOp, h, hm, h3, Instr.indexAt, und_run hu, asIntOf, h0, hlt, size_run he]
  · rw [CR]
    refine ⟨_, xs, hcx, rfl, by rw [block_add]; exact hfz, ?_⟩
    intro j v hv
    have hj := (List.getElem?_eq_some_iff.1 hv).1
    rw [add_add]
    refine hmem _ v ?_
    have hl := take_len_same hc hz (Nat.le_of_lt hi)
    rw [flatten_split hxs, List.append_assoc, List.getElem?_append_right (by omega), hl, Nat.add_sub_cancel_left, List.getElem?_append_left hj]
    exact hv

theorem pure_indexOwn {P : Program} {o : Oper} {s : AS} {t e : TypeId} {x y : Operand} {esz : Nat} {sh : Bool} {j ver : Nat} {k : IntKind} {i : Int} (h : o.op = .indexAddr t x y) (hk : kChk P t (.slice esz e) = true) (hx : s.ev x = .own sh j ver) (hy : s.ev y = .int k i) (h0 : 0 ≤ i) (h1 : i < ver) :
    Pure P o s (.ref sh j ver [i.toNat] (i.toNat * esz)) := by
  intro c ρ ho
  have h2 := ho x (by simp [h, Op.operands])
  rw [hx] at h2
  have h3 := ho y (by simp [h, Op.operands])
  rw [hy] at h3
  have h3 := VR_int h3
  obtain ⟨a, cap, hl, hn, hm⟩ := VR_own h2
  obtain ⟨hu, he⟩ := k_slice hk
  cases a with
  | none => have := hn.1 rfl; omega
  | some ad =>
    refine ⟨.pointer (some (ad.add (i.toNat * esz))), ?_, ⟨[_], ?_, rfl⟩⟩
    · simp [execOp, h, hm, h3, Instr.indexAt, und_run hu, asIntOf, h0, h1, size_run he]
    · rw [CR]; exact ⟨ad, cap, hl, rfl⟩

theorem pure_indexArr {P : Program} {o : Oper} {s : AS} {t : TypeId} {x y : Operand} {n esz : Nat} {ea : Bool} {sh : Bool} {j ver : Nat} {p : List Nat} {off : Nat} {k : IntKind} {i : Int} (h : o.op = .indexAddr t x y) (hk : kChk P t (.array n esz ea) = true) (hx : s.ev x = .ref sh j ver p off) (hy : s.ev y = .int k i) (h0 : 0 ≤ i) (h1 : i < n) :
    Pure P o s (.ref sh j ver (p ++ [i.toNat]) (off + i.toNat * esz)) := by
  intro c ρ ho
  have h2 := ho x (by simp [h, Op.operands])
  rw [hx] at h2
  have h3 := ho y (by simp [h, Op.operands])
  rw [hy] at h3
  have h3 := VR_int h3
  obtain ⟨ad, cap, hl, hm⟩ := VR_ref h2
  obtain ⟨e, hu, he, hea⟩ := k_array hk
  refine ⟨.pointer (some (ad.add (off + i.toNat * esz))), ?_, ⟨[_], ?_, rfl⟩⟩
  · simp [execOp, h, hm, h3, Instr.indexAt, und_run hu, asIntOf, h0, h1, size_run he, Instr.sureAddr, add_add]
  · rw [CR]; exact ⟨ad, cap, hl, rfl⟩

theorem pure_func {P : Program} {o : Oper} {s : AS} {fn : Fn} {caps : Array Operand} (h : o.op = .makeFunc fn #[] caps) (hs : ∀ x ∈ caps, (s.ev x).solid = true) : Pure P o s (.func fn [] (caps.toList.map s.ev)) := by
  intro c ρ ho
  have h1 : ∀ x ∈ caps.toList, VR1 c (s.ev x) (ρ x) := fun x hx => (VR_solid (hs x (by simpa using hx))).1 (ho x (by simp [h, Op.operands]; simpa using hx))
  have key : ∀ l : List Operand, (∀ x ∈ l, VR1 c (s.ev x) (ρ x)) → ∃ gs, CRs c (l.map s.ev) gs ∧ ((l.map s.ev).zip gs).map (fun p => vOf p.1 p.2) = l.map ρ := by
    intro l
    induction l with
    | nil => intro _; exact ⟨[], by rw [List.map_nil, CRs], rfl⟩
    | cons x l ih =>
      intro hl
      obtain ⟨gs, h2, h3⟩ := ih (fun y hy => hl y (List.mem_cons_of_mem _ hy))
      obtain ⟨cs, h4, h5⟩ := hl x List.mem_cons_self
      refine ⟨cs :: gs, ?_, ?_⟩
      · rw [List.map_cons, CRs]; exact ⟨cs, gs, rfl, h4, h2⟩
      · simp [h3, h5]
  obtain ⟨gs, h2, h3⟩ := key caps.toList h1
  refine ⟨.func fn #[] (caps.map ρ), ?_, ⟨[_], ?_, rfl⟩⟩
  · simp [execOp, h, Instr.makeFunc]
  · rw [CR]
    refine ⟨[], gs, by rw [CRs], h2, ?_⟩
    rw [h3]
    cases caps
    simp

end Go.Abs
/- Making, loading, storing. -/
set_option linter.unusedVariables false
set_option linter.unusedSimpArgs false
namespace Go.Abs
open Go.RowKit

theorem mem_len_false (s : AS) : (s.mem false).length = s.loc.length := by simp [AS.mem]

/-- An operation that makes one new private object, and nothing else. -/
def SimA (P : Program) (o : Oper) (s : AS) (v : AV) (ob : AO) : Prop :=
  ∀ (c : Cx) (ρ : Operand → Value), MemR c s.mem → (∀ x ∈ o.op.operands, VR c (s.ev x) (ρ x)) →
    ∃ m d pl, (execOp ρ o).run P c.w = .ok (.value m) d.w ∧ VR d v m ∧ MemR d (s.push ob).mem ∧ Step c s.mem d (s.push ob).mem ∧ d.lam = updL c.lam false s.loc.length ob.ver pl ∧ d.Fz = c.Fz ∧ Turn c.w d.w (fun _ => False)
theorem SimA.sim {P : Program} {o : Oper} {s : AS} {v : AV} {ob : AO} (h : SimA P o s v ob) : Sim P o s v (s.push ob) := by
  intro c ρ hM ho
  obtain ⟨m, d, pl, h1, h2, h3, h4, _⟩ := h c ρ hM ho
  exact ⟨_, d, h1, .inl ⟨m, rfl, h2⟩, h3, h4⟩

/-- A new private variable. -/
theorem new_cell {c : Cx} {s : AS} (hM : MemR c s.mem) {v : AV} {cs : List Value} (hv : CR c v cs) (t : TypeId) :
    ∃ d : Cx, d.w = c.w.alloc (.cells cs.toArray t) ∧ MemR d (s.push (.cell v)).mem ∧ Step c s.mem d (s.push (.cell v)).mem ∧ d.lam = updL c.lam false s.loc.length 0 (some ⟨c.w.heap.size, 0, none⟩, 0) ∧ d.Fz = c.Fz ∧ Turn c.w d.w (fun _ => False) := by
  have ht := Turn.alloc c.w (.cells cs.toArray t) (fun _ => False)
  have h := push_obj hM false (o := .cell v) (pl := (some ⟨c.w.heap.size, 0, none⟩, 0)) ht ?_ (fun _ a ha => by cases ha; exact Nat.le_refl _)
  · rw [AS.mem_push]
    exact ⟨_, rfl, h.1, h.2, rfl, rfl, ht⟩
  · refine ⟨c.w.heap.size, t, cs, rfl, ?_, heap_alloc_new _ _⟩
    have hle : c.le ⟨c.w.alloc (.cells cs.toArray t), c.Fz, updL c.lam false (s.mem false).length (AO.cell v).ver (some ⟨c.w.heap.size, 0, none⟩, 0)⟩ := by
      refine ⟨fun _ h => h, fun m hm => ht.same m (hM.fzl m hm) (fun h => h), fun sh j ver q hq => updL_le (fun p hp => ?_) hq⟩
      obtain ⟨x, hx, _⟩ := hM.dom _ _ _ _ hp
      have := getlt hx
      omega
    exact CR_mono hle _ _ hv

theorem sima_alloc {x : X} {o : Oper} {s : AS} {t : TypeId} {i : TI} (h : o.op = .alloc t) (hi : x.ti t = some i) : SimA x.P o s (.ref false s.loc.length 0 [] 0) (.cell i.zero) := by
  intro c ρ hM ho
  obtain ⟨inf, z, h1, h2, h3, h4, cs, h5, h6, h7⟩ := (tok x hi).inf
  obtain ⟨d, hd, k1, k2, k3, k4⟩ := new_cell hM (plain_CR c _ _ h5) t
  refine ⟨.pointer (some ⟨c.w.heap.size, 0, none⟩), d, _, ?_, ⟨[_], ?_, rfl⟩, k1, k2, k3, k4⟩
  · have hz : z.cells = cs.toArray := by rw [← h7]
    simp [execOp, h, Instr.alloc, zero_run h1 h4, newVar, newRow, hz, hd]
  · rw [CR]; exact ⟨_, _, by rw [k3]; exact updL_same _ _ _ _ _, rfl⟩
theorem sim_alloc {x : X} {o : Oper} {s : AS} {t : TypeId} {i : TI} (h : o.op = .alloc t) (hi : x.ti t = some i) : Sim x.P o s (.ref false s.loc.length 0 [] 0) (s.push (.cell i.zero)) := (sima_alloc h hi).sim

theorem sima_box {P : Program} {o : Oper} {s : AS} {t : TypeId} {y : Operand} (h : o.op = .box t y) (hs : (s.ev y).solid = true) : SimA P o s (.ref false s.loc.length 0 [] 0) (.cell (s.ev y)) := by
  intro c ρ hM ho
  obtain ⟨hc, hm⟩ := VR1_cells ((VR_solid hs).1 (ho y (by simp [h, Op.operands])))
  obtain ⟨d, hd, k1, k2, k3, k4⟩ := new_cell hM hc t
  refine ⟨.pointer (some ⟨c.w.heap.size, 0, none⟩), d, _, ?_, ⟨[_], ?_, rfl⟩, k1, k2, k3, k4⟩
  · simp [execOp, h, Instr.box, newVar, newRow, hd]
  · rw [CR]; exact ⟨_, _, by rw [k3]; exact updL_same _ _ _ _ _, rfl⟩
theorem sim_box {P : Program} {o : Oper} {s : AS} {t : TypeId} {y : Operand} (h : o.op = .box t y) (hs : (s.ev y).solid = true) : Sim P o s (.ref false s.loc.length 0 [] 0) (s.push (.cell (s.ev y))) := (sima_box h hs).sim

/-- The object behind a reference; one that has moved is found where it lies now. -/
def AS.find (s : AS) (sh : Bool) (j ver : Nat) : Option (Bool × Nat × AO) :=
  match (s.mem sh)[j]? with
  | some (.fwd k) => if ver = 0 then match s.H[k]? with | some (.cell v) => some (true, k, .cell v) | _ => none else none
  | some ob => if ob.ver = ver then some (sh, j, ob) else none
  | none => none

theorem find_spec {c : Cx} {s : AS} (hM : MemR c s.mem) {sh sh' : Bool} {j j' ver : Nat} {ob : AO} (h : s.find sh j ver = some (sh', j', ob)) {pl : Option Addr × Nat} (hl : c.lam sh j ver = some pl) :
    (s.mem sh')[j']? = some ob ∧ c.lam sh' j' ob.ver = some pl := by
  unfold AS.find at h
  split at h
  · rename_i k hk
    split at h
    · rename_i hv
      subst hv
      split at h
      · rename_i v hv
        cases h
        have h2 := hM.obj sh j _ pl hk hl
        exact ⟨hv, h2⟩
      · cases h
    · cases h
  · rename_i o _ hk
    split at h
    · rename_i hv
      cases h
      rw [hv]
      exact ⟨hk, hl⟩
    · cases h
  · cases h

theorem loadVar_run {P : Program} {c : Cx} {u : AV} {xs : List Value} {ad : Addr} {t : TypeId} {w : World} (hx : CR c u xs) (hmem : ∀ (k : Nat) (v : Value), xs[k]? = some v → w.cell? (ad.add k) = some v) (ha : aggT P t = some u.isAgg) (hz : (P.info? t).map (·.size) = some u.size) :
    (loadVar t ad).run P w = .ok (vOf u xs) w := by
  have hl := CR_len c u xs hx
  cases hg : u.isAgg with
  | true =>
    have hr := run_loadCells_list (P := P) (w := w) ad xs hmem
    rw [hl] at hr
    simp [loadVar, agg_run ha, hg, size_run hz, hr, vOf]
  | false =>
    obtain ⟨m, rfl, _⟩ := CR_one hg hx
    have h0 := hmem 0 m rfl
    have e : ad.add 0 = ad := by simp [Addr.add]
    rw [e] at h0
    simp [loadVar, agg_run ha, hg, vOf, run_load, h0]

theorem sim_load {P : Program} {o : Oper} {s : AS} {t : TypeId} {y : Operand} {sh sh' : Bool} {j j' ver : Nat} {p : List Nat} {off : Nat} {ob : AO} {u : AV} (h : o.op = .load t y) (hy : s.ev y = .ref sh j ver p off) (hf : s.find sh j ver = some (sh', j', ob)) (hs : ob.sub p = some (u, off))
    (ha : aggT P t = some u.isAgg) (hz : (P.info? t).map (·.size) = some u.size) : Sim P o s u s := by
  intro c ρ hM ho
  have h1 := ho y (by simp [h, Op.operands])
  rw [hy] at h1
  obtain ⟨ad, cap, hl, hm⟩ := VR_ref h1
  obtain ⟨hob, hl'⟩ := find_spec hM hf hl
  obtain ⟨xs, hx, hmem⟩ := obj_read hM hob hl' hs
  refine ⟨_, c, ?_, .inl ⟨vOf u xs, rfl, VR_of_CR hx⟩, hM, Step.refl _ _⟩
  simp [execOp, h, hm, Instr.loadAt, Instr.sureAddr, loadVar_run hx hmem ha hz]

theorem sim_loadPin {P : Program} {o : Oper} {s : AS} {t : TypeId} {y : Operand} {u : AV} (h : o.op = .load t y) (hy : s.ev y = .pin u)
    (ha : aggT P t = some u.isAgg) (hz : (P.info? t).map (·.size) = some u.size) : Pure P o s u := by
  intro c ρ ho
  have h1 := ho y (by simp [h, Op.operands])
  rw [hy] at h1
  obtain ⟨ad, xs, hx, hm, hfz, hmem⟩ := VR_pin h1
  refine ⟨vOf u xs, ?_, VR_of_CR hx⟩
  simp [execOp, h, hm, Instr.loadAt, Instr.sureAddr, loadVar_run hx hmem ha hz]

theorem sim_store {P : Program} {o : Oper} {s : AS} {t : TypeId} {y z : Operand} {sh sh' : Bool} {j j' ver : Nat} {p : List Nat} {off : Nat} {ob ob' : AO} {u : AV} (h : o.op = .store t y z) (hy : s.ev y = .ref sh j ver p off) (hf : s.find sh j ver = some (sh', j', ob)) (hoo : ob.owned = true) (hs : ob.sub p = some (u, off)) (hu : ob.upd p (s.ev z) = some ob')
    (hsol : (s.ev z).solid = true) (hz : (P.info? t).map (·.size) = some (s.ev z).size) : Sim P o s .any (s.setMem sh' j' ob') := by
  intro c ρ hM ho
  have h1 := ho y (by simp [h, Op.operands])
  rw [hy] at h1
  obtain ⟨ad, cap, hl, hm⟩ := VR_ref h1
  obtain ⟨hob, hl'⟩ := find_spec hM hf hl
  obtain ⟨hc, _⟩ := VR1_cells ((VR_solid hsol).1 (ho z (by simp [h, Op.operands])))
  obtain ⟨w', hr, k1, k2⟩ := obj_write (P := P) hM hob hoo hl' hu hs hc
  rw [← AS.mem_setMem] at k1 k2
  refine ⟨_, ⟨w', c.Fz, c.lam⟩, ?_, .inr ⟨rfl, rfl⟩, k1, k2⟩
  have hlen := CR_len c _ _ hc
  have hsz : (ρ z).cells.size = (s.ev z).size := by rw [← hlen]; simp
  simp [execOp, h, hm, Instr.storeAt, Instr.sureAddr, storeVar, size_run hz, hsz, hr]

theorem pure_nilCheck {P : Program} {o : Oper} {s : AS} {y : Operand} {sh : Bool} {j ver : Nat} {p : List Nat} {off : Nat} (h : o.op = .nilCheck y) (hy : s.ev y = .ref sh j ver p off) : Pure P o s (.ref sh j ver p off) := by
  intro c ρ ho
  have h1 := ho y (by simp [h, Op.operands])
  have h1' := h1
  rw [hy] at h1
  obtain ⟨ad, cap, hl, hm⟩ := VR_ref h1
  refine ⟨ρ y, ?_, by rw [← hy]; exact h1'⟩
  simp [execOp, h, hm]

end Go.Abs
/- Structs and slices that are built; len, append, slices of slices. -/
set_option linter.unusedVariables false
set_option linter.unusedSimpArgs false
namespace Go.Abs
open Go.RowKit

/-! ### Filling cells -/
theorem fold_seg : ∀ (xs : List Value) (k off : Nat) (cs : Array Value), off + k + xs.length ≤ cs.size →
    ((xs.zipIdx k).foldl (fun cs (p : Value × Nat) => cs.setIfInBounds (off + p.2) p.1) cs).toList = cs.toList.take (off + k) ++ xs ++ cs.toList.drop (off + k + xs.length)
  | [], k, off, cs, h => by simp
  | x :: xs, k, off, cs, h => by
    simp only [List.length_cons] at h
    rw [List.zipIdx_cons, List.foldl_cons, fold_seg xs (k + 1) off (cs.setIfInBounds (off + k) x) (by simp; omega)]
    have e := list_seg_step cs.toList (off + k) x xs (by simp; omega)
    simpa [Array.toList_setIfInBounds, Nat.add_assoc] using e

theorem fill_one {place : Nat → Option (Nat × Nat)} {cells : Array Value} {i off size : Nat} {v : Value} {rest : List (Nat × Value)} (hp : place i = some (off, size)) (hs : v.cells.size = size) (hl : off + size ≤ cells.size) :
    Instr.fill place cells ((i, v) :: rest) = Instr.fill place (cells.toList.take off ++ v.cells.toList ++ cells.toList.drop (off + size)).toArray rest := by
  rw [Instr.fill, hp]
  simp only
  have hn : ¬ ((v.cells.size ≠ size || off + v.cells.size > cells.size) = true) := by simp [hs]; omega
  rw [if_neg hn]
  congr 1
  rw [← Array.foldl_toList, Array.toList_zipIdx]
  have h := fold_seg v.cells.toList 0 off cells (by simp; omega)
  simp only [Nat.add_zero, Array.length_toList, hs] at h
  rw [← Array.toList_inj]
  simpa using h

/-- The parts of a struct or slice that is built, laid one by one. -/
def setAll (s : AS) : List AV → List (Nat × Operand) → List AV
  | vs, [] => vs
  | vs, (i, x) :: rest => setAll s (vs.set i (s.ev x)) rest

/-- Each part fits the place it is laid at. -/
def fits (s : AS) (vs : List AV) : List (Nat × Operand) → Prop
  | [] => True
  | (i, x) :: rest => (s.ev x).solid = true ∧ (vs[i]?).map AV.size = some (s.ev x).size ∧ fits s vs rest

theorem fill_all {c : Cx} {s : AS} {ρ : Operand → Value} {place : Nat → Option (Nat × Nat)} : ∀ (parts : List (Nat × Operand)) (vs vs0 : List AV) (css : List (List Value)),
    (∀ p ∈ parts, VR c (s.ev p.2) (ρ p.2)) → CRs c vs css → vs.map AV.size = vs0.map AV.size → fits s vs0 parts →
    (∀ (i : Nat) (v : AV), vs0[i]? = some v → place i = some (AV.sizes (vs0.take i), v.size)) →
    ∃ css', CRs c (setAll s vs parts) css' ∧ (setAll s vs parts).map AV.size = vs0.map AV.size ∧ Instr.fill place css.flatten.toArray (parts.map fun p => (p.1, ρ p.2)) = some css'.flatten.toArray
  | [], vs, vs0, css, _, hc, he, _, _ => ⟨css, hc, he, rfl⟩
  | (i, x) :: parts, vs, vs0, css, ho, hc, he, hf, hp => by
    obtain ⟨h1, h2, h3⟩ := hf
    rw [Option.map_eq_some_iff] at h2
    obtain ⟨v0, hv0, hsz⟩ := h2
    have hh : VR c (s.ev x) (ρ x) := ho (i, x) List.mem_cons_self
    obtain ⟨hcx, _⟩ := VR1_cells ((VR_solid h1).1 hh)
    have hlen : vs.length = vs0.length := by have := congrArg List.length he; simpa using this
    have hi0 := (List.getElem?_eq_some_iff.1 hv0).1
    have hv : ∃ v, vs[i]? = some v ∧ v.size = v0.size := by
      have hvi : vs[i]? = some (vs[i]'(by omega)) := List.getElem?_eq_getElem (by omega)
      refine ⟨_, hvi, ?_⟩
      have := congrArg (fun l => l[i]?) he
      simp only [List.getElem?_map, hvi, hv0, Option.map_some, Option.some.injEq] at this
      exact this
    obtain ⟨v, hv, hvs⟩ := hv
    obtain ⟨y, hy, hcy⟩ := CRs_get hc hv
    have hset := CRs_set hc i hcx
    have he' : (vs.set i (s.ev x)).map AV.size = vs0.map AV.size := by
      rw [← he]
      apply List.ext_getElem?
      intro k
      simp only [List.getElem?_map, List.getElem?_set]
      by_cases e : i = k
      · subst e
        obtain ⟨hl, hl2⟩ := List.getElem?_eq_some_iff.1 hv
        simp [hl, hl2, hvs, hsz]
      · simp [e]
    obtain ⟨css', k1, k2, k3⟩ := fill_all parts (vs.set i (s.ev x)) vs0 (css.set i (ρ x).cells.toList) (fun p hp => ho p (List.mem_cons_of_mem _ hp)) hset he' h3 hp
    refine ⟨css', k1, k2, ?_⟩
    have htl : ((css.take i).flatten).length = AV.sizes (vs0.take i) := by
      rw [take_len hc, sizes_eq, sizes_eq, List.map_take, List.map_take, he]
    have hyl := CR_len c _ _ hcy
    have hxl := CR_len c _ _ hcx
    have hfl := flatten_split hy
    have hxs : (ρ x).cells.size = v0.size := by have := hxl; simp only [Array.length_toList] at this; omega
    simp only [List.map_cons]
    rw [fill_one (hp i v0 hv0) hxs]
    · rw [← k3]
      congr 1
      rw [← Array.toList_inj]
      show css.flatten.take (AV.sizes (vs0.take i)) ++ (ρ x).cells.toList ++ css.flatten.drop (AV.sizes (vs0.take i) + v0.size) = (css.set i (ρ x).cells.toList).flatten
      rw [flatten_set hy]
      have e1 : css.flatten = (css.take i).flatten ++ (y ++ (css.drop (i + 1)).flatten) := by rw [hfl]; simp
      have e2 : css.flatten = ((css.take i).flatten ++ y) ++ (css.drop (i + 1)).flatten := hfl
      have t1 : css.flatten.take (AV.sizes (vs0.take i)) = (css.take i).flatten := by rw [e1, ← htl, List.take_left]
      have t2 : css.flatten.drop (AV.sizes (vs0.take i) + v0.size) = (css.drop (i + 1)).flatten := by
        rw [e2, ← htl, ← hvs, ← hyl, ← List.length_append, List.drop_left]
      rw [t1, t2]
    · have h9 := congrArg List.length hfl
      rw [List.length_append, List.length_append] at h9
      simp only [List.size_toArray]
      omega

/-- The places of fields, as a struct's value has them. -/
def placesOK (fs : List FI) (zs : List AV) : Bool := fs.length == zs.length && (List.range zs.length).all fun i => match fs[i]?, zs[i]? with | some f, some z => f.off == AV.sizes (zs.take i) && f.size == z.size | _, _ => false

theorem mapM_places {P : Program} : ∀ {l : List Field} {is : List FI} (w : World), fiChk P l is = true → (l.mapM fun f => do pure (f.offset, ← sizeOf f.type) : Sem (List (Nat × Nat))).run P w = .ok (is.map fun f => (f.off, f.size)) w := by
  intro l
  induction l with
  | nil => intro is w h; cases is with | nil => simp [List.mapM_nil] | cons _ _ => simp [fiChk] at h
  | cons f l ih =>
    intro is w h
    cases is with
    | nil => simp [fiChk] at h
    | cons a is =>
      simp only [fiChk, Bool.and_eq_true, beq_iff_eq] at h
      have ih' := ih w h.2
      rw [List.mapM_cons]
      simp at ih'
      simp [size_run h.1.1.2, ih', h.1.1.1]

theorem pure_build {x : X} {o : Oper} {s : AS} {t : TypeId} {parts : Array (Nat × Operand)} {fs : List FI} {i : TI} {zs : List AV} (h : o.op = .build t parts) (hi : x.ti t = some i) (hk : i.k = .struct fs) (hz : i.zero = .agg zs) (hpl : placesOK fs zs = true) (hf : fits s zs parts.toList) : Pure x.P o s (.agg (setAll s zs parts.toList)) := by
  intro c ρ ho
  have ht := tok x hi
  obtain ⟨inf, z, h1, h2, h3, h4, cs, h5, h6, h7⟩ := ht.inf
  have hkc := ht.k
  rw [hk] at hkc
  obtain ⟨arr, hu, hc⟩ := k_struct hkc
  have hzc := plain_CR c _ _ h5
  rw [hz, CR] at hzc
  obtain ⟨css, hcr, rfl⟩ := hzc
  simp only [placesOK, Bool.and_eq_true, beq_iff_eq, List.all_eq_true, List.mem_range] at hpl
  obtain ⟨css', k1, k2, k3⟩ := fill_all (ρ := ρ) (place := fun j => (fs.map fun f => (f.off, f.size))[j]?) parts.toList zs zs css (fun p hp => ho p.2 (by
    simp only [h, Op.operands, List.mem_toArray, List.mem_map]
    exact ⟨p, hp, rfl⟩)) hcr rfl hf (by
      intro j v hv
      have hj := hpl.2 j (List.getElem?_eq_some_iff.1 hv).1
      split at hj
      · rename_i f z hff hzz
        rw [hv] at hzz
        cases hzz
        simp only [Bool.and_eq_true, beq_iff_eq] at hj
        simp [hff, hj.1, hj.2]
      · cases hj)
  have hzcells : z.cells = css.flatten.toArray := by rw [← h7]
  refine ⟨.agg css'.flatten.toArray, ?_, ?_⟩
  · have hm := mapM_places (P := x.P) c.w hc
    simp only [execOp, h, Instr.build, Sem.run_bind, zero_run h1 h4, Result.andThen_ok, und_run hu, Sem.run_map]
    have hm2 : (arr.mapM fun f => do pure (f.offset, ← sizeOf f.type) : Sem (Array (Nat × Nat))).run x.P c.w = .ok (fs.map fun f => (f.off, f.size)).toArray c.w := by
      have : (arr.mapM fun f => (do pure (f.offset, ← sizeOf f.type) : Sem (Nat × Nat))) = List.toArray <$> (arr.toList.mapM fun f => (do pure (f.offset, ← sizeOf f.type) : Sem (Nat × Nat))) := by
        rw [Array.mapM_eq_mapM_toList]
      rw [this, Sem.run_map, hm]
      rfl
    rw [hm2]
    simp only [Result.andThen_ok]
    have hfill : Instr.fill (fun j => (fs.map fun f => (f.off, f.size)).toArray[j]?) z.cells (parts.map fun p => (p.1, ρ p.2)).toList = some css'.flatten.toArray := by
      rw [hzcells, Array.toList_map]
      simpa using k3
    rw [hfill]
    simp
  · refine ⟨css'.flatten, ?_, by simp [vOf, AV.isAgg]⟩
    rw [CR]
    exact ⟨css', k1, rfl⟩

theorem pure_buildArr {x : X} {o : Oper} {s : AS} {t : TypeId} {parts : Array (Nat × Operand)} {n esz : Nat} {ea : Bool} {i : TI} {zs : List AV} (h : o.op = .build t parts) (hi : x.ti t = some i) (hk : i.k = .array n esz ea) (hz : i.zero = .arr esz zs) (hf : fits s zs parts.toList) : Pure x.P o s (.arr esz (setAll s zs parts.toList)) := by
  intro c ρ ho
  have ht := tok x hi
  obtain ⟨inf, z, h1, h2, h3, h4, cs, h5, h6, h7⟩ := ht.inf
  have hkc := ht.k
  rw [hk] at hkc
  obtain ⟨e, hu, he, hea⟩ := k_array hkc
  have hzc := plain_CR c _ _ h5
  rw [hz, CR] at hzc
  obtain ⟨hsz, css, hcr, rfl⟩ := hzc
  obtain ⟨css', k1, k2, k3⟩ := fill_all (ρ := ρ) (place := fun j => some (j * esz, esz)) parts.toList zs zs css (fun p hp => ho p.2 (by
    simp only [h, Op.operands, List.mem_toArray, List.mem_map]
    exact ⟨p, hp, rfl⟩)) hcr rfl hf (by
      intro j v hv
      have hj := (List.getElem?_eq_some_iff.1 hv).1
      rw [sizes_same (fun v hv => hsz v (List.mem_of_mem_take hv)), List.length_take, Nat.min_eq_left (Nat.le_of_lt hj), hsz v (List.mem_of_getElem? hv)])
  have hzcells : z.cells = css.flatten.toArray := by rw [← h7]
  refine ⟨.agg css'.flatten.toArray, ?_, ?_⟩
  · simp only [execOp, h, Instr.build, Sem.run_bind, zero_run h1 h4, Result.andThen_ok, und_run hu, size_run he]
    have hfill : Instr.fill (fun j => some (j * esz, esz)) z.cells (parts.map fun p => (p.1, ρ p.2)).toList = some css'.flatten.toArray := by
      rw [hzcells, Array.toList_map]
      exact k3
    rw [hfill]
    simp
  · refine ⟨css'.flatten, ?_, by simp [vOf, AV.isAgg]⟩
    rw [CR]
    refine ⟨?_, css', k1, rfl⟩
    intro v hv
    obtain ⟨j, hj, e⟩ := List.mem_iff_getElem.1 hv
    have hlen : (setAll s zs parts.toList).length = zs.length := by have := congrArg List.length k2; simpa using this
    have hm := congrArg (fun l => l[j]?) k2
    simp only [List.getElem?_map, List.getElem?_eq_getElem hj, List.getElem?_eq_getElem (show j < zs.length by omega), Option.map_some, Option.some.injEq] at hm
    rw [← e, hm]
    exact hsz _ (List.getElem_mem _)

/-! ### Slices that are built -/
theorem range_zero {z : Array Value} {n : Nat} : ((Array.range (n * z.size)).map (z[· % z.size]!)).toList = (List.replicate n z.toList).flatten := by
  simp only [Array.toList_map, Array.toList_range]
  induction n with
  | zero => simp
  | succ n ih =>
    rw [Nat.add_mul, Nat.one_mul, List.range_add, List.map_append, ih, List.replicate_succ', List.flatten_append]
    congr 1
    apply List.ext_getElem?
    intro k
    simp only [List.map_map, List.getElem?_map, List.flatten_cons, List.flatten_nil, List.append_nil, Array.getElem?_toList]
    by_cases hk : k < z.size
    · rw [List.getElem?_range hk]
      have hm : (n * z.size + k) % z.size = k := by rw [Nat.add_comm, Nat.add_mul_mod_self_right, Nat.mod_eq_of_lt hk]
      simp [hm, hk]
    · have h1 : (List.range z.size)[k]? = none := List.getElem?_eq_none (by simp; omega)
      simp [h1, hk]

theorem replicate_sizes {v : AV} {sz : Nat} (hz : v.size = sz) (n i : Nat) (hi : i ≤ n) : AV.sizes ((List.replicate n v).take i) = i * sz := by
  rw [sizes_same (sz := sz) (fun u hu => by rw [List.eq_of_mem_replicate (List.mem_of_mem_take hu)]; exact hz)]
  simp [Nat.min_eq_left hi]
theorem CRs_replicate {c : Cx} {v : AV} {x : List Value} (h : CR c v x) (n : Nat) : CRs c (List.replicate n v) (List.replicate n x) := by
  induction n with
  | zero => rw [List.replicate_zero, List.replicate_zero, CRs]
  | succ n ih => rw [List.replicate_succ, List.replicate_succ, CRs]; exact ⟨x, _, rfl, h, ih⟩

theorem sima_buildSliceE {x : X} {o : Oper} {s : AS} {t e : TypeId} {n esz : Nat} {parts : Array (Nat × Operand)} {i ie : TI} (h : o.op = .buildSlice t n parts) (hi : x.ti t = some i) (hk : i.k = .slice esz e) (he : x.ti e = some ie) (hz : ie.zero.size = esz) (hpos : 0 < esz) (hn : n * esz ≤ 16777216)
    (hf : fits s (List.replicate n ie.zero) parts.toList) (c : Cx) (ρ : Operand → Value) (hM : MemR c s.mem) (ho : ∀ x ∈ o.op.operands, VR c (s.ev x) (ρ x)) :
    ∃ m d pl, ((execOp ρ o).run x.P c.w = .ok (.value m) d.w ∧ VR d (.own false s.loc.length n) m ∧ MemR d (s.push (.row esz (setAll s (List.replicate n ie.zero) parts.toList))).mem ∧ Step c s.mem d (s.push (.row esz (setAll s (List.replicate n ie.zero) parts.toList))).mem ∧ d.lam = updL c.lam false s.loc.length (AO.row esz (setAll s (List.replicate n ie.zero) parts.toList)).ver pl ∧ d.Fz = c.Fz ∧ Turn c.w d.w (fun _ => False)) ∧ pl.2 = n ∧ (setAll s (List.replicate n ie.zero) parts.toList).length = n := by
  have hkc := (tok x hi).k
  rw [hk] at hkc
  obtain ⟨hu, hsz⟩ := k_slice hkc
  obtain ⟨inf, z, h1, h2, h3, h4, cs, h5, h6, h7⟩ := (tok x he).inf
  have hzc := plain_CR c _ _ h5
  have hzl : cs.length = esz := by rw [CR_len c _ _ hzc, hz]
  have hzcell : z.cells = cs.toArray := by rw [← h7]
  obtain ⟨css', k1, k2, k3⟩ := fill_all (ρ := ρ) (place := fun j => some (j * esz, esz)) parts.toList _ (List.replicate n ie.zero) _ (fun p hp => ho p.2 (by
    simp only [h, Op.operands, List.mem_toArray, List.mem_map]
    exact ⟨p, hp, rfl⟩)) (CRs_replicate hzc n) rfl hf (by
      intro j v hv
      have hj := (List.getElem?_eq_some_iff.1 hv).1
      simp only [List.length_replicate] at hj
      rw [replicate_sizes hz n j (by omega), List.eq_of_mem_replicate (List.mem_of_getElem? hv), hz])
  have hlen : (setAll s (List.replicate n ie.zero) parts.toList).length = n := by
    have := congrArg List.length k2
    simpa using this
  have hall : ∀ v ∈ setAll s (List.replicate n ie.zero) parts.toList, v.size = esz := by
    intro v hv
    have : v.size ∈ (List.replicate n ie.zero).map AV.size := by rw [← k2]; exact List.mem_map_of_mem hv
    simp only [List.map_replicate] at this
    rw [List.eq_of_mem_replicate this, hz]
  have hcl : css'.flatten.length = n * esz := by rw [CRs_len c _ _ k1, sizes_same hall, hlen]
  have hmax : n ≤ maxLen := by
    have : n ≤ n * esz := Nat.le_mul_of_pos_right n hpos
    simp only [maxLen]; omega
  have ht := Turn.alloc c.w (.cells css'.flatten.toArray e) (fun _ => False)
  have hp := push_obj hM false (o := .row esz (setAll s (List.replicate n ie.zero) parts.toList)) (pl := (some ⟨c.w.heap.size, 0, none⟩, n)) ht ?_ (fun _ a ha => by cases ha; exact Nat.le_refl _)
  · have hp1 := hp.1
    have hp2 := hp.2
    rw [← AS.mem_push] at hp1 hp2
    refine ⟨.slice (some ⟨c.w.heap.size, 0, none⟩) n n, _, _, ⟨?_, ⟨[.slice (some ⟨c.w.heap.size, 0, none⟩) n n], ?_, rfl⟩, hp1, hp2, rfl, rfl, ht⟩, rfl, hlen⟩
    rotate_left
    · rw [CR]
      refine ⟨_, n, ?_, by simp, rfl⟩
      rw [← mem_len_false]
      have := updL_same c.lam false (s.mem false).length (AO.row esz (setAll s (List.replicate n ie.zero) parts.toList)).ver (some ⟨c.w.heap.size, 0, none⟩, n)
      simp only [AO.ver, hlen] at this ⊢
      exact this
    · have hfill : Instr.fill (fun j => some (j * esz, esz)) (List.replicate n cs).flatten.toArray (parts.map fun p => (p.1, ρ p.2)).toList = some css'.flatten.toArray := by
        rw [Array.toList_map]
        simpa using k3
      have hcell0 : (if n * esz = 0 then (pure #[] : Sem (Array Value)) else do pure (← zeroValue e).cells).run x.P c.w = .ok (if n * esz = 0 then #[] else z.cells) c.w := by
        split
        · simp
        · simp [zero_run h1 h4]
      have hrange : (Array.range (n * esz)).map ((if n * esz = 0 then #[] else z.cells)[· % (if n * esz = 0 then #[] else z.cells).size]!) = (List.replicate n cs).flatten.toArray := by
        by_cases hn0 : n = 0
        · subst hn0; simp
        · have hne : n * esz ≠ 0 := Nat.mul_ne_zero hn0 (by omega)
          simp only [if_neg hne]
          rw [hzcell]
          have := range_zero (z := cs.toArray) (n := n)
          simp only [List.size_toArray, hzl] at this ⊢
          rw [← Array.toList_inj]
          exact this
      have hlim : ¬ (n * esz > 2 ^ 24) := by omega
      simp only [execOp, h, Instr.buildSlice, Sem.run_bind, und_run hu, Result.andThen_ok, size_run hsz, Sem.run_ite, if_neg hlim, Sem.run_pure]
      by_cases hn0 : n * esz = 0
      · simp only [hn0, if_true] at hrange ⊢
        simp only [Sem.run_pure, Result.andThen_ok, hrange, hfill, newRow, Sem.run_bind, Sem.run_map, run_newObj]
        rfl
      · simp only [hn0, if_false] at hrange ⊢
        simp only [Sem.run_bind, zero_run h1 h4, Sem.run_pure, Result.andThen_ok, hrange, hfill, newRow, Sem.run_map, run_newObj]
        rfl
  · refine ⟨hall, hpos, .inr ⟨_, n, _, e, css', rfl, heap_alloc_new _ _, by rw [hlen]; exact Nat.le_refl _, hmax, by simpa using hcl, ?_, by
      show List.take _ css'.flatten = _
      rw [hlen, ← hcl, List.take_length]⟩⟩
    have hle : c.le ⟨c.w.alloc (.cells css'.flatten.toArray e), c.Fz, updL c.lam false (s.mem false).length (AO.row esz (setAll s (List.replicate n ie.zero) parts.toList)).ver (some ⟨c.w.heap.size, 0, none⟩, n)⟩ := by
      refine ⟨fun _ h => h, fun m hm => ht.same m (hM.fzl m hm) (fun h => h), fun sh j ver q hq => updL_le (fun p hp => ?_) hq⟩
      obtain ⟨y, hy, _⟩ := hM.dom _ _ _ _ hp
      have := getlt hy
      omega
    exact CRs_mono hle _ _ k1

theorem sima_buildSlice {x : X} {o : Oper} {s : AS} {t e : TypeId} {n esz : Nat} {parts : Array (Nat × Operand)} {i ie : TI} (h : o.op = .buildSlice t n parts) (hi : x.ti t = some i) (hk : i.k = .slice esz e) (he : x.ti e = some ie) (hz : ie.zero.size = esz) (hpos : 0 < esz) (hn : n * esz ≤ 16777216)
    (hf : fits s (List.replicate n ie.zero) parts.toList) : SimA x.P o s (.own false s.loc.length n) (.row esz (setAll s (List.replicate n ie.zero) parts.toList)) := by
  intro c ρ hM ho
  obtain ⟨m, d, pl, h1, _⟩ := sima_buildSliceE h hi hk he hz hpos hn hf c ρ hM ho
  exact ⟨m, d, pl, h1⟩

theorem sim_buildSlice {x : X} {o : Oper} {s : AS} {t e : TypeId} {n esz : Nat} {parts : Array (Nat × Operand)} {i ie : TI} (h : o.op = .buildSlice t n parts) (hi : x.ti t = some i) (hk : i.k = .slice esz e) (he : x.ti e = some ie) (hz : ie.zero.size = esz) (hpos : 0 < esz) (hn : n * esz ≤ 16777216)
    (hf : fits s (List.replicate n ie.zero) parts.toList) : Sim x.P o s (.own false s.loc.length n) (s.push (.row esz (setAll s (List.replicate n ie.zero) parts.toList))) := (sima_buildSlice h hi hk he hz hpos hn hf).sim

end Go.Abs
/- len, append, slices of slices, the lesser and the greater of numbers. -/
set_option linter.unusedVariables false
set_option linter.unusedSimpArgs false
namespace Go.Abs
open Go.RowKit

/-- The elements that a slice has. -/
def AS.elems (s : AS) (sz : Nat) : AV → Option (List AV)
  | .lit sz' vs => if sz' = sz then some vs else none
  | .nilS => some []
  | .own sh j ver => match (s.mem sh)[j]? with
    | some (.row sz' vs) => if sz' = sz ∧ vs.length = ver then some vs else none
    | some (.frow sz' vs) => if sz' = sz ∧ vs.length = ver then some vs else none
    | some (.xrow sz' vs) => if sz' = sz ∧ vs.length = ver then some vs else none
    | _ => none
  | .win j ver esz off len => match s.loc[j]? with
    | some (.row sz' vs) => if sz' = sz ∧ esz = sz ∧ vs.length = ver then some ((vs.take (off + len)).drop off) else none
    | _ => none
  | _ => none

/-- How long a slice is. -/
def lenV : AV → Option Nat
  | .lit _ vs => some vs.length
  | .nilS => some 0
  | .own _ _ ver => some ver
  | .win _ _ _ _ len => some len
  | _ => none

theorem VR_win {c : Cx} {j ver esz off len : Nat} {m : Value} (h : VR c (.win j ver esz off len) m) : ∃ ad cap, c.lam false j ver = some (some ad, cap) ∧ (off < cap ∧ off + len ≤ ver) ∧ m = .slice (some (ad.add (off * esz))) len (cap - off) := by
  obtain ⟨cs, h, rfl⟩ := h
  rw [CR] at h
  obtain ⟨ad, cap, h1, h2, rfl⟩ := h
  exact ⟨ad, cap, h1, h2, rfl⟩
theorem CRs_drop' {c : Cx} : ∀ {vs : List AV} {css : List (List Value)}, CRs c vs css → ∀ i, CRs c (vs.drop i) (css.drop i)
  | vs, css, h, 0 => by simpa using h
  | [], css, h, i + 1 => by rw [CRs] at h; subst h; simp; rw [CRs]
  | v :: vs, css, h, i + 1 => by
    rw [CRs] at h
    obtain ⟨x, xs, rfl, _, h2⟩ := h
    simpa using CRs_drop' h2 i
theorem part_cells {c : Cx} {vs : List AV} {css : List (List Value)} {sz : Nat} (hcs : CRs c vs css) (hs : ∀ v ∈ vs, v.size = sz) {l h' k : Nat} (hl : l ≤ h') (hh : h' ≤ vs.length) {u : Value} (hu : (((css.take h').drop l).flatten)[k]? = some u) : css.flatten[l * sz + k]? = some u := by
  have e1 : css = css.take l ++ ((css.take h').drop l ++ css.drop h') := by
    have e2 : (css.take h').take l = css.take l := by rw [List.take_take]; congr 1; omega
    rw [← List.append_assoc, ← e2, List.take_append_drop, List.take_append_drop]
  have e3 : (css.take l).flatten.length = l * sz := take_len_same hcs hs (by omega)
  rw [e1, List.flatten_append, List.flatten_append, List.getElem?_append_right (by omega), e3]
  have e4 : l * sz + k - l * sz = k := by omega
  rw [e4, List.getElem?_append_left (List.getElem?_eq_some_iff.1 hu).1]
  exact hu

theorem VR_nilS {c : Cx} {m : Value} (h : VR c .nilS m) : m = .slice none 0 0 := by
  obtain ⟨cs, h, rfl⟩ := h
  rw [CR] at h; subst h; rfl

theorem len_slice {c : Cx} {v : AV} {m : Value} {n : Nat} (h : VR c v m) (hn : lenV v = some n) : ∃ a cap, m = .slice a n cap := by
  unfold lenV at hn
  split at hn
  · cases hn
    obtain ⟨a, cap, css, _, _, e, _⟩ := VR_lit h
    exact ⟨a, cap, e⟩
  · cases hn
    exact ⟨none, 0, VR_nilS h⟩
  · cases hn
    obtain ⟨a, cap, _, _, e⟩ := VR_own h
    exact ⟨a, cap, e⟩
  · cases hn
    obtain ⟨a, cap, _, _, e⟩ := VR_win h
    exact ⟨_, _, e⟩
  · cases hn

theorem pure_len {P : Program} {o : Oper} {s : AS} {y : Operand} {t e : TypeId} {n esz : Nat} (h : o.op = .call { callee := .builtin .len, args := #[y], argTypes := #[t] }) (hn : lenV (s.ev y) = some n)
    (hk : kChk P t (.slice esz e) = true) : Pure P o s (.int .i64 n) := by
  intro c ρ ho
  obtain ⟨a, cap, hm⟩ := len_slice (ho y (by simp [h, Op.operands, Call.operands])) hn
  refine ⟨.int .i64 n, ?_, VR_int_mk _ _ _⟩
  simp [execOp, h, resolve, invoke, builtin, Builtin.len_, und_run (k_slice hk).1, hm, goInt]

theorem pure_lenStr {P : Program} {o : Oper} {s : AS} {y : Operand} {t : TypeId} {b : ByteArray} (h : o.op = .call { callee := .builtin .len, args := #[y], argTypes := #[t] }) (hn : s.ev y = .str b)
    (hk : P.underlying t = some .string) : Pure P o s (.int .i64 b.size) := by
  intro c ρ ho
  have h1 := ho y (by simp [h, Op.operands, Call.operands])
  rw [hn] at h1
  have h1 := VR_str h1
  refine ⟨.int .i64 b.size, ?_, VR_int_mk _ _ _⟩
  simp [execOp, h, resolve, invoke, builtin, Builtin.len_, und_run hk, h1, goInt]

theorem pure_min {P : Program} {o : Oper} {s : AS} {y z : Operand} {ts : Array TypeId} {k : IntKind} {a b : Int} (h : o.op = .call { callee := .builtin .min, args := #[y, z], argTypes := ts }) (hy : s.ev y = .int k a) (hz : s.ev z = .int k b) : Pure P o s (.int k (if b < a then b else a)) := by
  intro c ρ ho
  have h1 := ho y (by simp [h, Op.operands, Call.operands])
  rw [hy] at h1
  have h1 := VR_int h1
  have h2 := ho z (by simp [h, Op.operands, Call.operands])
  rw [hz] at h2
  have h2 := VR_int h2
  refine ⟨_, ?_, VR_int_mk _ _ _⟩
  simp [execOp, h, resolve, invoke, builtin, Builtin.min_, Builtin.min2, h1, h2]
theorem pure_max {P : Program} {o : Oper} {s : AS} {y z : Operand} {ts : Array TypeId} {k : IntKind} {a b : Int} (h : o.op = .call { callee := .builtin .max, args := #[y, z], argTypes := ts }) (hy : s.ev y = .int k a) (hz : s.ev z = .int k b) : Pure P o s (.int k (if b > a then b else a)) := by
  intro c ρ ho
  have h1 := ho y (by simp [h, Op.operands, Call.operands])
  rw [hy] at h1
  have h1 := VR_int h1
  have h2 := ho z (by simp [h, Op.operands, Call.operands])
  rw [hz] at h2
  have h2 := VR_int h2
  refine ⟨_, ?_, VR_int_mk _ _ _⟩
  simp [execOp, h, resolve, invoke, builtin, Builtin.max_, Builtin.max2, h1, h2]

/-- The cells of a slice's elements, as they can be read. -/
theorem elems_cells {c : Cx} {s : AS} (hM : MemR c s.mem) {sz : Nat} {v : AV} {vs : List AV} {m : Value} (h : VR c v m) (hs : s.elems sz v = some vs) :
    ∃ a cap css, m = .slice a vs.length cap ∧ CRs c vs css ∧ (∀ v ∈ vs, v.size = sz) ∧ (vs ≠ [] → ∃ ad, a = some ad ∧ ∀ (k : Nat) (u : Value), css.flatten[k]? = some u → c.w.cell? (ad.add k) = some u) := by
  unfold AS.elems at hs
  split at hs
  · split at hs
    · rename_i e
      cases hs
      subst e
      obtain ⟨a, cap, css, h0, h1, e, h2, h3, h4⟩ := VR_lit h
      exact ⟨a, cap, css, e, h1, h0, fun hne => by obtain ⟨ad, e, _, h⟩ := h4 hne; exact ⟨ad, e, h⟩⟩
    · cases hs
  · cases hs
    exact ⟨none, 0, [], VR_nilS h, by rw [CRs], by simp, fun h => (h rfl).elim⟩
  · rename_i sh j ver
    obtain ⟨a, cap, hl, hn, e⟩ := VR_own h
    split at hs
    · rename_i sz' vs' ho
      split at hs
      · rename_i hc
        obtain ⟨rfl, rfl⟩ := hc
        cases hs
        obtain ⟨h0, hz, ⟨e1, e2⟩ | ⟨m', cap', cur, t, css, e1, h1, h2, h3, h4, h5, h6⟩⟩ := hM.obj sh j _ _ ho hl
        · cases e1; subst e2
          exact ⟨none, 0, [], e, by rw [CRs], by simp, fun h => (h rfl).elim⟩
        · cases e1
          refine ⟨_, _, css, e, h5, h0, fun _ => ⟨_, rfl, ?_⟩⟩
          intro k u hu
          rw [add_lit, cell_of_row _ _ _ _ _ _ h1, Nat.zero_add]
          rw [← h6, List.getElem?_take] at hu
          split at hu
          · simpa using hu
          · cases hu
      · cases hs
    · rename_i sz' vs' ho
      split at hs
      · rename_i hc
        obtain ⟨rfl, rfl⟩ := hc
        cases hs
        obtain ⟨h0, hz, css, h1, h2, h3, h4⟩ := hM.obj sh j _ _ ho hl
        exact ⟨a, cap, css, e, h1, h0, fun hne => by obtain ⟨ad, e, _, h⟩ := h4 hne; exact ⟨ad, e, h⟩⟩
      · cases hs
    · rename_i sz' vs' ho
      split at hs
      · rename_i hc
        obtain ⟨rfl, rfl⟩ := hc
        cases hs
        obtain ⟨h0, hz, css, h1, h2, h3, h4⟩ := hM.obj sh j _ _ ho hl
        exact ⟨a, cap, css, e, h1, h0, fun hne => by obtain ⟨ad, e, _, h⟩ := h4 hne; exact ⟨ad, e, h⟩⟩
      · cases hs
    · cases hs
  · rename_i j ver esz off len
    obtain ⟨ad, cap, hl, ⟨hoc, hol⟩, e⟩ := VR_win h
    split at hs
    · rename_i sz' vs' ho
      split at hs
      · rename_i hc
        obtain ⟨rfl, rfl, rfl⟩ := hc
        cases hs
        obtain ⟨h0, hz, ⟨e1, e2⟩ | ⟨m', cap', cur, t, css, e1, h1, h2, h3, h4, h5, h6⟩⟩ := hM.obj false j _ _ ho hl
        · cases e1
        · cases e1
          have hlen : ((vs'.take (off + len)).drop off).length = len := by simp; omega
          refine ⟨_, _, (css.take (off + len)).drop off, by rw [hlen]; exact e, CRs_drop' (CRs_take h5 _) _, fun v hv => h0 v (List.mem_of_mem_take (List.mem_of_mem_drop hv)), fun _ => ⟨_, rfl, ?_⟩⟩
          intro k u hu
          have hu2 := part_cells h5 h0 (by omega) hol hu
          rw [add_lit, add_lit, cell_of_row _ _ _ _ _ _ h1, Nat.zero_add]
          rw [← h6, List.getElem?_take] at hu2
          split at hu2
          · simpa using hu2
          · cases hu2
      · cases hs
    · cases hs
  · cases hs

theorem firstCells_run {P : Program} {vs : List AV} {sz : Nat} {a : Option Addr} {cap : Nat} {css : List (List Value)} {c : Cx} {w : World} (hc : CRs c vs css) (hs : ∀ v ∈ vs, v.size = sz) (hm : vs ≠ [] → ∃ ad, a = some ad ∧ ∀ (k : Nat) (u : Value), css.flatten[k]? = some u → w.cell? (ad.add k) = some u) :
    (Builtin.firstCells sz vs.length (.slice a vs.length cap)).run P w = .ok css.flatten.toArray w := by
  by_cases hv : vs = []
  · subst hv
    rw [CRs] at hc
    subst hc
    cases a <;> simp [Builtin.firstCells, loadCells, loadCellsFrom]
  · obtain ⟨ad, rfl, h⟩ := hm hv
    exact run_firstCells_some w sz vs.length ad vs.length cap _ (by rw [CRs_len c _ _ hc, sizes_same hs]) h

section
variable {P : Program} {t t2 ty e e2 : TypeId} {inf : TypeInfo} {z : Value} (ht : P.underlying t = some (.slice e)) (ht2 : P.underlying t2 = some (.slice e2)) (hi : P.info? e = some inf) (hz : inf.zero = some z)
include ht ht2 hi
theorem app_room {w w' : World} {sa : Option Addr} {n cap m : Nat} {x : Value} {news : List Value} (hlen : ∀ w, (Builtin.lenOf x).run P w = .ok m w) (hnew : (Builtin.firstCells inf.size m x).run P w = .ok news.toArray w) (hroom : n + m ≤ cap)
    (hst : match sa with | some a => (storeCells (a.add (n * inf.size)) news).run P w = .ok () w' | none => w' = w) :
    (Builtin.append_ #[t, t2] ty #[.slice sa n cap, x]).run P w = .ok (.slice sa (n + m) cap) w' := by
  cases sa with
  | none => simp only at hst; subst hst; simp [Builtin.append_, und_run ht, und_run ht2, sizeOf, typeInfo, hi, hlen, hroom, hnew]
  | some a => simp only at hst; simp [Builtin.append_, und_run ht, und_run ht2, sizeOf, typeInfo, hi, hlen, hroom, hnew, hst]
include hz
theorem app_grow {w : World} {sa : Option Addr} {n cap m : Nat} {x : Value} {olds news : List Value} (hlen : ∀ w, (Builtin.lenOf x).run P w = .ok m w) (hnew : (Builtin.firstCells inf.size m x).run P w.drew = .ok news.toArray w.drew) (hold : (Builtin.firstCells inf.size n (.slice sa n cap)).run P w.drew = .ok olds.toArray w.drew) (hroom : cap < n + m)
    (h63 : n + m ≤ 9223372036854775807) (hfit : (n + m) * inf.bytes ≤ 140737488355328) :
    (Builtin.append_ #[t, t2] ty #[.slice sa n cap, x]).run P w =
      .ok (.slice (some ⟨w.heap.size, 0, none⟩) (n + m) (grownCap w (n + m) cap e)) (w.drew.alloc (.cells (olds.toArray ++ news.toArray ++ Builtin.zeroCells z.cells (grownCap w (n + m) cap e - (n + m))) e)) := by
  have hn : ¬ (n + m ≤ cap) := by omega
  have h63' : ¬ (9223372036854775807 < ((n : Int) + (m : Int))) := by omega
  have hf := growslice_fits hroom hfit
  have h48' : ¬ (281474976710656 < Builtin.nextslicecap (n + m) cap * inf.bytes) := by omega
  simp [Builtin.append_, und_run ht, und_run ht2, sizeOf, typeInfo, zeroValue, hi, hz, hlen, hn, h63', h48', Question.forced, hnew, hold, newRow, grownCap]
  congr 2
  apply Array.ext'
  simp [List.append_assoc]
end

theorem lenOf_run {P : Program} {a : Option Addr} {n cap : Nat} (w : World) : (Builtin.lenOf (.slice a n cap)).run P w = .ok n w := by simp [Builtin.lenOf]

/-- What an append makes of nothing: a new row. -/
theorem sima_appendNil {x : X} {o : Oper} {s : AS} {y q : Operand} {t t2 e e2 : TypeId} {esz esz2 : Nat} {i i2 ie : TI} {ys : List AV} (h : o.op = .call { callee := .builtin .append, args := #[y, q], argTypes := #[t, t2] }) (hi : x.ti t = some i) (hk : i.k = .slice esz e) (hi2 : x.ti t2 = some i2) (hk2 : i2.k = .slice esz2 e2) (he : x.ti e = some ie)
    (hpos : 0 < esz) (hz : ie.zero.size = esz) (hb : 0 < ie.bytes) (hy : s.ev y = .nilS) (hq : s.elems esz (s.ev q) = some ys) (hfit : ys.length * ie.bytes ≤ 140737488355328) : SimA x.P o s (.own false s.loc.length ys.length) (.row esz ys) := by
  intro c ρ hM ho
  have hkc := (tok x hi).k
  rw [hk] at hkc
  obtain ⟨hu, hsz⟩ := k_slice hkc
  have hkc2 := (tok x hi2).k
  rw [hk2] at hkc2
  obtain ⟨hu2, _⟩ := k_slice hkc2
  obtain ⟨inf, z, h1, h2, h3, h4, cs, h5, h6, h7⟩ := (tok x he).inf
  have hie : inf.size = esz := by rw [h1] at hsz; simpa using hsz
  have hzl : z.cells.size = esz := by
    have := CR_len c _ _ (plain_CR c _ _ h5)
    rw [← hz, ← this, ← h7]; simp
  have hvy := VR_nilS (by have := ho y (by simp [h, Op.operands, Call.operands]); rwa [hy] at this)
  obtain ⟨a, cap, css, hvq, k1, k2, k3⟩ := elems_cells hM (ho q (by simp [h, Op.operands, Call.operands])) hq
  have hcl : css.flatten.length = ys.length * esz := by rw [CRs_len c _ _ k1, sizes_same k2]
  have hmax : ys.length ≤ 140737488355328 := Nat.le_trans (Nat.le_mul_of_pos_right _ hb) hfit
  have hnone : ∀ ver, c.lam false s.loc.length ver = none := by
    intro ver
    cases hl : c.lam false s.loc.length ver with
    | none => rfl
    | some p =>
      obtain ⟨u, hu, _⟩ := hM.dom _ _ _ _ hl
      have := getlt hu
      rw [mem_len_false] at this
      omega
  by_cases hys : ys = []
  · subst hys
    have hp := push_obj hM false (o := .row esz []) (pl := (none, 0)) (Turn.refl c.w (fun _ => False)) ⟨by simp, hpos, .inl ⟨rfl, rfl⟩⟩ (fun _ a ha => by cases ha)
    have hp1 := hp.1
    have hp2 := hp.2
    rw [← AS.mem_push] at hp1 hp2
    refine ⟨.slice none 0 0, _, _, ?_, ⟨[.slice none 0 0], ?_, rfl⟩, hp1, hp2, rfl, rfl, Turn.refl _ _⟩
    · rw [CRs] at k1
      subst k1
      have hr := app_room (P := x.P) (ty := o.type) hu hu2 h1 (w := c.w) (w' := c.w) (sa := none) (n := 0) (cap := 0) (m := 0) (x := .slice a 0 cap) (news := []) (fun w => lenOf_run w) (by cases a <;> simp [Builtin.firstCells, loadCells, loadCellsFrom]) (by omega) rfl
      simp [execOp, h, resolve, invoke, builtin, hvy, hvq] at hr ⊢
      rw [hr]; rfl
    · rw [CR]
      refine ⟨none, 0, ?_, ⟨fun _ => rfl, Nat.le_refl _⟩, rfl⟩
      rw [← mem_len_false]
      exact updL_same _ _ _ _ _
  · have hlpos : 0 < ys.length := List.length_pos_iff.2 hys
    have hr := app_grow (P := x.P) (ty := o.type) hu hu2 h1 h4 (w := c.w) (sa := none) (n := 0) (cap := 0) (m := ys.length) (x := .slice a ys.length cap) (olds := []) (news := css.flatten) (fun w => lenOf_run w)
      (by rw [hie]; exact firstCells_run k1 k2 (w := c.w.drew) (fun hne => k3 hne)) (by simp [Builtin.firstCells]) (by omega) (by omega) (by rw [h3]; simpa using hfit)
    have hge := grownCap_ge c.w (0 + ys.length) 0 e
    have hle := grownCap_le_maxLen c.w (0 + ys.length) 0 e (by simp only [maxLen]; omega)
    simp only [Nat.zero_add] at hr hge hle
    generalize hg : grownCap c.w ys.length 0 e = gc at hr hge hle
    have htu : Turn c.w (c.w.drew.alloc (.cells (#[] ++ css.flatten.toArray ++ Builtin.zeroCells z.cells (gc - ys.length)) e)) (fun _ => False) := (Turn.drew c.w _).trans (Turn.alloc _ _ _)
    have hp := push_obj hM false (o := .row esz ys) (pl := (some ⟨c.w.heap.size, 0, none⟩, gc)) htu ?_ (fun _ a ha => by cases ha; exact Nat.le_refl _)
    · have hp1 := hp.1
      have hp2 := hp.2
      rw [← AS.mem_push] at hp1 hp2
      refine ⟨.slice (some ⟨c.w.heap.size, 0, none⟩) ys.length gc, _, _, ?_, ⟨[.slice (some ⟨c.w.heap.size, 0, none⟩) ys.length gc], ?_, rfl⟩, hp1, hp2, rfl, rfl, htu⟩
      · simp [execOp, h, resolve, invoke, builtin, hvy, hvq] at hr ⊢
        rw [hr]; rfl
      · rw [CR]
        refine ⟨_, gc, ?_, ⟨(fun h => by cases h), by omega⟩, rfl⟩
        rw [← mem_len_false]
        exact updL_same _ _ _ _ _
    · refine ⟨k2, hpos, .inr ⟨_, gc, _, e, css, rfl, heap_alloc_new c.w.drew _, hge, hle, ?_, ?_, ?_⟩⟩
      · have hm : ys.length * esz + (gc - ys.length) * esz = gc * esz := by rw [← Nat.add_mul]; congr 1; omega
        simp only [Array.size_append, List.size_toArray, size_zeroCells, hzl, hcl]
        simpa using hm
      · have hle2 : c.le ⟨c.w.drew.alloc (.cells (#[] ++ css.flatten.toArray ++ Builtin.zeroCells z.cells (gc - ys.length)) e), c.Fz, updL c.lam false (s.mem false).length (AO.row esz ys).ver (some ⟨c.w.heap.size, 0, none⟩, gc)⟩ := by
          refine ⟨fun _ h => h, fun m hm => htu.same m (hM.fzl m hm) (fun h => h), fun sh j ver q hq => updL_le (fun p hp => ?_) hq⟩
          rw [mem_len_false, hnone] at hp
          cases hp
        exact CRs_mono hle2 _ _ k1
      · rw [← hcl]
        simp

theorem sim_appendNil {x : X} {o : Oper} {s : AS} {y q : Operand} {t t2 e e2 : TypeId} {esz esz2 : Nat} {i i2 ie : TI} {ys : List AV} (h : o.op = .call { callee := .builtin .append, args := #[y, q], argTypes := #[t, t2] }) (hi : x.ti t = some i) (hk : i.k = .slice esz e) (hi2 : x.ti t2 = some i2) (hk2 : i2.k = .slice esz2 e2) (he : x.ti e = some ie)
    (hpos : 0 < esz) (hz : ie.zero.size = esz) (hb : 0 < ie.bytes) (hy : s.ev y = .nilS) (hq : s.elems esz (s.ev q) = some ys) (hfit : ys.length * ie.bytes ≤ 140737488355328) : Sim x.P o s (.own false s.loc.length ys.length) (s.push (.row esz ys)) := (sima_appendNil h hi hk hi2 hk2 he hpos hz hb hy hq hfit).sim

/-- What an append makes of a row of one's own. -/
theorem sim_appendOwn {x : X} {o : Oper} {s : AS} {y q : Operand} {t t2 e e2 : TypeId} {esz esz2 : Nat} {i i2 ie : TI} {sh : Bool} {j ver : Nat} {vs ys : List AV} (h : o.op = .call { callee := .builtin .append, args := #[y, q], argTypes := #[t, t2] }) (hi : x.ti t = some i) (hk : i.k = .slice esz e) (hi2 : x.ti t2 = some i2) (hk2 : i2.k = .slice esz2 e2) (he : x.ti e = some ie)
    (hz : ie.zero.size = esz) (hb : 0 < ie.bytes) (hy : s.ev y = .own sh j ver) (hrow : (s.mem sh)[j]? = some (.row esz vs)) (hver : vs.length = ver) (hq : s.elems esz (s.ev q) = some ys) (hfit : (vs.length + ys.length) * ie.bytes ≤ 140737488355328) :
    Sim x.P o s (.own sh j (vs.length + ys.length)) (s.setMem sh j (.row esz (vs ++ ys))) := by
  intro c ρ hM ho
  subst hver
  have hkc := (tok x hi).k
  rw [hk] at hkc
  obtain ⟨hu, hsz⟩ := k_slice hkc
  have hkc2 := (tok x hi2).k
  rw [hk2] at hkc2
  obtain ⟨hu2, _⟩ := k_slice hkc2
  obtain ⟨inf, z, h1, h2, h3, h4, cs, h5, h6, h7⟩ := (tok x he).inf
  have hie : inf.size = esz := by rw [h1] at hsz; simpa using hsz
  have hzl : z.cells.size = esz := by
    have := CR_len c _ _ (plain_CR c _ _ h5)
    rw [← hz, ← this, ← h7]; simp
  have hyv := ho y (by simp [h, Op.operands, Call.operands])
  rw [hy] at hyv
  obtain ⟨sa, scap, hl, hn0, hvy⟩ := VR_own hyv
  obtain ⟨a, cap, css, hvq, k1, k2, k3⟩ := elems_cells hM (ho q (by simp [h, Op.operands, Call.operands])) hq
  have hcl : css.flatten.length = ys.length * esz := by rw [CRs_len c _ _ k1, sizes_same k2]
  have hmax : vs.length + ys.length ≤ 140737488355328 := Nat.le_trans (Nat.le_mul_of_pos_right _ hb) hfit
  have hob := hM.obj sh j _ _ hrow hl
  obtain ⟨h0, hpos, hplace⟩ := hob
  have hall : ∀ v ∈ vs ++ ys, v.size = esz := by
    intro v hv
    rcases List.mem_append.1 hv with hv | hv
    · exact h0 v hv
    · exact k2 v hv
  have hver2 : (AO.row esz (vs ++ ys)).ver = vs.length + ys.length := by simp [AO.ver]
  have hrun0 : ∀ r w', (Builtin.append_ #[t, t2] o.type #[.slice sa vs.length scap, .slice a ys.length cap]).run x.P c.w = .ok r w' → (execOp ρ o).run x.P c.w = .ok (.value r) w' := by
    intro r w' hr
    simp [execOp, h, resolve, invoke, builtin, hvy, hvq] at hr ⊢
    rw [hr]; rfl
  by_cases hroom : vs.length + ys.length ≤ scap
  · rcases hplace with ⟨e1, e2⟩ | ⟨m, cap', cur, tt, css0, e1, b1, b2, b3, b4, b5, b6⟩
    · cases e1
      subst e2
      have hys : ys = [] := List.eq_nil_of_length_eq_zero (by simpa using hroom)
      subst hys
      rw [CRs] at k1
      subst k1
      have hr := app_room (P := x.P) (ty := o.type) hu hu2 h1 (w := c.w) (w' := c.w) (sa := none) (n := 0) (cap := 0) (m := 0) (x := .slice a 0 cap) (news := []) (fun w => lenOf_run w) (by cases a <;> simp [Builtin.firstCells, loadCells, loadCellsFrom]) (by omega) rfl
      have ht := turn_obj hM hrow rfl hl (w' := c.w) (o := .row esz ([] ++ [])) (pl := (none, 0)) rfl (Nat.le_refl _) (fun q hq => by
          have : c.lam sh j (AO.row esz ([] ++ [])).ver = some (none, 0) := hl
          rw [this] at hq; exact (Option.some.inj hq).symm) ((Turn.refl _ _)) ⟨by simp, hpos, .inl ⟨rfl, rfl⟩⟩ (fun a ha => by cases ha)
      have ht1 := ht.1
      have ht2 := ht.2
      rw [← AS.mem_setMem] at ht1 ht2
      refine ⟨.value (.slice none 0 0), ⟨c.w, c.Fz, updL c.lam sh j (AO.row esz ([] ++ [])).ver (none, 0)⟩, hrun0 _ _ hr, .inl ⟨.slice none 0 0, rfl, [.slice none 0 0], ?_, rfl⟩, ht1, ht2⟩
      rw [CR]
      exact ⟨none, 0, updL_same _ _ _ _ _, ⟨fun _ => rfl, Nat.le_refl _⟩, rfl⟩
    · cases e1
      have hcl0 : css0.flatten.length = vs.length * esz := by rw [CRs_len c _ _ b5, sizes_same h0]
      have hfitc : vs.length * esz + ys.length * esz ≤ cur.size := by rw [b4, ← Nat.add_mul]; exact Nat.mul_le_mul_right _ hroom
      have hst := run_storeCells_at x.P m (vs.length * esz) tt css.flatten 0 cur c.w b1 (by omega) (CRs_each c _ _ k1)
      have hcur : cur.toList = css0.flatten ++ cur.toList.drop (vs.length * esz) := by rw [← b6, List.take_append_drop]
      have hr := app_room (P := x.P) (ty := o.type) hu hu2 h1 (w := c.w) (sa := some ⟨m, 0, none⟩) (n := vs.length) (cap := scap) (m := ys.length) (x := .slice a ys.length cap) (news := css.flatten) (fun w => lenOf_run w)
        (by rw [hie]; exact firstCells_run k1 k2 k3) hroom (by
          show (storeCells _ _).run x.P c.w = _
          rw [add_lit, Nat.zero_add, hie]; exact hst)
      simp only [Nat.add_zero, b6] at hr
      have ht := turn_obj hM hrow rfl hl (o := .row esz (vs ++ ys)) (pl := (some ⟨m, 0, none⟩, scap)) (w' := c.w.setRow m (css0.flatten ++ css.flatten ++ cur.toList.drop (vs.length * esz + css.flatten.length)).toArray) rfl (by rw [hver2]; simp [AO.ver]) (fun q hq => by
          rw [hver2] at hq
          by_cases e : ys.length = 0
          · rw [e, Nat.add_zero] at hq
            have hl' : c.lam sh j vs.length = some (some ⟨m, 0, none⟩, scap) := hl
            rw [hl'] at hq; exact (Option.some.inj hq).symm
          · obtain ⟨o', ho', hle'⟩ := hM.dom sh j _ _ hq
            rw [hrow] at ho'
            cases ho'
            have := hle' rfl
            simp only [AO.ver] at this
            omega) ((Turn.setRow _ _ _).mono fun m' h => ⟨_, rfl, h⟩) ?_ (fun a ha => .inr ⟨a, ha, rfl⟩)
      · have ht1 := ht.1
        have ht2 := ht.2
        rw [← AS.mem_setMem] at ht1 ht2
        refine ⟨.value (.slice (some ⟨m, 0, none⟩) (vs.length + ys.length) scap), _, hrun0 _ _ hr, .inl ⟨.slice (some ⟨m, 0, none⟩) (vs.length + ys.length) scap, rfl, [.slice (some ⟨m, 0, none⟩) (vs.length + ys.length) scap], ?_, rfl⟩, ht1, ht2⟩
        rw [CR]
        refine ⟨_, scap, ?_, ⟨(fun h => by cases h), by omega⟩, rfl⟩
        rw [← hver2]
        exact updL_same _ _ _ _ _
      · have hown : Owns c.lam s.mem sh j m := ⟨_, _, _, hrow, rfl, hl, rfl⟩
        have hle2 : c.le ⟨c.w.setRow m (css0.flatten ++ css.flatten ++ cur.toList.drop (vs.length * esz + css.flatten.length)).toArray, c.Fz, updL c.lam sh j (AO.row esz (vs ++ ys)).ver (some ⟨m, 0, none⟩, scap)⟩ := by
          refine ⟨fun _ h => h, fun m' hm' => setRow_other _ _ _ _ ?_, fun sh' j' ver' q hq => updL_le (fun p hp => ?_) hq⟩
          · rintro rfl
            exact hM.unf sh j _ hown hm'
          · rw [hver2] at hp
            by_cases e : ys.length = 0
            · rw [e, Nat.add_zero] at hp
              have hl' : c.lam sh j vs.length = some (some ⟨m, 0, none⟩, scap) := hl
              rw [hl'] at hp; exact (Option.some.inj hp).symm
            · obtain ⟨o', ho', hle'⟩ := hM.dom sh j _ _ hp
              rw [hrow] at ho'
              cases ho'
              have := hle' rfl
              simp only [AO.ver] at this
              omega
        refine ⟨hall, hpos, .inr ⟨m, scap, _, tt, css0 ++ css, rfl, setRow_heap _ _ _ _ _ _ b1, by simpa using hroom, b3, ?_, CRs_append (CRs_mono hle2 _ _ b5) (CRs_mono hle2 _ _ k1), ?_⟩⟩
        · have hcu : cur.toList.length = scap * esz := by simpa using b4
          have : vs.length * esz + ys.length * esz ≤ scap * esz := by rw [← Nat.add_mul]; exact Nat.mul_le_mul_right _ hroom
          rw [List.size_toArray, List.length_append, List.length_append, hcl0, hcl, List.length_drop, hcu]
          omega
        · show List.take ((vs ++ ys).length * esz) (css0.flatten ++ css.flatten ++ _) = _
          have : (vs ++ ys).length * esz = (css0.flatten ++ css.flatten).length := by simp only [List.length_append, hcl0, hcl, Nat.add_mul]
          rw [this, List.take_left, List.flatten_append]
  · have hgrow : scap < vs.length + ys.length := by omega
    have hold : ∃ css0, CRs c vs css0 ∧ (vs ≠ [] → ∃ ad, sa = some ad ∧ ∀ (k : Nat) (u : Value), css0.flatten[k]? = some u → c.w.cell? (ad.add k) = some u) := by
      have he0 : s.elems esz (.own sh j vs.length) = some vs := by simp [AS.elems, hrow]
      obtain ⟨a0, cap0, css0, f1, f2, f3, f4⟩ := elems_cells hM hyv he0
      rw [hvy] at f1
      cases f1
      exact ⟨css0, f2, f4⟩
    obtain ⟨css0, b5, hmem0⟩ := hold
    have hcl0 : css0.flatten.length = vs.length * esz := by rw [CRs_len c _ _ b5, sizes_same h0]
    have hr := app_grow (P := x.P) (ty := o.type) hu hu2 h1 h4 (w := c.w) (sa := sa) (n := vs.length) (cap := scap) (m := ys.length) (x := .slice a ys.length cap) (olds := css0.flatten) (news := css.flatten) (fun w => lenOf_run w)
      (by rw [hie]; exact firstCells_run k1 k2 (w := c.w.drew) (fun hne => k3 hne)) (by rw [hie]; exact firstCells_run b5 h0 (w := c.w.drew) (fun hne => hmem0 hne)) hgrow (by omega) (by rw [h3]; exact hfit)
    have hge := grownCap_ge c.w (vs.length + ys.length) scap e
    have hle := grownCap_le_maxLen c.w (vs.length + ys.length) scap e (by simp only [maxLen]; omega)
    generalize hg : grownCap c.w (vs.length + ys.length) scap e = gc at hr hge hle
    have htu : Turn c.w (c.w.drew.alloc (.cells (css0.flatten.toArray ++ css.flatten.toArray ++ Builtin.zeroCells z.cells (gc - (vs.length + ys.length))) e)) (fun _ => False) := (Turn.drew c.w _).trans (Turn.alloc _ _ _)
    have hfresh : ∀ q, c.lam sh j (AO.row esz (vs ++ ys)).ver = some q → ys.length = 0 := by
      intro q hq
      obtain ⟨o', ho', hle'⟩ := hM.dom sh j _ _ hq
      rw [hrow] at ho'
      cases ho'
      have := hle' rfl
      rw [hver2] at this
      simp only [AO.ver] at this
      omega
    have hyne : ys.length ≠ 0 := by
      intro e
      rcases hplace with ⟨e1, e2⟩ | ⟨m, cap', cur, tt, css1, e1, b1, b2, _⟩
      · cases e1; subst e2; simp [e] at hgrow
      · cases e1; omega
    have ht := turn_obj hM hrow rfl hl (o := .row esz (vs ++ ys)) (pl := (some ⟨c.w.heap.size, 0, none⟩, gc)) (w' := c.w.drew.alloc (.cells (css0.flatten.toArray ++ css.flatten.toArray ++ Builtin.zeroCells z.cells (gc - (vs.length + ys.length))) e)) rfl (by rw [hver2]; simp [AO.ver]) (fun q hq => (hyne (hfresh q hq)).elim) (htu.mono (fun _ h => h.elim)) ?_ (fun a ha => by cases ha; exact .inl (Nat.le_refl _))
    · have ht1 := ht.1
      have ht2 := ht.2
      rw [← AS.mem_setMem] at ht1 ht2
      refine ⟨.value (.slice (some ⟨c.w.heap.size, 0, none⟩) (vs.length + ys.length) gc), _, hrun0 _ _ hr, .inl ⟨.slice (some ⟨c.w.heap.size, 0, none⟩) (vs.length + ys.length) gc, rfl, [.slice (some ⟨c.w.heap.size, 0, none⟩) (vs.length + ys.length) gc], ?_, rfl⟩, ht1, ht2⟩
      rw [CR]
      refine ⟨_, gc, ?_, ⟨(fun h => by cases h), by omega⟩, rfl⟩
      rw [← hver2]
      exact updL_same _ _ _ _ _
    · have hle2 : c.le ⟨c.w.drew.alloc (.cells (css0.flatten.toArray ++ css.flatten.toArray ++ Builtin.zeroCells z.cells (gc - (vs.length + ys.length))) e), c.Fz, updL c.lam sh j (AO.row esz (vs ++ ys)).ver (some ⟨c.w.heap.size, 0, none⟩, gc)⟩ :=
        ⟨fun _ h => h, fun m hm => htu.same m (hM.fzl m hm) (fun h => h), fun sh' j' ver' q hq => updL_le (fun p hp => (hyne (hfresh p hp)).elim) hq⟩
      refine ⟨hall, hpos, .inr ⟨_, gc, _, e, css0 ++ css, rfl, heap_alloc_new c.w.drew _, by simpa using hge, hle, ?_, CRs_append (CRs_mono hle2 _ _ b5) (CRs_mono hle2 _ _ k1), ?_⟩⟩
      · have hm : vs.length * esz + ys.length * esz + (gc - (vs.length + ys.length)) * esz = gc * esz := by rw [← Nat.add_mul, ← Nat.add_mul]; congr 1; omega
        simp only [Array.size_append, List.size_toArray, size_zeroCells, hzl, hcl, hcl0]
        exact hm
      · have : (vs ++ ys).length * esz = (css0.flatten ++ css.flatten).length := by simp only [List.length_append, hcl0, hcl, Nat.add_mul]
        rw [this]
        simp only [Array.toList_append]
        rw [List.take_append_of_le_length (by simp), List.take_length]
        simp

end Go.Abs
/- What is handed to another function: rows are frozen, variables are shared. -/
set_option linter.unusedVariables false
set_option linter.unusedSimpArgs false
namespace Go.Abs
open Go.RowKit

/-- No private object is referred to. -/
abbrev shd : Bool → Nat → Bool := fun sh _ => sh

/-- 'v' stands in place of 'u' from now on. -/
def Becomes (s : AS) (u : AV) (s' : AS) (v : AV) : Prop :=
  ∀ (c : Cx), MemR c s.mem → ∃ d : Cx, d.w = c.w ∧ MemR d s'.mem ∧ Step c s.mem d s'.mem ∧ c.le d ∧ u.isAgg = v.isAgg ∧ u.size = v.size ∧ ∀ cs, CR c u cs → CR d v cs

theorem Becomes.refl (s : AS) (u : AV) : Becomes s u s u := fun c hM => ⟨c, rfl, hM, Step.refl _ _, Cx.le.refl _, rfl, rfl, fun _ h => h⟩

theorem becomes_frozen {s : AS} {j : Nat} {sz : Nat} {vs : List AV} (h : s.loc[j]? = some (.row sz vs)) : Becomes s (.own false j vs.length) (s.setMem false j (.frow sz vs)) (.lit sz vs) := by
  intro c hM
  have hx : (s.mem false)[j]? = some (.row sz vs) := by simpa [AS.mem] using h
  have hf := freeze_obj hM hx
  simp only at hf
  obtain ⟨h1, h2⟩ := hf
  rw [← AS.mem_setMem] at h1 h2
  refine ⟨⟨c.w, fun m => c.Fz m ∨ Owns c.lam s.mem false j m, c.lam⟩, rfl, h1, h2, h2.le hM, rfl, by simp [AV.size], ?_⟩
  intro cs hc
  rw [CR] at hc
  obtain ⟨a, cap, hl, hn, rfl⟩ := hc
  have ho := h1.obj false j (.frow sz vs) (a, cap) (by rw [AS.mem_setMem]; exact setM_same hx) hl
  obtain ⟨h0, hz, css, k1, k2, k3, k4⟩ := ho
  rw [CR]
  exact ⟨h0, a, cap, css, k1, rfl, k2, k3, k4⟩

theorem becomes_lit {s : AS} {j : Nat} {sz : Nat} {vs : List AV} (h : s.loc[j]? = some (.frow sz vs)) : Becomes s (.own false j vs.length) s (.lit sz vs) := by
  intro c hM
  refine ⟨c, rfl, hM, Step.refl _ _, Cx.le.refl _, rfl, by simp [AV.size], ?_⟩
  intro cs hc
  rw [CR] at hc
  obtain ⟨a, cap, hl, hn, rfl⟩ := hc
  have ho := hM.obj false j (.frow sz vs) (a, cap) (by simpa [AS.mem] using h) hl
  obtain ⟨h0, hz, css, k1, k2, k3, k4⟩ := ho
  rw [CR]
  exact ⟨h0, a, cap, css, k1, rfl, k2, k3, k4⟩

theorem becomes_litX {s : AS} {j : Nat} {sz : Nat} {vs : List AV} (h : s.loc[j]? = some (.xrow sz vs)) : Becomes s (.own false j vs.length) s (.lit sz vs) := by
  intro c hM
  refine ⟨c, rfl, hM, Step.refl _ _, Cx.le.refl _, rfl, by simp [AV.size], ?_⟩
  intro cs hc
  rw [CR] at hc
  obtain ⟨a, cap, hl, hn, rfl⟩ := hc
  have ho := hM.obj false j (.xrow sz vs) (a, cap) (by simpa [AS.mem] using h) hl
  obtain ⟨h0, hz, css, k1, k2, k3, k4⟩ := ho
  rw [CR]
  exact ⟨h0, a, cap, css, k1, rfl, Nat.le_of_eq k2.symm, k3, k4⟩

theorem becomes_fwd {s : AS} {j k : Nat} (h : s.loc[j]? = some (.fwd k)) (p : List Nat) (off : Nat) : Becomes s (.ref false j 0 p off) s (.ref true k 0 p off) := by
  intro c hM
  refine ⟨c, rfl, hM, Step.refl _ _, Cx.le.refl _, rfl, by simp [AV.size], ?_⟩
  intro cs hc
  rw [CR] at hc
  obtain ⟨ad, cap, hl, rfl⟩ := hc
  have ho := hM.obj false j (.fwd k) (some ad, cap) (by simpa [AS.mem] using h) hl
  rw [CR]
  exact ⟨ad, cap, ho, rfl⟩

/-- A private variable becomes a shared one. -/
theorem becomes_shared {s : AS} {j : Nat} {v : AV} (h : s.loc[j]? = some (.cell v)) (p : List Nat) (off : Nat) :
    Becomes s (.ref false j 0 p off) { s with loc := s.loc.set j (.fwd s.H.length), H := s.H ++ [.cell v] } (.ref true s.H.length 0 p off) := by
  intro c hM
  have hx : (s.mem false)[j]? = some (.cell v) := by simpa [AS.mem] using h
  have hnone : ∀ ver, c.lam true s.H.length ver = none := by
    intro ver
    cases hl : c.lam true s.H.length ver with
    | none => rfl
    | some p =>
      obtain ⟨u, hu, _⟩ := hM.dom _ _ _ _ hl
      have := getlt hu
      simp [AS.mem] at this
  let lam' : Lam := fun sh j' ver => if sh = true ∧ j' = s.H.length ∧ ver = 0 then c.lam false j 0 else c.lam sh j' ver
  let M' : Mem := mem (s.loc.set j (.fwd s.H.length)) (s.H ++ [.cell v])
  have hle : ∀ sh j' ver q, c.lam sh j' ver = some q → lam' sh j' ver = some q := by
    intro sh j' ver q hq
    simp only [lam']
    split
    · rename_i e; obtain ⟨rfl, rfl, rfl⟩ := e; rw [hnone] at hq; cases hq
    · exact hq
  have hnew : lam' true s.H.length 0 = c.lam false j 0 := by simp [lam']
  have hMold : ∀ sh i o, (M' sh)[i]? = some o → ((sh = true ∧ i = s.H.length ∧ o = .cell v) ∨ (sh = false ∧ i = j ∧ o = .fwd s.H.length) ∨ (¬ (sh = true ∧ i = s.H.length) ∧ ¬ (sh = false ∧ i = j) ∧ (s.mem sh)[i]? = some o)) := by
    intro sh i o ho
    cases sh with
    | true =>
      simp only [M', mem_true] at ho
      rcases Nat.lt_or_ge i s.H.length with hl | hl
      · rw [List.getElem?_append_left hl] at ho
        exact .inr (.inr ⟨by omega, by simp, by simpa [AS.mem] using ho⟩)
      · rw [List.getElem?_append_right hl] at ho
        have hi : i - s.H.length = 0 := by
          rcases Nat.eq_zero_or_pos (i - s.H.length) with h0 | h0
          · exact h0
          · rw [List.getElem?_eq_none (by simp; omega)] at ho; cases ho
        rw [hi] at ho
        simp at ho
        exact .inl ⟨rfl, by omega, ho.symm⟩
    | false =>
      simp only [M', mem_false] at ho
      by_cases e : i = j
      · subst e
        rw [List.getElem?_set_self (List.getElem?_eq_some_iff.1 h).1] at ho
        cases ho
        exact .inr (.inl ⟨rfl, rfl, rfl⟩)
      · rw [List.getElem?_set_ne (Ne.symm e)] at ho
        exact .inr (.inr ⟨by simp, by simpa using e, by simpa [AS.mem] using ho⟩)
  have hown : ∀ sh i m, Owns lam' M' sh i m → (sh = true ∧ i = s.H.length ∧ Owns c.lam s.mem false j m) ∨ (¬ (sh = false ∧ i = j) ∧ ¬ (sh = true ∧ i = s.H.length) ∧ Owns c.lam s.mem sh i m) := by
    rintro sh i m ⟨o, a, cap, h1, h2, h3, rfl⟩
    rcases hMold sh i o h1 with ⟨rfl, rfl, rfl⟩ | ⟨rfl, rfl, rfl⟩ | ⟨e1, e2, h4⟩
    · left
      refine ⟨rfl, rfl, .cell v, a, cap, hx, rfl, ?_, rfl⟩
      have : lam' true s.H.length 0 = some (some a, cap) := h3
      rw [hnew] at this
      exact this
    · simp [AO.owned] at h2
    · right
      refine ⟨e2, e1, o, a, cap, h4, h2, ?_, rfl⟩
      have h3' := h3
      simp only [lam'] at h3'
      rwa [if_neg (fun e => e1 ⟨e.1, e.2.1⟩)] at h3'
  have hlec : c.le ⟨c.w, c.Fz, lam'⟩ := ⟨fun _ h => h, fun _ _ => rfl, hle⟩
  have hst : Step c s.mem ⟨c.w, c.Fz, lam'⟩ M' :=
    ⟨Turn.refl _ _, fun _ h => h, fun _ h => .inl h, hle, fun sh i m hm => by
      rcases hown sh i m hm with ⟨_, _, h⟩ | ⟨_, _, h⟩
      · exact .inr ⟨false, j, h⟩
      · exact .inr ⟨sh, i, h⟩, by simp [M', AS.mem], by simp [M', AS.mem], fun i hi hn ver => by simp [lam', hn]⟩
  refine ⟨⟨c.w, c.Fz, lam'⟩, rfl, ⟨?_, ?_, ?_, ?_, hM.fzl⟩, hst, hlec, rfl, by simp [AV.size], ?_⟩
  · intro sh i o pl h1 h2
    rcases hMold sh i o h1 with ⟨rfl, rfl, rfl⟩ | ⟨rfl, rfl, rfl⟩ | ⟨e1, e2, h4⟩
    · have h2' : c.lam false j 0 = some pl := by rw [← hnew]; exact h2
      exact ObjAt_keep (hM.obj false j (.cell v) pl hx h2') hlec (fun _ _ _ => rfl)
    · have h2' : c.lam false i 0 = some pl := by
        have h2'' := h2
        simp only [lam', AO.ver] at h2''
        rwa [if_neg (by simp)] at h2''
      show lam' true s.H.length 0 = some pl
      rw [hnew]; exact h2'
    · have h2' : c.lam sh i o.ver = some pl := by
        have h2'' := h2
        simp only [lam'] at h2''
        rwa [if_neg (fun e => e1 ⟨e.1, e.2.1⟩)] at h2''
      exact ObjAt_keep (hM.obj sh i o pl h4 h2') hlec (fun _ _ _ => rfl)
  · intro sh i ver pl h1
    by_cases e : sh = true ∧ i = s.H.length ∧ ver = 0
    · obtain ⟨rfl, rfl, rfl⟩ := e
      exact ⟨.cell v, by simp [AS.mem], fun _ => Nat.zero_le _⟩
    · have h1' : c.lam sh i ver = some pl := by
        have h1'' := h1
        simp only [lam'] at h1''
        rwa [if_neg e] at h1''
      obtain ⟨o, ho, hv⟩ := hM.dom sh i ver pl h1'
      by_cases e2 : sh = false ∧ i = j
      · obtain ⟨rfl, rfl⟩ := e2
        exact ⟨.fwd s.H.length, by simp [AS.mem, (List.getElem?_eq_some_iff.1 h).1], fun h => by simp [AO.owned] at h⟩
      · refine ⟨o, ?_, hv⟩
        cases sh with
        | true =>
          have := getlt ho
          simp [AS.mem] at this ho ⊢
          rw [List.getElem?_append_left this]; exact ho
        | false =>
          simp [AS.mem] at ho ⊢
          rw [List.getElem?_set_ne (fun e => e2 ⟨rfl, e.symm⟩)]; exact ho
  · intro sh i sh' i' m h1 h2
    rcases hown sh i m h1 with ⟨e1, e2, h3⟩ | ⟨e1, _, h3⟩ <;> rcases hown sh' i' m h2 with ⟨e3, e4, h4⟩ | ⟨e3, _, h4⟩
    · exact ⟨e1.trans e3.symm, e2.trans e4.symm⟩
    · obtain ⟨rfl, rfl⟩ := hM.sep _ _ _ _ m h3 h4
      exact (e3 ⟨rfl, rfl⟩).elim
    · obtain ⟨rfl, rfl⟩ := hM.sep _ _ _ _ m h4 h3
      exact (e1 ⟨rfl, rfl⟩).elim
    · exact hM.sep _ _ _ _ m h3 h4
  · intro sh i m h1
    rcases hown sh i m h1 with ⟨e1, e2, h3⟩ | ⟨e1, _, h3⟩
    · exact hM.unf _ _ m h3
    · exact hM.unf _ _ m h3
  · intro cs hc
    rw [CR] at hc ⊢
    obtain ⟨ad, cap, hl, rfl⟩ := hc
    exact ⟨ad, cap, hnew.trans hl, rfl⟩

mutual
/-- What stands for a value where it is handed out. -/
def AS.expo (s : AS) : AV → AV × AS
  | .own false j ver => match s.loc[j]? with
    | some (.row sz vs) => if vs.length = ver then (.lit sz vs, s.setMem false j (.frow sz vs)) else (.own false j ver, s)
    | some (.frow sz vs) => if vs.length = ver then (.lit sz vs, s) else (.own false j ver, s)
    | some (.xrow sz vs) => if vs.length = ver then (.lit sz vs, s) else (.own false j ver, s)
    | _ => (.own false j ver, s)
  | .ref false j 0 p off => match s.loc[j]? with
    | some (.cell v) => (.ref true s.H.length 0 p off, { s with loc := s.loc.set j (.fwd s.H.length), H := s.H ++ [.cell v] })
    | some (.fwd k) => (.ref true k 0 p off, s)
    | _ => (.ref false j 0 p off, s)
  | .agg vs => let r := s.expos vs; (.agg r.1, r.2)
  | .func fn f g => let r := s.expos g; (.func fn f r.1, r.2)
  | v => (v, s)
def AS.expos (s : AS) : List AV → List AV × AS
  | [] => ([], s)
  | v :: vs => if v.ok shd then let r := s.expos vs; (v :: r.1, r.2) else let q := s.expo v; let r := q.2.expos vs; (q.1 :: r.1, r.2)
end
/-- Several values stand in place of others. -/
def BecomeL (s : AS) (us : List AV) (s' : AS) (vs : List AV) : Prop :=
  ∀ (c : Cx), MemR c s.mem → ∃ d : Cx, d.w = c.w ∧ MemR d s'.mem ∧ Step c s.mem d s'.mem ∧ c.le d ∧ us.map AV.isAgg = vs.map AV.isAgg ∧ us.map AV.size = vs.map AV.size ∧ ∀ css, CRs c us css → CRs d vs css

theorem vOf_same {u v : AV} (h : u.isAgg = v.isAgg) (cs : List Value) : vOf u cs = vOf v cs := by simp [vOf, h]

mutual
theorem expo_becomes : ∀ (s : AS) (v : AV), Becomes s v (s.expo v).2 (s.expo v).1
  | s, .own false j ver => by
    rw [AS.expo]
    split
    · split
      · rename_i sz vs h e; subst e; exact becomes_frozen h
      · exact Becomes.refl _ _
    · split
      · rename_i sz vs h e; subst e; exact becomes_lit h
      · exact Becomes.refl _ _
    · split
      · rename_i sz vs h e; subst e; exact becomes_litX h
      · exact Becomes.refl _ _
    · exact Becomes.refl _ _
  | s, .own true j ver => by rw [AS.expo]; exact Becomes.refl _ _; all_goals simp
  | s, .ref false j 0 p off => by
    rw [AS.expo]
    split
    · rename_i v h; exact becomes_shared h p off
    · rename_i k h; exact becomes_fwd h p off
    · exact Becomes.refl _ _
  | s, .ref false j (n + 1) p off => by rw [AS.expo]; exact Becomes.refl _ _; all_goals simp
  | s, .ref true j n p off => by rw [AS.expo]; exact Becomes.refl _ _; all_goals simp
  | s, .agg vs => by
    rw [AS.expo]
    intro c hM
    obtain ⟨d, h1, h2, h3, h4, h5, h6, h7⟩ := expos_becomes s vs c hM
    refine ⟨d, h1, h2, h3, h4, rfl, ?_, ?_⟩
    · simp only [AV.size, sizes_eq, h6]
    · intro cs hc
      rw [CR] at hc ⊢
      obtain ⟨css, hc, e⟩ := hc
      exact ⟨css, h7 css hc, e⟩
  | s, .func fn f g => by
    rw [AS.expo]
    intro c hM
    obtain ⟨d, h1, h2, h3, h4, h5, h6, h7⟩ := expos_becomes s g c hM
    refine ⟨d, h1, h2, h3, h4, rfl, by simp [AV.size], ?_⟩
    intro cs hc
    rw [CR] at hc ⊢
    obtain ⟨fs, gs, k1, k2, e⟩ := hc
    refine ⟨fs, gs, CRs_mono h4 _ _ k1, h7 _ k2, ?_⟩
    rw [e]
    have key : ∀ (us vs : List AV) (gs : List (List Value)), us.map AV.isAgg = vs.map AV.isAgg → (us.zip gs).map (fun p => vOf p.1 p.2) = (vs.zip gs).map (fun p => vOf p.1 p.2) := by
      intro us
      induction us with
      | nil => intro vs gs h; cases vs with | nil => rfl | cons _ _ => simp at h
      | cons u us ih =>
        intro vs gs h
        cases vs with
        | nil => simp at h
        | cons v vs =>
          simp only [List.map_cons, List.cons.injEq] at h
          cases gs with
          | nil => rfl
          | cons x gs => simp [vOf_same h.1, ih vs gs h.2]
    rw [key _ _ _ h5]
  | s, .any => by rw [AS.expo]; exact Becomes.refl _ _; all_goals simp
  | s, .bool _ => by rw [AS.expo]; exact Becomes.refl _ _; all_goals simp
  | s, .int _ _ => by rw [AS.expo]; exact Becomes.refl _ _; all_goals simp
  | s, .str _ => by rw [AS.expo]; exact Becomes.refl _ _; all_goals simp
  | s, .arr _ _ => by rw [AS.expo]; exact Becomes.refl _ _; all_goals simp
  | s, .lit _ _ => by rw [AS.expo]; exact Becomes.refl _ _; all_goals simp
  | s, .nilS => by rw [AS.expo]; exact Becomes.refl _ _; all_goals simp
  | s, .pin _ => by rw [AS.expo]; exact Becomes.refl _ _; all_goals simp
  | s, .nilP => by rw [AS.expo]; exact Becomes.refl _ _; all_goals simp
  | s, .nilF => by rw [AS.expo]; exact Becomes.refl _ _; all_goals simp
  | s, .mapr _ _ => by rw [AS.expo]; exact Becomes.refl _ _; all_goals simp
  | s, .nilM => by rw [AS.expo]; exact Becomes.refl _ _; all_goals simp
  | s, .iface _ _ => by rw [AS.expo]; exact Becomes.refl _ _; all_goals simp
  | s, .nilI => by rw [AS.expo]; exact Becomes.refl _ _; all_goals simp
  | s, .tup _ => by rw [AS.expo]; exact Becomes.refl _ _; all_goals simp
  | s, .yld _ _ => by rw [AS.expo]; exact Becomes.refl _ _; all_goals simp
  | s, .win _ _ _ _ _ => by rw [AS.expo]; exact Becomes.refl _ _; all_goals simp
theorem expos_becomes : ∀ (s : AS) (vs : List AV), BecomeL s vs (s.expos vs).2 (s.expos vs).1
  | s, [] => by
    rw [AS.expos]
    exact fun c hM => ⟨c, rfl, hM, Step.refl _ _, Cx.le.refl _, rfl, rfl, fun _ h => h⟩
  | s, v :: vs => by
    rw [AS.expos]
    split
    · intro c hM
      obtain ⟨d, h1, h2, h3, h4, h5, h6, h7⟩ := expos_becomes s vs c hM
      refine ⟨d, h1, h2, h3, h4, by simp [h5], by simp [h6], ?_⟩
      intro css hc
      rw [CRs] at hc ⊢
      obtain ⟨y, ys, e, k1, k2⟩ := hc
      exact ⟨y, ys, e, CR_mono h4 _ _ k1, h7 _ k2⟩
    · intro c hM
      obtain ⟨d, h1, h2, h3, h4, h5, h6, h7⟩ := expo_becomes s v c hM
      obtain ⟨d', g1, g2, g3, g4, g5, g6, g7⟩ := expos_becomes (s.expo v).2 vs d h2
      refine ⟨d', g1.trans h1, g2, h3.trans g3 hM, h4.trans g4, by simp [h5, g5], by simp [h6, g6], ?_⟩
      intro css hc
      rw [CRs] at hc ⊢
      obtain ⟨y, ys, e, k1, k2⟩ := hc
      exact ⟨y, ys, e, CR_mono g4 _ _ (h7 _ k1), g7 _ (CRs_mono h4 _ _ k2)⟩
end
end Go.Abs
/- Calls: what a function is said to do, and a call's step. -/
set_option linter.unusedVariables false
set_option linter.unusedSimpArgs false
namespace Go.Abs
open Go.RowKit

/-- What is said of a function: called with 'args', the shared objects being 'H', it returns 'r', hands over the objects 'R' (numbered from 'n' on), and leaves the shared objects 'H''. -/
def ACall (x : X) (f : FuncId) (args : List AV) (n : Nat) (H : List AO) (Q : AV → List AO → List AO → Prop) : Prop :=
  (∀ (as : Array Value) (w : World), (callFunc f as).run x.P w = .ok (.enter f as) w) ∧
  ∀ (c : Cx) (ms : List Value), MemR c (mem [] H) → args.length = ms.length → (∀ (i : Nat) (v : AV) (m : Value), args[i]? = some v → ms[i]? = some m → VR c v m) →
    Calls x.P f ms.toArray c.w (fun e w' => ∃ (m : Value) (r : AV) (R H' : List AO) (d : Cx), e = .returned m ∧ d.w = w' ∧ Q r R H' ∧ VR d r m ∧ MemR d (mem (List.replicate n .dead ++ R) H') ∧ Ev c H d (mem (List.replicate n .dead ++ R) H') ∧ (∀ j ver, j < n → d.lam false j ver = none) ∧ H.length ≤ H'.length)

theorem ACall.mono {x : X} {f : FuncId} {args : List AV} {n : Nat} {H : List AO} {Q Q' : AV → List AO → List AO → Prop} (h : ACall x f args n H Q) (hq : ∀ r R H', Q r R H' → Q' r R H') : ACall x f args n H Q' :=
  ⟨h.1, fun c ms h1 h2 h3 => (h.2 c ms h1 h2 h3).mono fun e w' ⟨m, r, R, H', d, k1, k2, k3, k4⟩ => ⟨m, r, R, H', d, k1, k2, hq _ _ _ k3, k4⟩⟩

/-- Where a walk takes place: in a function's activation, or in a round of a range over a function. -/
def fen (r : Option Nat) : Fence := { Fence.wide with round := r }
theorem calls_fen {P : Program} {f : FuncId} {as : Array Value} {w : World} {R : Ending → World → Prop} (r : Option Nat) (n : Nat) (h : Calls P f as w R) : CallsIn (fen r) n P f as w R := by
  have h1 : CallsIn Fence.wide n P f as w R := callsIn_wide.2 h
  exact ⟨trivial, fun cs _ => h1.2 cs (room_wide _)⟩
def _root_.Go.Oper.wpX (x : X) (o : Oper) (a : Act) (w : World) (next : Act → World → Prop) (Q : Exit → Act → World → Prop) : Prop := o.uponIn (fen x.rd) 0 x.P a next Q ((execOp a.eval o).run x.P w)
theorem wpX_mono {x : X} {o : Oper} {a : Act} {w : World} {K K' : Act → World → Prop} {Q : Exit → Act → World → Prop} (h : ∀ a w, K a w → K' a w)
    (hh : o.wpX x a w K Q) : o.wpX x a w K' Q := by
  unfold Oper.wpX at *
  generalize (execOp a.eval o).run x.P w = r at *
  cases r with
  | ok y w' =>
    cases y <;> simp only [Oper.uponIn] at hh ⊢ <;>
      first
        | exact h _ _ hh
        | exact ⟨hh.1, CallsIn.mono hh.2 (fun e w'' he => by cases e <;> first | exact h _ _ he | exact he)⟩
        | exact ⟨hh.1, RowsIn.mono hh.2 (fun _ _ he => h _ _ he)⟩
        | exact ⟨hh.1, RoundIn.mono hh.2 (fun e w'' he => by cases e <;> first | exact h _ _ he | exact he)⟩
  | halt y w' => cases y <;> simp only [Oper.uponIn] at hh ⊢ <;> exact hh
def isDefer : Op → Bool | .defer _ => true | _ => false
theorem wpX_in {x : X} {o : Oper} {a : Act} {w : World} {K : Act → World → Prop} {Q : Exit → Act → World → Prop} (hd : isDefer o.op = false) (h : o.wpX x a w K Q) : o.wpIn (fen x.rd) 0 x.P a w K Q := by
  refine ⟨fun _ _ => trivial, ?_⟩
  rw [Oper.semAt_eq]
  · exact h
  · intro c hc
    rw [hc] at hd
    cases hd

/-- The step of one operation: whatever follows. -/
def OpW (x : X) (o : Oper) (s : AS) (K : AV → AS → Prop) : Prop :=
  ∀ (c : Cx) (a : Act) (Q : Exit → Act → World → Prop), MemR c s.mem → (∀ y ∈ o.op.operands, VR c (s.ev y) (a.eval y)) →
    o.wpX x a c.w (fun a' w' => ∃ (v : AV) (s' : AS) (d : Cx) (m : Value), a' = a.put o.dst m ∧ d.w = w' ∧ K v s' ∧ VR d v m ∧ MemR d s'.mem ∧ Step c s.mem d s'.mem ∧ s'.t = s.t) Q

theorem OpW.of_sim {x : X} {o : Oper} {s s' : AS} {v : AV} {K : AV → AS → Prop} (h : Sim x.P o s v s') (ht : s'.t = s.t) (hk : K v s') : OpW x o s K := by
  intro c a Q hM ho
  obtain ⟨n, d, hr, hn, h1, h2⟩ := h c a.eval hM ho
  unfold Oper.wpX
  rw [hr]
  rcases hn with ⟨m, rfl, hv⟩ | ⟨rfl, rfl⟩
  · exact ⟨v, s', d, m, rfl, rfl, hk, hv, h1, h2, ht⟩
  · exact ⟨.any, s', d, undef, rfl, rfl, hk, trivial, h1, h2, ht⟩

theorem OpW.of_pure {x : X} {o : Oper} {s : AS} {v : AV} {K : AV → AS → Prop} (h : Pure x.P o s v) (hk : K v s) : OpW x o s K := OpW.of_sim h.sim rfl hk

/-- Back from a call: the caller's own objects beside what the callee left. -/
theorem back {c d : Cx} {s : AS} {R H' : List AO} (hM : MemR c s.mem)
    (hM' : MemR d (mem (List.replicate s.loc.length .dead ++ R) H')) (hE : Ev ⟨c.w, c.Fz, fun sh j ver => if sh then c.lam true j ver else none⟩ s.H d (mem (List.replicate s.loc.length .dead ++ R) H')) (hn : ∀ j ver, j < s.loc.length → d.lam false j ver = none) (hH : s.H.length ≤ H'.length) :
    let d' : Cx := ⟨d.w, d.Fz, fun sh j ver => if sh then d.lam true j ver else if j < s.loc.length then c.lam false j ver else d.lam false j ver⟩
    d.le d' ∧ MemR d' (mem (s.loc ++ R) H') ∧ Step c s.mem d' (mem (s.loc ++ R) H') := by
  intro d'
  have hled : d.le d' := by
    refine ⟨fun _ h => h, fun _ _ => rfl, ?_⟩
    intro sh j ver q hq
    cases sh with
    | true => exact hq
    | false =>
      simp only [d']
      have : ¬ j < s.loc.length := fun hl => by rw [hn j ver hl] at hq; cases hq
      simp [this, hq]
  have hO : ∀ j m, Owns (fun sh j ver => if sh then c.lam true j ver else none : Lam) (mem [] s.H) true j m ↔ Owns c.lam s.mem true j m := fun j m => Iff.rfl
  have hsame : ∀ m, m < c.w.heap.size → (∀ j, ¬ Owns c.lam s.mem true j m) → d.w.heap[m]? = c.w.heap[m]? := fun m h1 h2 => hE.same m h1 (fun j hj => h2 j ((hO j m).1 hj))
  have hle : c.le d' := by
    refine ⟨hE.fz, ?_, ?_⟩
    · intro m hm
      exact hsame m (hM.fzl m hm) (fun j hj => hM.unf true j m hj hm)
    · intro sh j ver q hq
      obtain ⟨o, ho, _⟩ := hM.dom _ _ _ _ hq
      have hlt := getlt ho
      cases sh with
      | true => exact hE.lam j ver q (by simpa [AS.mem] using hlt) (by simpa using hq)
      | false =>
        rw [mem_len_false] at hlt
        simp only [d']
        simp [hlt, hq]
  have hmem : ∀ sh j o, (mem (s.loc ++ R) H' sh)[j]? = some o → (sh = false ∧ j < s.loc.length ∧ (s.mem false)[j]? = some o) ∨ ((sh = true ∨ s.loc.length ≤ j) ∧ (mem (List.replicate s.loc.length .dead ++ R) H' sh)[j]? = some o) := by
    intro sh j o ho
    cases sh with
    | true => exact .inr ⟨.inl rfl, ho⟩
    | false =>
      simp only [mem_false] at ho
      rcases Nat.lt_or_ge j s.loc.length with hl | hl
      · rw [List.getElem?_append_left hl] at ho
        exact .inl ⟨rfl, hl, by simpa [AS.mem] using ho⟩
      · rw [List.getElem?_append_right hl] at ho
        refine .inr ⟨.inr hl, ?_⟩
        simp only [mem_false]
        rw [List.getElem?_append_right (by simpa using hl)]
        simpa using ho
  have hlam : ∀ sh j ver, (sh = true ∨ s.loc.length ≤ j) → d'.lam sh j ver = d.lam sh j ver := by
    intro sh j ver h
    cases sh with
    | true => rfl
    | false =>
      have : ¬ j < s.loc.length := by rcases h with h | h; cases h; omega
      simp [d', this]
  have hlam2 : ∀ j ver, j < s.loc.length → d'.lam false j ver = c.lam false j ver := by
    intro j ver h
    simp [d', h]
  have hown : ∀ sh j m, Owns d'.lam (mem (s.loc ++ R) H') sh j m → (sh = false ∧ j < s.loc.length ∧ Owns c.lam s.mem false j m) ∨ ((sh = true ∨ s.loc.length ≤ j) ∧ Owns d.lam (mem (List.replicate s.loc.length .dead ++ R) H') sh j m) := by
    rintro sh j m ⟨o, a, cap, h1, h2, h3, rfl⟩
    rcases hmem sh j o h1 with ⟨rfl, hl, h4⟩ | ⟨hl, h4⟩
    · rw [hlam2 _ _ hl] at h3
      exact .inl ⟨rfl, hl, o, a, cap, h4, h2, h3, rfl⟩
    · rw [hlam _ _ _ hl] at h3
      exact .inr ⟨hl, o, a, cap, h4, h2, h3, rfl⟩
  have hdown : ∀ sh j m, Owns d.lam (mem (List.replicate s.loc.length .dead ++ R) H') sh j m → c.w.heap.size ≤ m ∨ ∃ j, Owns c.lam s.mem true j m := by
    intro sh j m h
    rcases hE.own sh j m h with h | ⟨j', h⟩
    · exact .inl h
    · exact .inr ⟨j', (hO j' m).1 h⟩
  have hapart : ∀ j m, Owns c.lam s.mem false j m → ∀ sh j', ¬ Owns d.lam (mem (List.replicate s.loc.length .dead ++ R) H') sh j' m := by
    intro j m h sh j' h'
    rcases hdown sh j' m h' with h1 | ⟨j1, h1⟩
    · have := h.lt hM; omega
    · have := (hM.sep _ _ _ _ m h h1).1; cases this
  refine ⟨hled, ⟨?_, ?_, ?_, ?_, hM'.fzl⟩, ⟨⟨hE.size, hE.os, hE.tape, hE.output, ?_⟩, hE.fz, ?_, hle.lam, ?_, ?_, ?_, ?_⟩⟩
  · intro sh j o pl h1 h2
    rcases hmem sh j o h1 with ⟨rfl, hl, h4⟩ | ⟨hl, h4⟩
    · rw [hlam2 _ _ hl] at h2
      refine ObjAt_keep (hM.obj false j o pl h4 h2) hle ?_
      intro ho a ha
      obtain ⟨pa, pc⟩ := pl
      simp only at ha
      subst ha
      have hoo : Owns c.lam s.mem false j a.block := ⟨o, a, pc, h4, ho, h2, rfl⟩
      exact hsame _ (hoo.lt hM) (fun j' hj' => by have := (hM.sep _ _ _ _ _ hoo hj').1; cases this)
    · rw [hlam _ _ _ hl] at h2
      exact ObjAt_keep (hM'.obj sh j o pl h4 h2) hled (fun _ _ _ => rfl)
  · intro sh j ver pl h
    by_cases e : sh = true ∨ s.loc.length ≤ j
    · rw [hlam _ _ _ e] at h
      obtain ⟨o, ho, hv⟩ := hM'.dom sh j ver pl h
      cases sh with
      | true => exact ⟨o, ho, hv⟩
      | false =>
        have hl : s.loc.length ≤ j := by rcases e with e | e; cases e; exact e
        simp only [mem_false] at ho ⊢
        rw [List.getElem?_append_right (by simpa using hl)] at ho
        rw [List.getElem?_append_right hl]
        exact ⟨o, by simpa using ho, hv⟩
    · have hsh : sh = false := by cases sh <;> simp_all
      have hl : j < s.loc.length := by
        rcases Nat.lt_or_ge j s.loc.length with h | h
        · exact h
        · exact (e (.inr h)).elim
      subst hsh
      rw [hlam2 _ _ hl] at h
      obtain ⟨o, ho, hv⟩ := hM.dom false j ver pl h
      refine ⟨o, ?_, hv⟩
      simp only [mem_false]
      rw [List.getElem?_append_left hl]
      simpa [AS.mem] using ho
  · intro sh j sh' j' m h h'
    rcases hown sh j m h with ⟨e1, e2, h⟩ | ⟨e, h⟩ <;> rcases hown sh' j' m h' with ⟨e1', e2', h'⟩ | ⟨e', h'⟩
    · obtain ⟨_, e⟩ := hM.sep _ _ _ _ m h h'
      exact ⟨e1.trans e1'.symm, e⟩
    · exact (hapart j m h _ _ h').elim
    · exact (hapart j' m h' _ _ h).elim
    · exact hM'.sep _ _ _ _ m h h'
  · intro sh j m h hf
    rcases hown sh j m h with ⟨e1, e2, h⟩ | ⟨e, h⟩
    · rcases hE.fzn m hf with h1 | h1 | ⟨j1, h1⟩
      · exact hM.unf _ _ m h h1
      · have := h.lt hM; simp only at h1; omega
      · have := (hM.sep _ _ _ _ m h ((hO j1 m).1 h1)).1; cases this
    · exact hM'.unf _ _ m h hf
  · intro m h1 h2
    exact hsame m h1 (fun j hj => h2 ⟨true, j, hj⟩)
  · intro m hm
    rcases hE.fzn m hm with h1 | h1 | ⟨j1, h1⟩
    · exact .inl h1
    · exact .inr (.inl h1)
    · exact .inr (.inr ⟨true, j1, (hO j1 m).1 h1⟩)
  · intro sh j m h
    rcases hown sh j m h with ⟨e1, e2, h⟩ | ⟨e, h⟩
    · exact .inr ⟨false, j, h⟩
    · rcases hdown sh j m h with h | ⟨j', h⟩
      · exact .inl h
      · exact .inr ⟨true, j', h⟩
  · simpa [AS.mem] using hH
  · simp [AS.mem]
  · intro j hj hn ver
    rw [hlam2 _ _ (by simpa [AS.mem] using hj)]
    exact hn ver

theorem VR1_of_CRs {c : Cx} : ∀ {vs : List AV} {css : List (List Value)} {ms : List Value}, CRs c vs css → ms = (vs.zip css).map (fun p => vOf p.1 p.2) → ∀ (i : Nat) (v : AV) (m : Value), vs[i]? = some v → ms[i]? = some m → VR1 c v m := by
  intro vs css ms hc hm i v m hv hmi
  obtain ⟨y, hy, hcy⟩ := CRs_get hc hv
  subst hm
  refine ⟨y, hcy, ?_⟩
  rw [List.getElem?_map, (List.getElem?_zip_eq_some (z := (v, y))).2 ⟨hv, hy⟩] at hmi
  simp at hmi
  exact hmi.symm

theorem CRs_of_VR1 {c : Cx} : ∀ {vs : List AV} {ms : List Value}, vs.length = ms.length → (∀ (i : Nat) (v : AV) (m : Value), vs[i]? = some v → ms[i]? = some m → VR1 c v m) → ∃ css, CRs c vs css ∧ ms = (vs.zip css).map (fun p => vOf p.1 p.2)
  | [], [], _, _ => ⟨[], by rw [CRs], rfl⟩
  | v :: vs, m :: ms, hl, h => by
    obtain ⟨css, h1, h2⟩ := CRs_of_VR1 (vs := vs) (ms := ms) (by simpa using hl) (fun i u x hu hx => h (i + 1) u x (by simpa using hu) (by simpa using hx))
    obtain ⟨cs, h3, h4⟩ := h 0 v m rfl rfl
    refine ⟨cs :: css, by rw [CRs]; exact ⟨cs, css, rfl, h3, h1⟩, by simp [← h2, h4]⟩
  | [], _ :: _, hl, _ => by simp at hl
  | _ :: _, [], hl, _ => by simp at hl

theorem zip_vOf : ∀ {us vs : List AV} {gs : List (List Value)}, us.map AV.isAgg = vs.map AV.isAgg → (us.zip gs).map (fun p => vOf p.1 p.2) = (vs.zip gs).map (fun p => vOf p.1 p.2) := by
  intro us
  induction us with
  | nil => intro vs gs h; cases vs with | nil => rfl | cons _ _ => simp at h
  | cons u us ih =>
    intro vs gs h
    cases vs with
    | nil => simp at h
    | cons v vs =>
      simp only [List.map_cons, List.cons.injEq] at h
      cases gs with
      | nil => rfl
      | cons x gs => simp [vOf_same h.1, ih (vs := vs) (gs := gs) h.2]

theorem setMem_t (s : AS) (sh : Bool) (j : Nat) (o : AO) : (s.setMem sh j o).t = s.t := by cases sh <;> rfl

mutual
theorem expo_t : ∀ (s : AS) (v : AV), (s.expo v).2.t = s.t
  | s, .own false j ver => by
    rw [AS.expo]
    split
    · split
      · exact setMem_t _ _ _ _
      · rfl
    · split <;> rfl
    · split <;> rfl
    · rfl
  | s, .own true j ver => by rw [AS.expo]; all_goals simp
  | s, .ref false j 0 p off => by
    rw [AS.expo]
    split <;> rfl
  | s, .ref false j (n + 1) p off => by rw [AS.expo]; all_goals simp
  | s, .ref true j n p off => by rw [AS.expo]; all_goals simp
  | s, .agg vs => by rw [AS.expo]; exact expos_t s vs
  | s, .func fn f g => by rw [AS.expo]; exact expos_t s g
  | s, .any => by rw [AS.expo]; all_goals simp
  | s, .bool _ => by rw [AS.expo]; all_goals simp
  | s, .int _ _ => by rw [AS.expo]; all_goals simp
  | s, .str _ => by rw [AS.expo]; all_goals simp
  | s, .arr _ _ => by rw [AS.expo]; all_goals simp
  | s, .lit _ _ => by rw [AS.expo]; all_goals simp
  | s, .nilS => by rw [AS.expo]; all_goals simp
  | s, .pin _ => by rw [AS.expo]; all_goals simp
  | s, .nilP => by rw [AS.expo]; all_goals simp
  | s, .nilF => by rw [AS.expo]; all_goals simp
  | s, .mapr _ _ => by rw [AS.expo]; all_goals simp
  | s, .nilM => by rw [AS.expo]; all_goals simp
  | s, .iface _ _ => by rw [AS.expo]; all_goals simp
  | s, .nilI => by rw [AS.expo]; all_goals simp
  | s, .tup _ => by rw [AS.expo]; all_goals simp
  | s, .yld _ _ => by rw [AS.expo]; all_goals simp
  | s, .win _ _ _ _ _ => by rw [AS.expo]; all_goals simp
theorem expos_t : ∀ (s : AS) (vs : List AV), (s.expos vs).2.t = s.t
  | s, [] => by rw [AS.expos]
  | s, v :: vs => by
    rw [AS.expos]
    split
    · exact expos_t s vs
    · exact (expos_t (s.expo v).2 vs).trans (expo_t s v)
end
/-- A call of a function that is known. -/
theorem opw_call {x : X} {o : Oper} {s : AS} {K : AV → AS → Prop} {call : Call} {f : Operand} {fid : FuncId} {cap : List AV} (h : o.op = .call call) (hc : call.callee = .value f) (hf : s.ev f = .func (.func fid) [] cap)
    (hsol : ∀ v ∈ call.args.toList.map s.ev ++ cap, v.solid = true) (hok : ∀ v ∈ (s.expos (call.args.toList.map s.ev ++ cap)).1, v.ok shd = true) (hH : ∀ ob ∈ (s.expos (call.args.toList.map s.ev ++ cap)).2.H, ob.ok shd = true)
    (hcall : ACall x fid (s.expos (call.args.toList.map s.ev ++ cap)).1 (s.expos (call.args.toList.map s.ev ++ cap)).2.loc.length (s.expos (call.args.toList.map s.ev ++ cap)).2.H
      (fun r R H' => K r { (s.expos (call.args.toList.map s.ev ++ cap)).2 with loc := (s.expos (call.args.toList.map s.ev ++ cap)).2.loc ++ R, H := H' })) : OpW x o s K := by
  intro c a Q hM ho
  generalize hL : call.args.toList.map s.ev ++ cap = L at *
  have hfv := ho f (by obtain ⟨ce, ar, at'⟩ := call; simp only at hc; subst hc; simp [h, Op.operands, Call.operands])
  rw [hf] at hfv
  obtain ⟨fcs, hfc, hfe⟩ := hfv
  rw [CR] at hfc
  obtain ⟨fs, gs, k1, k2, rfl⟩ := hfc
  rw [CRs] at k1
  subst k1
  have hfe' : a.eval f = .func (.func fid) #[] ((cap.zip gs).map fun p => vOf p.1 p.2).toArray := by rw [hfe]; rfl
  have hargs : ∃ css, CRs c L css ∧ (call.args.toList.map a.eval ++ (cap.zip gs).map fun p => vOf p.1 p.2) = (L.zip css).map (fun p => vOf p.1 p.2) := by
    refine CRs_of_VR1 ?_ ?_
    · rw [← hL]; simp [CRs_length k2]
    · intro i v m hv hm
      have hvs : v.solid = true := hsol v (List.mem_of_getElem? hv)
      rw [← hL] at hv
      rcases Nat.lt_or_ge i (call.args.toList.map s.ev).length with hl | hl
      · rw [List.getElem?_append_left hl] at hv
        rw [List.getElem?_append_left (by simpa using hl)] at hm
        rw [List.getElem?_map] at hv hm
        cases hy : call.args.toList[i]? with
        | none => rw [hy] at hv; cases hv
        | some y =>
          rw [hy] at hv hm
          simp at hv hm
          subst hv; subst hm
          exact (VR_solid hvs).1 (ho y (by
            have hy' := List.mem_of_getElem? hy
            obtain ⟨ce, ar, at'⟩ := call; simp only at hc hy'; subst hc; simp [h, Op.operands, Call.operands]; right; simpa using hy'))
      · rw [List.getElem?_append_right hl] at hv
        rw [List.getElem?_append_right (by simpa using hl)] at hm
        have e1 : (call.args.toList.map a.eval).length = (call.args.toList.map s.ev).length := by simp
        rw [e1] at hm
        exact VR1_of_CRs k2 rfl _ v m hv hm
  obtain ⟨css, hcs, hms⟩ := hargs
  obtain ⟨d, hdw, hMd, hSt, hled, g1, g2, g3⟩ := expos_becomes s L c hM
  have ht1 := expos_t s L
  generalize hr : s.expos L = r at *
  obtain ⟨vs, s1⟩ := r
  simp only at *
  have hcs' := g3 css hcs
  have hms' : (L.zip css).map (fun p => vOf p.1 p.2) = (vs.zip css).map (fun p => vOf p.1 p.2) := zip_vOf g1
  have hc0 : MemR ⟨d.w, d.Fz, fun sh j ver => if sh then d.lam true j ver else none⟩ (mem [] s1.H) := by
    have hO : ∀ sh j m, Owns (fun sh j ver => if sh then d.lam true j ver else none : Lam) (mem [] s1.H) sh j m → sh = true ∧ Owns d.lam s1.mem true j m := by
      rintro sh j m ⟨ob, a', cap', h1, h2, h3, h4⟩
      cases sh with
      | true => exact ⟨rfl, ob, a', cap', h1, h2, h3, h4⟩
      | false => simp at h1
    refine ⟨?_, ?_, ?_, ?_, hMd.fzl⟩
    · intro sh j ob pl h1 h2
      cases sh with
      | false => simp at h1
      | true =>
        have hob := hMd.obj true j ob pl h1 h2
        have hobk := hH ob (List.mem_of_getElem? h1)
        have hl : ∀ sh j ver q, shd sh j = true → d.lam sh j ver = some q → (if sh then d.lam true j ver else none) = some q := by
          intro sh j ver q hs hq
          have : sh = true := hs
          subst this
          exact hq
        cases ob with
        | dead => trivial
        | fwd k => exact hob
        | mp kvs => exact hob
        | lrec r =>
          obtain ⟨m, L, e1, e2, e3⟩ := hob
          refine ⟨m, L, e1, e2, e3.imp_tr fun i => VR_ok (c := d) (d := ⟨d.w, d.Fz, fun sh j ver => if sh then d.lam true j ver else none⟩) (p := shd) (fun _ h => h) (fun _ _ => rfl) hl (r.ok_get hobk i)⟩
        | cell v =>
          obtain ⟨m, t, cs, e1, e2, e3⟩ := hob
          exact ⟨m, t, cs, e1, CR_ok (c := d) (d := ⟨d.w, d.Fz, fun sh j ver => if sh then d.lam true j ver else none⟩) (p := shd) (fun _ h => h) (fun _ _ => rfl) hl v cs hobk e2, e3⟩
        | row sz us =>
          obtain ⟨e0, ez, e⟩ := hob
          refine ⟨e0, ez, e.imp id ?_⟩
          rintro ⟨m, cap', cur, t, css, e1, e2, e3, e4, e5, e6, e7⟩
          exact ⟨m, cap', cur, t, css, e1, e2, e3, e4, e5, CRs_ok (c := d) (d := ⟨d.w, d.Fz, fun sh j ver => if sh then d.lam true j ver else none⟩) (p := shd) (fun _ h => h) (fun _ _ => rfl) hl us css hobk e6, e7⟩
        | frow sz us =>
          obtain ⟨e0, ez, css, e1, e2⟩ := hob
          exact ⟨e0, ez, css, CRs_ok (c := d) (d := ⟨d.w, d.Fz, fun sh j ver => if sh then d.lam true j ver else none⟩) (p := shd) (fun _ h => h) (fun _ _ => rfl) hl us css hobk e1, e2⟩
        | xrow sz us =>
          obtain ⟨e0, ez, css, e1, e2⟩ := hob
          exact ⟨e0, ez, css, CRs_ok (c := d) (d := ⟨d.w, d.Fz, fun sh j ver => if sh then d.lam true j ver else none⟩) (p := shd) (fun _ h => h) (fun _ _ => rfl) hl us css hobk e1, e2⟩
    · intro sh j ver pl h1
      cases sh with
      | false => simp at h1
      | true => exact hMd.dom true j ver pl h1
    · intro sh j sh' j' m h1 h2
      obtain ⟨e1, h1⟩ := hO sh j m h1
      obtain ⟨e2, h2⟩ := hO sh' j' m h2
      exact ⟨e1.trans e2.symm, (hMd.sep _ _ _ _ m h1 h2).2⟩
    · intro sh j m h1
      obtain ⟨e1, h1⟩ := hO sh j m h1
      exact hMd.unf true j m h1
  obtain ⟨hent, hcl⟩ := hcall
  have hrun := hcl _ ((vs.zip css).map fun p => vOf p.1 p.2) hc0 (by simp [CRs_length hcs']) (by
    intro i v m hv hm
    have hvm := VR1_of_CRs hcs' rfl i v m hv hm
    obtain ⟨cs, q1, q2⟩ := hvm
    have hvo := hok v (List.mem_of_getElem? hv)
    have q1' := CR_ok (c := d) (d := ⟨d.w, d.Fz, fun sh j ver => if sh then d.lam true j ver else none⟩) (p := shd) (fun _ h => h) (fun _ _ => rfl) (by
      intro sh j ver q hs hq
      have : sh = true := hs
      subst this
      exact hq) v cs hvo q1
    rw [q2]
    exact VR_of_CR q1')
  unfold Oper.wpX
  have hexec : (execOp a.eval o).run x.P c.w = .ok (.enter fid (((vs.zip css).map fun p => vOf p.1 p.2).toArray)) c.w := by
    have h9 := hent (((vs.zip css).map fun p => vOf p.1 p.2).toArray) c.w
    rw [← hms', ← hms] at h9 ⊢
    obtain ⟨callee, args, ats⟩ := call
    simp only at hc
    subst hc
    simp only [execOp, h, resolve, hfe', Deferred.ofValue, Sem.run_bind, Sem.run_pure, Result.andThen_ok, invoke]
    have e2 : (#[] ++ args.map a.eval ++ ((cap.zip gs).map fun p => vOf p.1 p.2).toArray) = (args.toList.map a.eval ++ (cap.zip gs).map fun p => vOf p.1 p.2).toArray := by
      cases args; simp
    rw [e2]
    exact h9
  rw [hexec]
  rw [Oper.uponIn_enter]
  refine ⟨fun hh => by simp [fen, Fence.wide] at hh, calls_fen _ _ ?_⟩
  rw [hdw] at hrun
  refine hrun.mono ?_
  rintro e w' ⟨m, r, R, H', d2, rfl, rfl, q1, q2, q3, q4, q5, q6⟩
  rw [← hdw] at q4
  obtain ⟨b1, b2, b3⟩ := back hMd q3 q4 q5 q6
  exact ⟨r, { s1 with loc := s1.loc ++ R, H := H' }, ⟨d2.w, d2.Fz, fun sh j ver => if sh then d2.lam true j ver else if j < s1.loc.length then d.lam false j ver else d2.lam false j ver⟩, m, rfl, rfl, q1, VR_mono b1 q2, b2, hSt.trans b3 hM, ht1⟩

end Go.Abs
/- What a function hands back. -/
set_option linter.unusedVariables false
set_option linter.unusedSimpArgs false
namespace Go.Abs
open Go.RowKit

/-- Only shared objects below 'm' are referred to. -/
def pm (m : Nat) : Bool → Nat → Bool := fun sh j => sh && decide (j < m)

mutual
def AV.locs (m : Nat) : AV → List Nat
  | .own false j _ => [j]
  | .agg vs => AV.locsL m vs
  | .tup vs => AV.locsL m vs
  | _ => []
def AV.locsL (m : Nat) : List AV → List Nat
  | [] => []
  | v :: vs => (if v.ok (pm m) then [] else v.locs m) ++ AV.locsL m vs
end
mutual
/-- A value in the numbering of whom it is handed to. -/
def AV.outR (js : List Nat) (n m : Nat) : AV → Option AV
  | .own false j ver => (js.idxOf? j).map fun k => .own false (n + k) ver
  | .own true j ver => if j < m then some (.own true j ver) else none
  | .agg vs => (AV.outRs js n m vs).map .agg
  | .tup vs => (AV.outRs js n m vs).map .tup
  | v => if v.ok (pm m) then some v else none
def AV.outRs (js : List Nat) (n m : Nat) : List AV → Option (List AV)
  | [] => some []
  | v :: vs => if v.ok (pm m) then (AV.outRs js n m vs).map (v :: ·) else (v.outR js n m).bind fun u => (AV.outRs js n m vs).map (u :: ·)
end
/-- The valuation for whom it is handed to. -/
def outLam (lam : Lam) (js : List Nat) (n m : Nat) : Lam := fun sh j ver => if sh then (if j < m then lam true j ver else none) else if n ≤ j then (match js[j - n]? with | some i => lam false i ver | none => none) else none

theorem outLam_ok {lam : Lam} {js : List Nat} {n m : Nat} (sh : Bool) (j ver : Nat) (q : Option Addr × Nat) (h : pm m sh j = true) (hq : lam sh j ver = some q) : outLam lam js n m sh j ver = some q := by
  simp only [pm, Bool.and_eq_true, decide_eq_true_eq] at h
  obtain ⟨rfl, hj⟩ := h
  simp [outLam, hj, hq]

theorem idx_spec : ∀ {js : List Nat} {j k : Nat}, js.idxOf? j = some k → js[k]? = some j
  | [], j, k, h => by simp [List.idxOf?] at h
  | i :: js, j, k, h => by
    rw [List.idxOf?_cons] at h
    split at h
    · rename_i e
      cases h
      simp at e
      simp [e]
    · rw [Option.map_eq_some_iff] at h
      obtain ⟨k', h, rfl⟩ := h
      simpa using idx_spec h

mutual
theorem outR_CR {c : Cx} {js : List Nat} {n m : Nat} : ∀ (v : AV) (u : AV) (cs : List Value), v.outR js n m = some u → CR c v cs → CR ⟨c.w, c.Fz, outLam c.lam js n m⟩ u cs ∧ u.isAgg = v.isAgg
  | .own false j ver, u, cs, h, hc => by
    rw [AV.outR, Option.map_eq_some_iff] at h
    obtain ⟨k, hk, rfl⟩ := h
    refine ⟨?_, rfl⟩
    rw [CR] at hc ⊢
    obtain ⟨a, cap, hl, hn, e⟩ := hc
    refine ⟨a, cap, ?_, hn, e⟩
    simp [outLam, idx_spec hk, hl]
  | .own true j ver, u, cs, h, hc => by
    rw [AV.outR] at h
    split at h
    · rename_i hj
      cases h
      refine ⟨?_, rfl⟩
      rw [CR] at hc ⊢
      obtain ⟨a, cap, hl, hn, e⟩ := hc
      exact ⟨a, cap, by simp [outLam, hj, hl], hn, e⟩
    · cases h
  | .agg vs, u, cs, h, hc => by
    rw [AV.outR, Option.map_eq_some_iff] at h
    obtain ⟨us, hu, rfl⟩ := h
    refine ⟨?_, rfl⟩
    rw [CR] at hc ⊢
    obtain ⟨css, hc, e⟩ := hc
    exact ⟨css, (outRs_CR vs us css hu hc).1, e⟩
  | .tup vs, u, cs, h, hc => by rw [CR] at hc; exact hc.elim
  | .any, u, cs, h, hc => by rw [AV.outR] at h; exact outR_ok h hc; all_goals simp
  | .bool _, u, cs, h, hc => by rw [AV.outR] at h; exact outR_ok h hc; all_goals simp
  | .int _ _, u, cs, h, hc => by rw [AV.outR] at h; exact outR_ok h hc; all_goals simp
  | .str _, u, cs, h, hc => by rw [AV.outR] at h; exact outR_ok h hc; all_goals simp
  | .arr _ _, u, cs, h, hc => by rw [AV.outR] at h; exact outR_ok h hc; all_goals simp
  | .lit _ _, u, cs, h, hc => by rw [AV.outR] at h; exact outR_ok h hc; all_goals simp
  | .nilS, u, cs, h, hc => by rw [AV.outR] at h; exact outR_ok h hc; all_goals simp
  | .pin _, u, cs, h, hc => by rw [AV.outR] at h; exact outR_ok h hc; all_goals simp
  | .nilP, u, cs, h, hc => by rw [AV.outR] at h; exact outR_ok h hc; all_goals simp
  | .ref _ _ _ _ _, u, cs, h, hc => by rw [AV.outR] at h; exact outR_ok h hc; all_goals simp
  | .func _ _ _, u, cs, h, hc => by rw [AV.outR] at h; exact outR_ok h hc; all_goals simp
  | .nilF, u, cs, h, hc => by rw [AV.outR] at h; exact outR_ok h hc; all_goals simp
  | .mapr _ _, u, cs, h, hc => by rw [AV.outR] at h; exact outR_ok h hc; all_goals simp
  | .nilM, u, cs, h, hc => by rw [AV.outR] at h; exact outR_ok h hc; all_goals simp
  | .iface _ _, u, cs, h, hc => by rw [AV.outR] at h; exact outR_ok h hc; all_goals simp
  | .nilI, u, cs, h, hc => by rw [AV.outR] at h; exact outR_ok h hc; all_goals simp
  | .yld _ _, u, cs, h, hc => by rw [AV.outR] at h; exact outR_ok h hc; all_goals simp
  | .win _ _ _ _ _, u, cs, h, hc => by rw [AV.outR] at h; exact outR_ok h hc; all_goals simp
theorem outRs_CR {c : Cx} {js : List Nat} {n m : Nat} : ∀ (vs us : List AV) (css : List (List Value)), AV.outRs js n m vs = some us → CRs c vs css → CRs ⟨c.w, c.Fz, outLam c.lam js n m⟩ us css ∧ us.map AV.isAgg = vs.map AV.isAgg
  | [], us, css, h, hc => by
    rw [AV.outRs] at h
    cases h
    rw [CRs] at hc ⊢
    exact ⟨hc, rfl⟩
  | v :: vs, us, css, h, hc => by
    rw [AV.outRs] at h
    rw [CRs] at hc
    obtain ⟨x, xs, rfl, h1, h2⟩ := hc
    split at h
    · rename_i hok
      rw [Option.map_eq_some_iff] at h
      obtain ⟨us', hu, rfl⟩ := h
      obtain ⟨k1, k2⟩ := outRs_CR vs us' xs hu h2
      refine ⟨?_, by simp [k2]⟩
      rw [CRs]
      exact ⟨x, xs, rfl, CR_ok (c := c) (d := ⟨c.w, c.Fz, outLam c.lam js n m⟩) (p := pm m) (fun _ h => h) (fun _ _ => rfl) (fun sh j ver q hp hq => outLam_ok sh j ver q hp hq) v x hok h1, k1⟩
    · rw [Option.bind_eq_some_iff] at h
      obtain ⟨u, hu1, h⟩ := h
      rw [Option.map_eq_some_iff] at h
      obtain ⟨us', hu, rfl⟩ := h
      obtain ⟨k1, k2⟩ := outRs_CR vs us' xs hu h2
      obtain ⟨k3, k4⟩ := outR_CR v u x hu1 h1
      refine ⟨?_, by simp [k2, k4]⟩
      rw [CRs]
      exact ⟨x, xs, rfl, k3, k1⟩
theorem outR_ok {c : Cx} {js : List Nat} {n m : Nat} {v u : AV} {cs : List Value} (h : (if v.ok (pm m) then some v else none) = some u) (hc : CR c v cs) : CR ⟨c.w, c.Fz, outLam c.lam js n m⟩ u cs ∧ u.isAgg = v.isAgg := by
  split at h
  · rename_i hok
    cases h
    exact ⟨CR_ok (c := c) (d := ⟨c.w, c.Fz, outLam c.lam js n m⟩) (p := pm m) (fun _ h => h) (fun _ _ => rfl) (fun sh j ver q hp hq => outLam_ok sh j ver q hp hq) v cs hok hc, rfl⟩
  · cases h
end
theorem outR_VR1 {c : Cx} {js : List Nat} {n m : Nat} {v u : AV} {x : Value} (h : v.outR js n m = some u) (hv : VR1 c v x) : VR1 ⟨c.w, c.Fz, outLam c.lam js n m⟩ u x := by
  obtain ⟨cs, hc, e⟩ := hv
  obtain ⟨k1, k2⟩ := outR_CR v u cs h hc
  exact ⟨cs, k1, by rw [e]; exact (vOf_same k2 cs).symm⟩

theorem outRs_at {c : Cx} {js : List Nat} {n m : Nat} : ∀ {vs us : List AV}, AV.outRs js n m vs = some us → us.length = vs.length ∧ ∀ (i : Nat) (v u : AV) (x : Value), vs[i]? = some v → us[i]? = some u → (v = .any ∨ VR1 c v x) → u = .any ∨ VR1 ⟨c.w, c.Fz, outLam c.lam js n m⟩ u x
  | [], us, h => by rw [AV.outRs] at h; cases h; simp
  | v :: vs, us, h => by
    rw [AV.outRs] at h
    split at h
    · rename_i hok
      rw [Option.map_eq_some_iff] at h
      obtain ⟨us', hu, rfl⟩ := h
      obtain ⟨k1, k2⟩ := outRs_at (c := c) hu
      refine ⟨by simp [k1], ?_⟩
      intro i w u x hw hu' hx
      cases i with
      | zero =>
        simp at hw hu'
        subst hw; subst hu'
        refine hx.imp id fun hx => VR1_ok (c := c) (d := ⟨c.w, c.Fz, outLam c.lam js n m⟩) (p := pm m) (fun _ h => h) (fun _ _ => rfl) (fun sh j ver q hp hq => outLam_ok sh j ver q hp hq) hok hx
      | succ i => simp at hw hu'; exact k2 i w u x hw hu' hx
    · rw [Option.bind_eq_some_iff] at h
      obtain ⟨u1, hu1, h⟩ := h
      rw [Option.map_eq_some_iff] at h
      obtain ⟨us', hu, rfl⟩ := h
      obtain ⟨k1, k2⟩ := outRs_at (c := c) hu
      refine ⟨by simp [k1], ?_⟩
      intro i w u x hw hu' hx
      cases i with
      | zero =>
        simp at hw hu'
        subst hw; subst hu'
        rcases hx with rfl | hx
        · rename_i hok; exact (hok (by rw [AV.ok]; all_goals simp)).elim
        · exact .inr (outR_VR1 hu1 hx)
      | succ i => simp at hw hu'; exact k2 i w u x hw hu' hx

theorem outR_VR {c : Cx} {js : List Nat} {n m : Nat} {v u : AV} {x : Value} (h : v.outR js n m = some u) (hv : VR c v x) : VR ⟨c.w, c.Fz, outLam c.lam js n m⟩ u x := by
  cases v with
  | any => rw [AV.outR] at h; split at h <;> cases h; trivial; all_goals simp
  | tup vs =>
    rw [AV.outR, Option.map_eq_some_iff] at h
    obtain ⟨us, hu, rfl⟩ := h
    obtain ⟨ms, e, hl, hi⟩ := hv
    obtain ⟨k1, k2⟩ := outRs_at (c := c) hu
    refine ⟨ms, e, by omega, ?_⟩
    intro i w y hw hy
    have hlt := (List.getElem?_eq_some_iff.1 hw).1
    have hv' : vs[i]? = some (vs[i]'(by omega)) := List.getElem?_eq_getElem (by omega)
    exact k2 i _ w y hv' hw (hi i _ y hv' hy)
  | _ =>
    have h1 := outR_VR1 h hv
    obtain ⟨cs, hc, e⟩ := h1
    rw [e]; exact VR_of_CR hc

/-- The objects that are handed out, whole. -/
def pickR (m : Nat) (loc : List AO) : List Nat → Option (List AO)
  | [] => some []
  | j :: js => match loc[j]? with | some o => if o.ok (pm m) then (pickR m loc js).map (o :: ·) else none | none => none

theorem pickR_at {m : Nat} {loc : List AO} : ∀ {js : List Nat} {R : List AO}, pickR m loc js = some R → R.length = js.length ∧ ∀ (k : Nat) (o : AO), R[k]? = some o → ∃ j, js[k]? = some j ∧ loc[j]? = some o ∧ o.ok (pm m) = true
  | [], R, h => by simp [pickR] at h; subst h; simp
  | j :: js, R, h => by
    rw [pickR] at h
    split at h
    · rename_i o ho
      split at h
      · rename_i hok
        rw [Option.map_eq_some_iff] at h
        obtain ⟨R', hR, rfl⟩ := h
        obtain ⟨k1, k2⟩ := pickR_at hR
        refine ⟨by simp [k1], ?_⟩
        intro k o' hk
        cases k with
        | zero => simp at hk; subst hk; exact ⟨j, rfl, ho, hok⟩
        | succ k => simp at hk; simpa using k2 k o' hk
      · cases h
    · cases h

theorem ObjAt_ok {c d : Cx} {p : Bool → Nat → Bool} {pl : Option Addr × Nat} {o : AO} (h : ObjAt c pl o) (hw : d.w = c.w) (hf : d.Fz = c.Fz) (hl : ∀ sh j ver q, p sh j = true → c.lam sh j ver = some q → d.lam sh j ver = some q) (ho : o.ok p = true) : ObjAt d pl o := by
  have h1 : ∀ m, c.Fz m → d.Fz m := fun m h => by rw [hf]; exact h
  have h2 : ∀ m, c.Fz m → d.w.heap[m]? = c.w.heap[m]? := fun m _ => by rw [hw]
  cases o with
  | dead => trivial
  | fwd k => exact hl _ _ _ _ ho h
  | mp kvs =>
    obtain ⟨m, es, clock, e1, e2, e3⟩ := h
    exact ⟨m, es, clock, e1, by rw [hw]; exact e2, e3⟩
  | lrec r =>
    obtain ⟨m, L, e1, e2, e3⟩ := h
    exact ⟨m, L, e1, by rw [hw]; exact e2, e3.imp_tr fun i => VR_ok (c := c) (d := d) (p := p) h1 h2 hl (r.ok_get ho i)⟩
  | cell v =>
    obtain ⟨m, t, cs, e1, e2, e3⟩ := h
    exact ⟨m, t, cs, e1, CR_ok h1 h2 hl v cs ho e2, by rw [hw]; exact e3⟩
  | row sz us =>
    obtain ⟨e0, ez, e⟩ := h
    refine ⟨e0, ez, e.imp id ?_⟩
    rintro ⟨m, cap', cur, t, css, e1, e2, e3, e4, e5, e6, e7⟩
    exact ⟨m, cap', cur, t, css, e1, by rw [hw]; exact e2, e3, e4, e5, CRs_ok h1 h2 hl us css ho e6, e7⟩
  | frow sz us =>
    obtain ⟨e0, ez, css, e1, e2, e3, e4⟩ := h
    refine ⟨e0, ez, css, CRs_ok h1 h2 hl us css ho e1, e2, e3, ?_⟩
    intro hne
    obtain ⟨ad, g1, g2, g3⟩ := e4 hne
    exact ⟨ad, g1, by rw [hf]; exact g2, fun k u hu => by rw [hw]; exact g3 k u hu⟩
  | xrow sz us =>
    obtain ⟨e0, ez, css, e1, e2, e3, e4⟩ := h
    refine ⟨e0, ez, css, CRs_ok h1 h2 hl us css ho e1, e2, e3, ?_⟩
    intro hne
    obtain ⟨ad, g1, g2, g3⟩ := e4 hne
    exact ⟨ad, g1, by rw [hf]; exact g2, fun k u hu => by rw [hw]; exact g3 k u hu⟩

/-- What remains of a function's own memory for its caller. -/
theorem out_mem {c0 c : Cx} {H0 : List AO} {s : AS} (hM : MemR c s.mem) (hE : Ev c0 H0 c s.mem) {js : List Nat} {n m : Nat} {R : List AO} (hm0 : H0.length ≤ m) (hm : m ≤ s.H.length) (hnd : js.Nodup) (hR : pickR m s.loc js = some R) (hH : ∀ o ∈ s.H.take m, o.ok (pm m) = true) :
    MemR ⟨c.w, c.Fz, outLam c.lam js n m⟩ (mem (List.replicate n .dead ++ R) (s.H.take m)) ∧ Ev c0 H0 ⟨c.w, c.Fz, outLam c.lam js n m⟩ (mem (List.replicate n .dead ++ R) (s.H.take m)) ∧ ∀ j ver, j < n → outLam c.lam js n m false j ver = none := by
  obtain ⟨hRl, hRi⟩ := pickR_at hR
  have hmem : ∀ sh j o, (mem (List.replicate n .dead ++ R) (s.H.take m) sh)[j]? = some o → (sh = false ∧ j < n ∧ o = .dead) ∨ (sh = false ∧ n ≤ j ∧ ∃ i, js[j - n]? = some i ∧ (s.mem false)[i]? = some o ∧ o.ok (pm m) = true) ∨ (sh = true ∧ j < m ∧ (s.mem true)[j]? = some o ∧ o.ok (pm m) = true) := by
    intro sh j o ho
    cases sh with
    | true =>
      simp only [mem_true] at ho
      have hok := hH o (List.mem_of_getElem? ho)
      rw [List.getElem?_take] at ho
      split at ho
      · rename_i hj; exact .inr (.inr ⟨rfl, hj, by simpa [AS.mem] using ho, hok⟩)
      · cases ho
    | false =>
      simp only [mem_false] at ho
      rcases Nat.lt_or_ge j n with hl | hl
      · rw [List.getElem?_append_left (by simpa using hl)] at ho
        exact .inl ⟨rfl, hl, List.eq_of_mem_replicate (List.mem_of_getElem? ho)⟩
      · rw [List.getElem?_append_right (by simpa using hl)] at ho
        simp only [List.length_replicate] at ho
        obtain ⟨i, h1, h2, h3⟩ := hRi _ o ho
        exact .inr (.inl ⟨rfl, hl, i, h1, by simpa [AS.mem] using h2, h3⟩)
  have hown : ∀ sh j k, Owns (outLam c.lam js n m) (mem (List.replicate n .dead ++ R) (s.H.take m)) sh j k → (sh = false ∧ n ≤ j ∧ ∃ i, js[j - n]? = some i ∧ Owns c.lam s.mem false i k) ∨ (sh = true ∧ Owns c.lam s.mem true j k) := by
    rintro sh j k ⟨o, a, cap, h1, h2, h3, rfl⟩
    rcases hmem sh j o h1 with ⟨rfl, _, rfl⟩ | ⟨rfl, hl, i, h4, h5, _⟩ | ⟨rfl, hl, h5, _⟩
    · simp [AO.owned] at h2
    · have h3' : c.lam false i o.ver = some (some a, cap) := by
        simp only [outLam] at h3
        simpa [hl, h4] using h3
      exact .inl ⟨rfl, hl, i, h4, o, a, cap, h5, h2, h3', rfl⟩
    · have h3' : c.lam true j o.ver = some (some a, cap) := by
        simp only [outLam] at h3
        simpa [hl] using h3
      exact .inr ⟨rfl, o, a, cap, h5, h2, h3', rfl⟩
  have hlok : ∀ sh j ver q, pm m sh j = true → c.lam sh j ver = some q → outLam c.lam js n m sh j ver = some q := fun sh j ver q h1 h2 => outLam_ok sh j ver q h1 h2
  refine ⟨⟨?_, ?_, ?_, ?_, hM.fzl⟩, ⟨hE.size, hE.os, hE.tape, hE.output, hE.same, hE.fz, hE.fzn, ?_, ?_⟩, ?_⟩
  · intro sh j o pl h1 h2
    rcases hmem sh j o h1 with ⟨rfl, _, rfl⟩ | ⟨rfl, hl, i, h4, h5, h6⟩ | ⟨rfl, hl, h5, h6⟩
    · trivial
    · have h2' : c.lam false i o.ver = some pl := by
        have h2'' := h2
        simp only [outLam] at h2''
        simpa [hl, h4] using h2''
      exact ObjAt_ok (hM.obj false i o pl h5 h2') rfl rfl hlok h6
    · have h2' : c.lam true j o.ver = some pl := by
        have h2'' := h2
        simp only [outLam] at h2''
        simpa [hl] using h2''
      exact ObjAt_ok (hM.obj true j o pl h5 h2') rfl rfl hlok h6
  · intro sh j ver pl h
    cases sh with
    | true =>
      have h' := h
      simp only [outLam] at h'
      by_cases hj : j < m
      · simp [hj] at h'
        obtain ⟨o, ho, hv⟩ := hM.dom true j ver pl h'
        exact ⟨o, by simp only [mem_true]; rw [List.getElem?_take, if_pos hj]; simpa [AS.mem] using ho, hv⟩
      · simp [hj] at h'
    | false =>
      have h' := h
      simp only [outLam] at h'
      by_cases hj : n ≤ j
      · cases hjs : js[j - n]? with
        | none => simp [hj, hjs] at h'
        | some i =>
          simp [hj, hjs] at h'
          obtain ⟨o, ho, hv⟩ := hM.dom false i ver pl h'
          have hlt : j - n < R.length := by rw [hRl]; exact (List.getElem?_eq_some_iff.1 hjs).1
          have hRk : R[j - n]? = some (R[j - n]'hlt) := List.getElem?_eq_getElem hlt
          obtain ⟨i', h1, h2, _⟩ := hRi _ _ hRk
          rw [hjs] at h1
          cases h1
          have h2' : (s.mem false)[i]? = some (R[j - n]'hlt) := by simpa [AS.mem] using h2
          rw [ho] at h2'
          cases h2'
          refine ⟨R[j - n]'hlt, ?_, hv⟩
          simp only [mem_false]
          rw [List.getElem?_append_right (by simp; exact hj)]
          simp
      · simp [hj] at h'
  · intro sh j sh' j' k h1 h2
    rcases hown sh j k h1 with ⟨rfl, hl, i, h3, h4⟩ | ⟨rfl, h4⟩ <;> rcases hown sh' j' k h2 with ⟨rfl, hl', i', h3', h4'⟩ | ⟨rfl, h4'⟩
    · obtain ⟨_, rfl⟩ := hM.sep _ _ _ _ k h4 h4'
      refine ⟨rfl, ?_⟩
      have hlt := (List.getElem?_eq_some_iff.1 h3).1
      have := (List.getElem?_inj hlt hnd).1 (h3.trans h3'.symm)
      omega
    · have := (hM.sep _ _ _ _ k h4 h4').1; cases this
    · have := (hM.sep _ _ _ _ k h4 h4').1; cases this
    · exact hM.sep _ _ _ _ k h4 h4'
  · intro sh j k h1
    rcases hown sh j k h1 with ⟨rfl, hl, i, h3, h4⟩ | ⟨rfl, h4⟩
    · exact hM.unf _ _ k h4
    · exact hM.unf _ _ k h4
  · intro j ver p hj h
    have := hE.lam j ver p hj h
    have hjm : j < m := by omega
    simp [outLam, hjm, this]
  · intro sh j k h1
    rcases hown sh j k h1 with ⟨rfl, hl, i, h3, h4⟩ | ⟨rfl, h4⟩
    · exact hE.own _ _ k h4
    · exact hE.own _ _ k h4
  · intro j ver hj
    have : ¬ n ≤ j := by omega
    simp [outLam, this]

end Go.Abs
/- Code: triples, and what a function's body is to show. -/
set_option linter.unusedVariables false
set_option linter.unusedSimpArgs false
namespace Go.Abs
open Go.RowKit

def codeOK (N : Nat) : Code → Bool
  | .region _ ops _ => ops.all fun o => !isDefer o.op && match o.dst with | some d => decide (d < N) | none => true
  | .seq a b => codeOK N a && codeOK N b
  | .cond _ a b => codeOK N a && codeOK N b
  | .block _ c => codeOK N c
  | .loop c => codeOK N c
  | .scope c => codeOK N c
  | _ => true

/-- The marks that ranges over functions have left: each one's block lies untouched. -/
structure DefOK (c0 c : Cx) (M : Mem) (d : Deferred) (D : Nat) : Prop where
  eq : d = { target := .collected D, args := #[] }
  lo : c0.w.heap.size ≤ D
  hi : D < c.w.heap.size
  at_ : c.w.heap[D]? = some (.deferred (some []))
  own : ∀ sh j, ¬ Owns c.lam M sh j D
  fz : ¬ c.Fz D
def DefsOK (c0 c : Cx) (M : Mem) (ds : List Deferred) : Prop := ds.Nodup ∧ ∀ d ∈ ds, ∃ D, DefOK c0 c M d D
theorem DefsOK.nil {c0 c : Cx} {M : Mem} : DefsOK c0 c M [] := ⟨List.nodup_nil, by simp⟩
theorem DefOK.move {c0 c d : Cx} {M M' : Mem} {q : Deferred} {D : Nat} (h : DefOK c0 c M q D) (hs : c.w.heap.size ≤ d.w.heap.size) (hh : d.w.heap[D]? = c.w.heap[D]?) (ho : ∀ sh j, Owns d.lam M' sh j D → c.w.heap.size ≤ D ∨ ∃ sh j, Owns c.lam M sh j D) (hf : d.Fz D → c.Fz D ∨ c.w.heap.size ≤ D ∨ ∃ sh j, Owns c.lam M sh j D) : DefOK c0 d M' q D := by
  have hi := h.hi
  refine ⟨h.eq, h.lo, Nat.lt_of_lt_of_le h.hi hs, hh.trans h.at_, ?_, ?_⟩
  · intro sh j k
    rcases ho sh j k with h1 | ⟨sh', j', h1⟩
    · omega
    · exact h.own _ _ h1
  · intro k
    rcases hf k with h1 | h1 | ⟨sh', j', h1⟩
    · exact h.fz h1
    · omega
    · exact h.own _ _ h1
theorem DefsOK.step {c0 c d : Cx} {M M' : Mem} {ds : List Deferred} (h : DefsOK c0 c M ds) (hs : Step c M d M') : DefsOK c0 d M' ds :=
  ⟨h.1, fun q hq => let ⟨D, k⟩ := h.2 q hq; ⟨D, k.move hs.turn.size (hs.turn.same D k.hi (fun ⟨sh, j, ho⟩ => k.own sh j ho)) (fun sh j ho => hs.own sh j D ho) (fun hf => hs.fzn D hf)⟩⟩
theorem DefsOK.less {c0 c d : Cx} {M M' : Mem} {ds : List Deferred} (h : DefsOK c0 c M ds) (hw : d.w.heap = c.w.heap) (ho : ∀ sh j m, Owns d.lam M' sh j m → ∃ sh j, Owns c.lam M sh j m) (hf : ∀ m, d.Fz m → c.Fz m) : DefsOK c0 d M' ds :=
  ⟨h.1, fun q hq => let ⟨D, k⟩ := h.2 q hq; ⟨D, k.move (by rw [hw]; exact Nat.le_refl _) (by rw [hw]) (fun sh j h1 => .inr (ho sh j D h1)) (fun h1 => .inl (hf D h1))⟩⟩

structure Inv (x : X) (c0 : Cx) (H0 : List AO) (N : Nat) (s : AS) (c : Cx) (a : Act) : Prop where
  mem : MemR c s.mem
  ev : Ev c0 H0 c s.mem
  len : H0.length ≤ s.H.length
  tr : TR c s a
  size : a.tmps.size = N
  defs : DefsOK c0 c s.mem a.defers

theorem Inv.step {x : X} {c0 : Cx} {H0 : List AO} {N : Nat} {s s' : AS} {c d : Cx} {a : Act} (h : Inv x c0 H0 N s c a) (hs : Step c s.mem d s'.mem) (hm : MemR d s'.mem) (ht : s'.t = s.t) : Inv x c0 H0 N s' d a :=
  ⟨hm, h.ev.step hs, Nat.le_trans h.len (by simpa [AS.mem] using hs.len), fun i => by
    have := VR_mono (hs.le h.mem) (h.tr i)
    simpa [AS.get, ht] using this, h.size, h.defs.step hs⟩

/-- From state 's' code 'code' comes to an end as 'Q' says. -/
def AWP (x : X) (N : Nat) (code : Code) (s : AS) (Q : Exit → AS → Prop) : Prop :=
  codeOK N code = true → ∀ (c0 : Cx) (H0 : List AO) (c : Cx) (a : Act), Inv x c0 H0 N s c a →
    code.wpIn (fen x.rd) 0 x.P (fun e a' w' => ∃ s' d, d.w = w' ∧ Q e s' ∧ Inv x c0 H0 N s' d a') a c.w

section
variable {x : X} {N : Nat} {s : AS} {Q : Exit → AS → Prop}

theorem AWP.mono {code : Code} {Q' : Exit → AS → Prop} (h : AWP x N code s Q) (hq : ∀ e s, Q e s → Q' e s) : AWP x N code s Q' :=
  fun hc c0 H0 c a hi => wpIn_mono (h hc c0 H0 c a hi) fun e a w ⟨s', d, h1, h2, h3⟩ => ⟨s', d, h1, hq e s' h2, h3⟩

theorem awp_skip (h : Q .normal s) : AWP x N .skip s Q := fun _ _ _ c a hi => wpIn_skip ⟨s, c, rfl, h, hi⟩
theorem awp_ret (h : Q .ret s) : AWP x N .ret s Q := fun _ _ _ c a hi => wpIn_ret ⟨s, c, rfl, h, hi⟩
theorem awp_exit {id : Nat} (h : Q (.exit id) s) : AWP x N (.exit id) s Q := fun _ _ _ c a hi => wpIn_exit ⟨s, c, rfl, h, hi⟩
theorem awp_label {id : Nat} (h : Q .normal s) : AWP x N (.label id) s Q := fun _ _ _ c a hi => wpIn_label ⟨s, c, rfl, h, hi⟩

def aThen (next : AS → Prop) (Q : Exit → AS → Prop) : Exit → AS → Prop
  | .normal, s => next s
  | e, s => Q e s
def aBlock (id : Nat) (Q : Exit → AS → Prop) : Exit → AS → Prop
  | .exit i, s => if i = id then Q .normal s else Q (.exit i) s
  | e, s => Q e s

theorem awp_seq {p q : Code} (h : AWP x N p s (aThen (fun s' => AWP x N q s' Q) Q)) : AWP x N (.seq p q) s Q := by
  intro hc c0 H0 c a hi
  simp only [codeOK, Bool.and_eq_true] at hc
  refine wpIn_seq (wpIn_mono (h hc.1 c0 H0 c a hi) ?_)
  rintro e a' w' ⟨s', d, rfl, h2, h3⟩
  cases e with
  | normal => exact h2 hc.2 c0 H0 d a' h3
  | _ => exact ⟨s', d, rfl, h2, h3⟩

theorem awp_cond {q : Operand} {p r : Code} {b : Bool} (hq : s.ev q = .bool b) (h1 : b = true → AWP x N p s Q) (h2 : b = false → AWP x N r s Q) : AWP x N (.cond q p r) s Q := by
  intro hc c0 H0 c a hi
  simp only [codeOK, Bool.and_eq_true] at hc
  have hv := hi.tr.ev q
  rw [hq] at hv
  exact wpIn_cond_split (VR_bool hv) (fun e => h1 e hc.1 c0 H0 c a hi) (fun e => h2 e hc.2 c0 H0 c a hi)

theorem awp_block {id : Nat} {p : Code} (h : AWP x N p s (aBlock id Q)) : AWP x N (.block id p) s Q := by
  intro hc c0 H0 c a hi
  refine wpIn_block (wpIn_mono (h hc c0 H0 c a hi) ?_)
  rintro e a' w' ⟨s', d, rfl, h2, h3⟩
  cases e with
  | exit i =>
    simp only [aBlock] at h2
    simp only [Exit.inBlock]
    split at h2
    · rename_i e; rw [if_pos e]; exact ⟨s', d, rfl, h2, h3⟩
    · rename_i e; rw [if_neg e]; exact ⟨s', d, rfl, h2, h3⟩
  | _ => exact ⟨s', d, rfl, h2, h3⟩

/-- So many rounds at most, and the loop has come to its end. -/
def ARounds (x : X) (N : Nat) (code : Code) (Q : Exit → AS → Prop) : Nat → AS → Prop
  | 0, _ => False
  | n + 1, s => AWP x N code s (aThen (ARounds x N code Q n) Q)

theorem awp_loop {code : Code} (n : Nat) (h : ARounds x N code Q n s) : AWP x N (.loop code) s Q := by
  intro hc c0 H0 c a hi
  refine wpIn_loop_rounds n ?_
  have key : ∀ (n : Nat) (s : AS) (c : Cx) (a : Act), ARounds x N code Q n s → Inv x c0 H0 N s c a → Code.roundsIn (fen x.rd) 0 x.P code (fun e a' w' => ∃ s' d, d.w = w' ∧ Q e s' ∧ Inv x c0 H0 N s' d a') n a c.w := by
    intro n
    induction n with
    | zero => intro s c a h _; exact h.elim
    | succ n ih =>
      intro s c a h hi
      rw [roundsIn_succ]
      refine wpIn_mono (h hc c0 H0 c a hi) ?_
      rintro e a' w' ⟨s', d, rfl, h2, h3⟩
      cases e with
      | normal => exact ih s' d a' h2 h3
      | _ => exact ⟨s', d, rfl, h2, h3⟩
  exact key n s c a h hi

/-- What holds of 's' lets one go on from 's''. -/
def Leads (s s' : AS) : Prop := ∀ (x : X) (N : Nat) (c0 : Cx) (H0 : List AO) (c : Cx) (a : Act), H0.length ≤ s.H.length → Inv x c0 H0 N s c a → ∃ d, d.w = c.w ∧ Inv x c0 H0 N s' d a

theorem AWP.leads {code : Code} {s' : AS} (hl : Leads s s') (h : AWP x N code s' Q) : AWP x N code s Q := by
  intro hc c0 H0 c a hi
  obtain ⟨d, e, hi'⟩ := hl x N c0 H0 c a hi.len hi
  rw [← e]
  exact h hc c0 H0 d a hi'
theorem ARounds.leads {code : Code} {s' : AS} {n : Nat} (hl : Leads s s') (h : ARounds x N code Q n s') : ARounds x N code Q n s := by
  cases n with
  | zero => exact h.elim
  | succ n => exact AWP.leads hl h

/-- Only the private objects below 'n' are referred to. -/
def pl (n : Nat) : Bool → Nat → Bool := fun sh j => sh || decide (j < n)

/-- The later private objects, and some temporaries, are forgotten. -/
theorem leads_cut {s s' : AS} (n : Nat) (hloc : s'.loc = s.loc.take n) (hH : s'.H = s.H) (ht : ∀ p ∈ s'.t, p.2 = .any ∨ (s.get p.1 = p.2 ∧ p.2.ok (pl n) = true)) (ho : ∀ o ∈ s'.loc, o.ok (pl n) = true) (hs : ∀ o ∈ s'.H, o.ok (pl n) = true) : Leads s s' := by
  intro x N c0 H0 c a h0 hi
  let lam' : Lam := fun sh j ver => if sh || decide (j < n) then c.lam sh j ver else none
  have hlok : ∀ sh j ver q, pl n sh j = true → c.lam sh j ver = some q → lam' sh j ver = some q := by
    intro sh j ver q h1 h2
    simp only [lam']
    simp only [pl] at h1
    rw [if_pos h1]; exact h2
  have hback : ∀ sh j ver q, lam' sh j ver = some q → pl n sh j = true ∧ c.lam sh j ver = some q := by
    intro sh j ver q h
    simp only [lam'] at h
    split at h
    · rename_i h1; exact ⟨h1, h⟩
    · cases h
  have hmem : ∀ (sh : Bool) (j : Nat) (o : AO), (s'.mem sh)[j]? = some o → (s.mem sh)[j]? = some o ∧ o.ok (pl n) = true := by
    intro sh j o h
    cases sh with
    | true =>
      simp only [AS.mem, mem_true] at h ⊢
      exact ⟨by rw [← hH]; exact h, hs o (List.mem_of_getElem? h)⟩
    | false =>
      simp only [AS.mem, mem_false] at h ⊢
      refine ⟨?_, ho o (List.mem_of_getElem? h)⟩
      rw [hloc, List.getElem?_take] at h
      split at h
      · exact h
      · cases h
  have hown : ∀ sh j m, Owns lam' s'.mem sh j m → Owns c.lam s.mem sh j m := by
    rintro sh j m ⟨o, a', cap, h1, h2, h3, h4⟩
    exact ⟨o, a', cap, (hmem sh j o h1).1, h2, (hback _ _ _ _ h3).2, h4⟩
  refine ⟨⟨c.w, c.Fz, lam'⟩, rfl, ⟨?_, ?_, fun sh j sh' j' m h1 h2 => hi.mem.sep _ _ _ _ m (hown _ _ m h1) (hown _ _ m h2), fun sh j m h => hi.mem.unf _ _ m (hown _ _ m h), hi.mem.fzl⟩, ⟨hi.ev.size, hi.ev.os, hi.ev.tape, hi.ev.output, hi.ev.same, hi.ev.fz, hi.ev.fzn, ?_, fun sh j m h => hi.ev.own _ _ m (hown _ _ m h)⟩, by rw [hH]; exact hi.len, ?_, hi.size, hi.defs.less rfl (fun sh j m h => ⟨sh, j, hown sh j m h⟩) (fun _ h => h)⟩
  · intro sh j o p h1 h2
    obtain ⟨h3, h4⟩ := hmem sh j o h1
    exact ObjAt_ok (hi.mem.obj sh j o p h3 (hback _ _ _ _ h2).2) rfl rfl hlok h4
  · intro sh j ver p h
    obtain ⟨h1, h2⟩ := hback _ _ _ _ h
    obtain ⟨o, h3, h4⟩ := hi.mem.dom _ _ _ _ h2
    refine ⟨o, ?_, h4⟩
    cases sh with
    | true => simp only [AS.mem, mem_true] at h3 ⊢; rw [hH]; exact h3
    | false =>
      simp only [AS.mem, mem_false] at h3 ⊢
      simp only [pl, Bool.false_or, decide_eq_true_eq] at h1
      rw [hloc, List.getElem?_take, if_pos h1]; exact h3
  · intro j ver p hj h
    simp only [lam']
    simp [hi.ev.lam j ver p hj h]
  · intro i
    by_cases hg : s'.get i = .any
    · rw [hg]; trivial
    · have hmi : (i, s'.get i) ∈ s'.t := by
        unfold AS.get at hg ⊢
        cases hl : s'.t.lookup i with
        | none => rw [hl] at hg; simp at hg
        | some v =>
          simp only [Option.getD_some]
          have key : ∀ (l : List (Nat × AV)), l.lookup i = some v → (i, v) ∈ l := by
            intro l
            induction l with
            | nil => intro h; simp at h
            | cons p l ih =>
              intro h
              rw [List.lookup_cons] at h
              split at h
              · rename_i e
                have : i = p.1 := by simpa using e
                cases h
                rw [this]; exact List.mem_cons_self
              · exact List.mem_cons_of_mem _ (ih h)
          exact key _ hl
      rcases ht _ hmi with h | ⟨h1, h2⟩
      · exact (hg h).elim
      · have := hi.tr i
        simp only at h1
        rw [h1] at this
        exact VR_ok (c := c) (d := ⟨c.w, c.Fz, lam'⟩) (p := pl n) (fun _ h => h) (fun _ _ => rfl) hlok h2 this
end
end Go.Abs
/- Regions in the order of the text; what each operation asks; bodies of functions. -/
set_option linter.unusedVariables false
set_option linter.unusedSimpArgs false
namespace Go.Abs
open Go.RowKit

/-- Is an operation carried out? -/
def guardP (ops : Array Oper) (o : Oper) (s : AS) (A B : Prop) : Prop :=
  match o.guard with
  | none => A
  | some (j, want) => match (ops[j]?).bind (·.dst) with
    | none => False
    | some d => match s.get d with
      | .bool b => (b = want → A) ∧ (b ≠ want → B)
      | .tup _ => B
      | _ => False

/-- The operations one by one. -/
def AOps (x : X) (ops : Array Oper) (K : AS → Prop) : List Oper → AS → Prop
  | [], s => K s
  | o :: rest, s => guardP ops o s (OpW x o s (fun v s' => AOps x ops K rest (s'.put o.dst v))) (AOps x ops K rest (s.put o.dst (.tup [])))

theorem guard_sound {P : Program} {ops : Array Oper} {o : Oper} {s : AS} {A B : Prop} {c : Cx} {a : Act} (h : guardP ops o s A B) (ht : TR c s a) (hdst : ∀ (j d : Nat), (ops[j]?).bind (·.dst) = some d → d < a.tmps.size) : (Region.wanted o (yielded ops a.tmps) = true ∧ A) ∨ (Region.wanted o (yielded ops a.tmps) = false ∧ B) := by
  unfold guardP at h
  unfold Region.wanted
  cases hg : o.guard with
  | none => rw [hg] at h; exact .inl ⟨rfl, h⟩
  | some p =>
    obtain ⟨j, want⟩ := p
    rw [hg] at h
    simp only at h ⊢
    cases hd : (ops[j]?).bind (·.dst) with
    | none => rw [hd] at h; exact h.elim
    | some d =>
      rw [hd] at h
      simp only at h
      have hv := ht d
      have hlt := hdst j d hd
      split at h
      · rename_i b hb
        rw [hb] at hv
        have hv := VR_bool hv
        have hy : yielded ops a.tmps j = some b := by
          have h1 : a.tmps[d]? = some (.bool b) := by
            rw [Array.getD_eq_getD_getElem?] at hv
            rw [Array.getElem?_eq_getElem hlt] at hv ⊢
            simpa using hv
          simp only [yielded, hd, Option.bind_some, h1]
        rw [hy]
        by_cases e : b = want
        · subst e; exact .inl ⟨by simp, h.1 rfl⟩
        · exact .inr ⟨by simpa using e, h.2 e⟩
      · rename_i vs hb
        rw [hb] at hv
        simp only [VR] at hv
        obtain ⟨ms, hms, _⟩ := hv
        have hy : yielded ops a.tmps j = none := by
          rw [Array.getD_eq_getD_getElem?] at hms
          rw [Array.getElem?_eq_getElem hlt] at hms
          simp only [Option.getD_some] at hms
          simp only [yielded, hd, Option.bind_some, Array.getElem?_eq_getElem hlt, hms]
        rw [hy]
        exact .inr ⟨rfl, h⟩
      · exact h.elim

theorem VR_undef (c : Cx) : VR c (.tup []) undef := ⟨[], by simp [undef], rfl, by simp⟩
theorem put_size (a : Act) (d : Option Tmp) (v : Value) : (a.put d v).tmps.size = a.tmps.size := by cases d <;> simp [Act.put]
theorem put_defers (a : Act) (d : Option Tmp) (v : Value) : (a.put d v).defers = a.defers := by cases d <;> rfl

theorem wpOps_of_AOps {x : X} {N : Nat} {c0 : Cx} {H0 : List AO} {ops : Array Oper} {K : AS → Prop} {Q : Exit → Act → World → Prop} (hok : ∀ o ∈ ops.toList, ∀ d, o.dst = some d → d < N) (hdf : ∀ o ∈ ops.toList, isDefer o.op = false)
    (hK : ∀ s c a, K s → Inv x c0 H0 N s c a → Q .normal a c.w) : ∀ (n k : Nat) (s : AS) (c : Cx) (a : Act), k + n = ops.size → AOps x ops K (ops.toList.drop k) s → Inv x c0 H0 N s c a → wpOpsIn (fen x.rd) 0 x.P ops Q (List.range' k n) a c.w
  | 0, k, s, c, a, hk, h, hi => by
    have : ops.toList.drop k = [] := List.drop_eq_nil_of_le (by simp; omega)
    rw [this] at h
    simp only [List.range'_zero, wpOpsIn]
    exact hK s c a h hi
  | n + 1, k, s, c, a, hk, h, hi => by
    have hlt : k < ops.toList.length := by simp; omega
    rw [List.drop_eq_getElem_cons hlt] at h
    have ho : ops[k]? = some (ops.toList[k]) := by rw [← Array.getElem?_toList]; exact List.getElem?_eq_getElem hlt
    rw [List.range'_succ, wpOpsIn_cons]
    simp only [wpOpIn, ho]
    rw [AOps] at h
    have hmo := List.getElem_mem hlt
    rcases guard_sound (P := x.P) h hi.tr (fun j d hd => by
      rw [hi.size]
      rw [Option.bind_eq_some_iff] at hd
      obtain ⟨o', h1, h2⟩ := hd
      exact hok o' (by rw [← Array.getElem?_toList] at h1; exact List.mem_of_getElem? h1) d h2) with ⟨hw, h⟩ | ⟨hw, h⟩
    · rw [if_pos hw]
      refine wpX_in (hdf _ hmo) (wpX_mono ?_ (h c a Q hi.mem (fun y _ => hi.tr.ev y)))
      rintro a' w' ⟨v, s', d, m, rfl, rfl, h1, h2, h3, h4, h5⟩
      refine wpOps_of_AOps hok hdf hK n (k + 1) _ d _ (by omega) h1 ⟨?_, ?_, ?_, ?_, ?_, ?_⟩
      · have : (s'.put ops.toList[k].dst v).mem = s'.mem := by cases ops.toList[k].dst <;> rfl
        rw [this]; exact h3
      · have : (s'.put ops.toList[k].dst v).mem = s'.mem := by cases ops.toList[k].dst <;> rfl
        rw [this]; exact hi.ev.step h4
      · have : (s'.put ops.toList[k].dst v).H = s'.H := by cases ops.toList[k].dst <;> rfl
        rw [this]
        exact Nat.le_trans hi.len (by simpa [AS.mem] using h4.len)
      · have hle := h4.le hi.mem
        have htr : TR d s' a := fun i => by
          have := VR_mono hle (hi.tr i)
          simpa [AS.get, h5] using this
        exact htr.put _ h2 (fun t ht => by rw [hi.size]; exact hok _ hmo t ht)
      · rw [put_size]; exact hi.size
      · have : (s'.put ops.toList[k].dst v).mem = s'.mem := by cases ops.toList[k].dst <;> rfl
        rw [put_defers, this]; exact hi.defs.step h4
    · rw [hw]
      simp only [Bool.false_eq_true, if_false]
      refine ⟨fun _ _ => trivial, ?_⟩
      refine wpOps_of_AOps hok hdf hK n (k + 1) _ c _ (by omega) h ⟨?_, ?_, ?_, ?_, ?_, ?_⟩
      · have : (s.put ops.toList[k].dst (.tup [])).mem = s.mem := by cases ops.toList[k].dst <;> rfl
        rw [this]; exact hi.mem
      · have : (s.put ops.toList[k].dst (.tup [])).mem = s.mem := by cases ops.toList[k].dst <;> rfl
        rw [this]; exact hi.ev
      · have : (s.put ops.toList[k].dst (.tup [])).H = s.H := by cases ops.toList[k].dst <;> rfl
        rw [this]; exact hi.len
      · exact hi.tr.put _ (VR_undef c) (fun t ht => by rw [hi.size]; exact hok _ hmo t ht)
      · rw [put_size]; exact hi.size
      · have : (s.put ops.toList[k].dst (.tup [])).mem = s.mem := by cases ops.toList[k].dst <;> rfl
        rw [put_defers, this]; exact hi.defs

end Go.Abs
/- Comparing: structs of numbers, bools, slices with nil; the bits of numbers; parts of what is frozen. -/
set_option linter.unusedVariables false
set_option linter.unusedSimpArgs false
namespace Go.Abs
open Go.RowKit

def eqFs (P : Program) (g : TypeId → Option (List IntKind)) : List Field → Nat → Option (List IntKind)
  | [], _ => some []
  | f :: fs, off => if f.name = "_" then none else if f.offset = off then
      match g f.type with
      | some ks => if (P.info? f.type).map (·.size) = some ks.length then (eqFs P g fs (off + ks.length)).map (ks ++ ·) else none
      | none => none
    else none
/-- The kinds of a struct of nothing but numbers (and structs of such). -/
def eqT (P : Program) : Nat → TypeId → Option (List IntKind)
  | 0, _ => none
  | d + 1, t => match P.underlying t with
    | some (.int k) => some [k]
    | some (.struct fs) => if P.stoodInHeld t then none else eqFs P (eqT P d) fs.toList 0
    | _ => none
def mkv (ks : List IntKind) (xs : List Int) : List Value := List.zipWith Value.int ks xs
def tv (P : Program) (t : TypeId) (cs : List Value) : Value := if aggT P t = some true then .agg cs.toArray else cs.headD undef

theorem mkv_append {ks ls : List IntKind} {a b : List Int} (h : ks.length = a.length) : mkv (ks ++ ls) (a ++ b) = mkv ks a ++ mkv ls b := by
  unfold mkv
  exact List.zipWith_append h
theorem mkv_len {ks : List IntKind} {a : List Int} (h : ks.length = a.length) : (mkv ks a).length = ks.length := by simp [mkv, h]

theorem eqT_agg {P : Program} {d : Nat} {t : TypeId} {ks : List IntKind} (h : eqT P d t = some ks) : (aggT P t = some true) ∨ (aggT P t = some false ∧ ∃ k, ks = [k] ∧ P.underlying t = some (.int k)) := by
  cases d with
  | zero => cases h
  | succ d =>
    simp only [eqT] at h
    split at h
    · rename_i k hu
      cases h
      exact .inr ⟨by simp [aggT, hu, aggD], k, rfl, hu⟩
    · rename_i fs hu
      exact .inl (by simp [aggT, hu, aggD])
    · cases h

theorem part_tv {P : Program} {d : Nat} {t : TypeId} {ks : List IntKind} (h : eqT P d t = some ks) (hz : (P.info? t).map (·.size) = some ks.length) {a : List Int} (ha : ks.length = a.length) (pre post : List Value) (w : World) :
    (part t (pre ++ (mkv ks a ++ post)).toArray pre.length).run P w = .ok (tv P t (mkv ks a)) w := by
  rcases eqT_agg h with hg | ⟨hg, k, rfl, hu⟩
  · simp only [part, Sem.run_bind, agg_run hg, Result.andThen_ok, if_true, size_run hz, Sem.run_pure, tv, hg]
    congr 2
    have e : ks.length = (mkv ks a).length := (mkv_len ha).symm
    rw [e]
    apply Array.toList_inj.1
    simp [List.drop_append, List.take_append]
  · match a, ha with
    | [x], _ => simp [part, Sem.run_bind, agg_run hg, tv, hg, mkv]

theorem eqT_run {P : Program} : ∀ (d : Nat) (t : TypeId) (ks : List IntKind), eqT P d t = some ks → ∀ (e : Nat), d ≤ e → ∀ (xs ys : List Int) (w : World), ks.length = xs.length → ks.length = ys.length →
    (Op.equalIn e t (tv P t (mkv ks xs)) (tv P t (mkv ks ys))).run P w = .ok (xs == ys) w
  | 0, t, ks, h, e, he, xs, ys, w, hx, hy => by cases h
  | d + 1, t, ks, h, 0, he, xs, ys, w, hx, hy => by omega
  | d + 1, t, ks, h, e + 1, he, xs, ys, w, hx, hy => by
    have h0 := h
    simp only [eqT] at h
    split at h
    · rename_i k hu
      cases h
      match xs, ys, hx, hy with
      | [x], [y], _, _ =>
        have hg : aggT P t = some false := by simp [aggT, hu, aggD]
        simp only [tv, hg, mkv, List.zipWith_cons_cons, List.zipWith_nil_left, List.headD_cons]
        simp only [Option.some.injEq, Bool.false_eq_true, if_false]
        rw [run_equalIn_int w e t k k x y hu]
        simp
    · rename_i fs hu
      split at h
      · cases h
      · rename_i hst
        have hg : aggT P t = some true := by simp [aggT, hu, aggD]
        have hf : P.fieldsOf t = fs := by simp [Program.fieldsOf, hu]
        simp only [tv, hg, if_true]
        rw [run_equalIn_struct w e t _ _ (by rw [hf]; exact hu) (by simpa using hst), hf]
        have key : ∀ (l : List Field) (off : Nat) (ks : List IntKind) (p1 p2 : List Value) (xs ys : List Int), p1.length = off → p2.length = off → eqFs P (eqT P d) l off = some ks → ks.length = xs.length → ks.length = ys.length →
            (Op.eqFields e (p1 ++ mkv ks xs).toArray (p2 ++ mkv ks ys).toArray l).run P w = .ok (xs == ys) w := by
          intro l
          induction l with
          | nil =>
            intro off ks p1 p2 xs ys _ _ h hx hy
            simp only [eqFs] at h
            cases h
            match xs, ys, hx, hy with
            | [], [], _, _ => simp [Op.eqFields]
          | cons f l ih =>
            intro off ks p1 p2 xs ys hp1 hp2 h hx hy
            simp only [eqFs] at h
            split at h
            · cases h
            · rename_i hn
              split at h
              · rename_i ho
                split at h
                · rename_i k1 hk1
                  split at h
                  · rename_i hz
                    rw [Option.map_eq_some_iff] at h
                    obtain ⟨k2, hk2, rfl⟩ := h
                    have hxl : k1.length ≤ xs.length := by simp at hx; omega
                    have hyl : k1.length ≤ ys.length := by simp at hy; omega
                    have ex := (List.take_append_drop k1.length xs).symm
                    have ey := (List.take_append_drop k1.length ys).symm
                    generalize hx1 : xs.take k1.length = x1 at ex
                    generalize hx2 : xs.drop k1.length = x2 at ex
                    generalize hy1 : ys.take k1.length = y1 at ey
                    generalize hy2 : ys.drop k1.length = y2 at ey
                    have lx1 : k1.length = x1.length := by rw [← hx1]; simp; omega
                    have ly1 : k1.length = y1.length := by rw [← hy1]; simp; omega
                    subst ex ey
                    have lx2 : k2.length = x2.length := by simp at hx; omega
                    have ly2 : k2.length = y2.length := by simp at hy; omega
                    rw [mkv_append lx1, mkv_append ly1]
                    simp only [Op.eqFields, hn, ne_eq, not_false_eq_true, if_true, Sem.run_bind, ho]
                    rw [show off = p1.length from hp1.symm, part_tv hk1 hz lx1, Result.andThen_ok, hp1, ← hp2, part_tv hk1 hz ly1, Result.andThen_ok, eqT_run d f.type k1 hk1 e (by omega) x1 y1 w lx1 ly1, Result.andThen_ok]
                    have hih := ih (off + k1.length) k2 (p1 ++ mkv k1 x1) (p2 ++ mkv k1 y1) x2 y2 (by simp [mkv_len lx1, hp1]) (by simp [mkv_len ly1, hp2]) hk2 lx2 ly2
                    rw [List.append_assoc, List.append_assoc] at hih
                    by_cases hb : x1 = y1
                    · subst hb
                      simp only [BEq.rfl, Bool.not_true, Bool.false_eq_true, if_false, hih]
                      congr 1
                      rw [Bool.eq_iff_iff]
                      simp
                    · have : (x1 == y1) = false := by simpa using hb
                      simp only [this, Bool.not_false, if_true, Sem.run_pure]
                      congr 1
                      symm
                      simp only [beq_eq_false_iff_ne, ne_eq]
                      intro he
                      exact hb (List.append_inj_left he (by omega))
                  · cases h
                · cases h
              · cases h
        exact key fs.toList 0 ks [] [] xs ys rfl rfl h hx hy
    · cases h
end Go.Abs
/- Comparing, as the abstract machine sees it; parts of what is frozen. -/
set_option linter.unusedVariables false
set_option linter.unusedSimpArgs false
namespace Go.Abs
open Go.RowKit

mutual
/-- The numbers of a struct of nothing else. -/
def AV.flatI : AV → Option (List (IntKind × Int))
  | .int k n => some [(k, n)]
  | .agg vs => AV.flatIs vs
  | _ => none
def AV.flatIs : List AV → Option (List (IntKind × Int))
  | [] => some []
  | v :: vs => match v.flatI, AV.flatIs vs with
    | some a, some b => some (a ++ b)
    | _, _ => none
end
mutual
theorem flatI_CR {c : Cx} : ∀ (v : AV) (l : List (IntKind × Int)) (cs : List Value), v.flatI = some l → CR c v cs → cs = mkv (l.map (·.1)) (l.map (·.2))
  | .int k n, l, cs, h, hc => by
    rw [AV.flatI] at h
    cases h
    rw [CR] at hc
    subst hc
    rfl
  | .agg vs, l, cs, h, hc => by
    rw [AV.flatI] at h
    rw [CR] at hc
    obtain ⟨css, hc, rfl⟩ := hc
    exact flatIs_CR vs l css h hc
  | .any, l, cs, h, hc => by rw [AV.flatI] at h; cases h; all_goals simp
  | .bool _, l, cs, h, hc => by rw [AV.flatI] at h; cases h; all_goals simp
  | .str _, l, cs, h, hc => by rw [AV.flatI] at h; cases h; all_goals simp
  | .arr _ _, l, cs, h, hc => by rw [AV.flatI] at h; cases h; all_goals simp
  | .lit _ _, l, cs, h, hc => by rw [AV.flatI] at h; cases h; all_goals simp
  | .nilS, l, cs, h, hc => by rw [AV.flatI] at h; cases h; all_goals simp
  | .own _ _ _, l, cs, h, hc => by rw [AV.flatI] at h; cases h; all_goals simp
  | .pin _, l, cs, h, hc => by rw [AV.flatI] at h; cases h; all_goals simp
  | .nilP, l, cs, h, hc => by rw [AV.flatI] at h; cases h; all_goals simp
  | .ref _ _ _ _ _, l, cs, h, hc => by rw [AV.flatI] at h; cases h; all_goals simp
  | .func _ _ _, l, cs, h, hc => by rw [AV.flatI] at h; cases h; all_goals simp
  | .nilF, l, cs, h, hc => by rw [AV.flatI] at h; cases h; all_goals simp
  | .mapr _ _, l, cs, h, hc => by rw [AV.flatI] at h; cases h; all_goals simp
  | .nilM, l, cs, h, hc => by rw [AV.flatI] at h; cases h; all_goals simp
  | .iface _ _, l, cs, h, hc => by rw [AV.flatI] at h; cases h; all_goals simp
  | .nilI, l, cs, h, hc => by rw [AV.flatI] at h; cases h; all_goals simp
  | .tup _, l, cs, h, hc => by rw [AV.flatI] at h; cases h; all_goals simp
  | .yld _ _, l, cs, h, hc => by rw [AV.flatI] at h; cases h; all_goals simp
  | .win _ _ _ _ _, l, cs, h, hc => by rw [AV.flatI] at h; cases h; all_goals simp
theorem flatIs_CR {c : Cx} : ∀ (vs : List AV) (l : List (IntKind × Int)) (css : List (List Value)), AV.flatIs vs = some l → CRs c vs css → css.flatten = mkv (l.map (·.1)) (l.map (·.2))
  | [], l, css, h, hc => by
    rw [AV.flatIs] at h
    cases h
    rw [CRs] at hc
    subst hc
    rfl
  | v :: vs, l, css, h, hc => by
    rw [AV.flatIs] at h
    split at h
    · rename_i a b ha hb
      cases h
      rw [CRs] at hc
      obtain ⟨x, xs, rfl, h1, h2⟩ := hc
      rw [List.flatten_cons, flatI_CR v a x ha h1, flatIs_CR vs b xs hb h2, List.map_append, List.map_append, mkv_append (by simp)]
    · cases h
end
def EqTy (P : Program) (t : TypeId) (ks : List IntKind) : Prop := eqT P 8 t = some ks ∧ P.eqGuardType P.depth t = false ∧ aggT P t = some true

/-- What a comparison of two values other than numbers and strings asks, and yields. -/
def pCmp (P : Program) (op : BinOp) (t : TypeId) (a b : AV) (K : AV → Prop) : Prop :=
  match a, b with
  | .bool p, .bool q => P.underlying t = some .bool ∧ (match op with | .eql => K (.bool (p == q)) | .neq => K (.bool (!(p == q))) | _ => False)
  | .nilS, .nilS => (∃ e, P.underlying t = some (.slice e)) ∧ (match op with | .eql => K (.bool true) | .neq => K (.bool false) | _ => False)
  | .lit _ vs, .nilS => vs ≠ [] ∧ (∃ e, P.underlying t = some (.slice e)) ∧ (match op with | .eql => K (.bool false) | .neq => K (.bool true) | _ => False)
  | a, b => match a.flatI, b.flatI with
    | some la, some lb => a.isAgg = true ∧ b.isAgg = true ∧ lb.map (·.1) = la.map (·.1) ∧ EqTy P t (la.map (·.1)) ∧ (match op with | .eql => K (.bool (la.map (·.2) == lb.map (·.2))) | .neq => K (.bool (!(la.map (·.2) == lb.map (·.2)))) | _ => False)
    | _, _ => False

theorem eqGuard_other {P : Program} (op : BinOp) (t : TypeId) (x y : Operand) (a b : Value) (w : World) (h1 : ¬ (a = .nilIface ∧ b = .nilIface)) (h2 : ∀ xs ys, ¬ (a = .agg xs ∧ b = .agg ys)) : (eqGuard op t x y a b).run P w = .ok () w := by
  unfold eqGuard
  cases op <;> simp [Sem.run_ite] <;> (split <;> first | (exfalso; exact h1 ⟨rfl, rfl⟩) | (exfalso; exact h2 _ _ ⟨rfl, rfl⟩) | simp)

theorem pure_cmp {P : Program} {o : Oper} {s : AS} {op : BinOp} {t yt : TypeId} {x y : Operand} {K : AV → Prop} (h : o.op = .binOp op t x y yt) (hp : pCmp P op t (s.ev x) (s.ev y) K) : ∃ v, Pure P o s v ∧ K v := by
  unfold pCmp at hp
  split at hp
  · rename_i p q hx hy
    obtain ⟨hu, hp⟩ := hp
    have key : ∀ (c : Cx) (ρ : Operand → Value), (∀ z ∈ o.op.operands, VR c (s.ev z) (ρ z)) → ρ x = .bool p ∧ ρ y = .bool q := by
      intro c ρ ho
      have h1 := ho x (by simp [h, Op.operands])
      have h2 := ho y (by simp [h, Op.operands])
      rw [hx] at h1
      rw [hy] at h2
      exact ⟨VR_bool h1, VR_bool h2⟩
    split at hp
    · refine ⟨_, fun c ρ ho => ?_, hp⟩
      obtain ⟨h1, h2⟩ := key c ρ ho
      have hg := eqGuard_other (P := P) .eql t x y (.bool p) (.bool q) c.w (by simp) (by simp)
      exact ⟨_, by simp [execOp, h, h1, h2, hg, binOp, run_equal_bool c.w t p q hu], VR_bool_mk _ _⟩
    · refine ⟨_, fun c ρ ho => ?_, hp⟩
      obtain ⟨h1, h2⟩ := key c ρ ho
      have hg := eqGuard_other (P := P) .neq t x y (.bool p) (.bool q) c.w (by simp) (by simp)
      exact ⟨_, by simp [execOp, h, h1, h2, hg, binOp, run_equal_bool c.w t p q hu], VR_bool_mk _ _⟩
    · exact hp.elim
  · rename_i hx hy
    obtain ⟨⟨e, hu⟩, hp⟩ := hp
    have key : ∀ (c : Cx) (ρ : Operand → Value), (∀ z ∈ o.op.operands, VR c (s.ev z) (ρ z)) → ρ x = .slice none 0 0 ∧ ρ y = .slice none 0 0 := by
      intro c ρ ho
      have h1 := ho x (by simp [h, Op.operands])
      have h2 := ho y (by simp [h, Op.operands])
      rw [hx] at h1
      rw [hy] at h2
      obtain ⟨cs, h1, e1⟩ := h1
      obtain ⟨ds, h2, e2⟩ := h2
      rw [CR] at h1 h2
      subst h1 h2
      exact ⟨e1, e2⟩
    split at hp
    · refine ⟨_, fun c ρ ho => ?_, hp⟩
      obtain ⟨h1, h2⟩ := key c ρ ho
      have hg := eqGuard_other (P := P) .eql t x y (.slice none 0 0) (.slice none 0 0) c.w (by simp) (by simp)
      exact ⟨_, by simp [execOp, h, h1, h2, hg, binOp, run_equal_slice_nil c.w t e none 0 0 hu], VR_bool_mk _ _⟩
    · refine ⟨_, fun c ρ ho => ?_, hp⟩
      obtain ⟨h1, h2⟩ := key c ρ ho
      have hg := eqGuard_other (P := P) .neq t x y (.slice none 0 0) (.slice none 0 0) c.w (by simp) (by simp)
      exact ⟨_, by simp [execOp, h, h1, h2, hg, binOp, run_equal_slice_nil c.w t e none 0 0 hu], VR_bool_mk _ _⟩
    · exact hp.elim
  · rename_i sz vs hx hy
    obtain ⟨hne, ⟨e, hu⟩, hp⟩ := hp
    have key : ∀ (c : Cx) (ρ : Operand → Value), (∀ z ∈ o.op.operands, VR c (s.ev z) (ρ z)) → ∃ ad n m, ρ x = .slice (some ad) n m ∧ ρ y = .slice none 0 0 := by
      intro c ρ ho
      have h1 := ho x (by simp [h, Op.operands])
      have h2 := ho y (by simp [h, Op.operands])
      rw [hx] at h1
      rw [hy] at h2
      obtain ⟨a, cap, css, _, _, hm, _, _, ha⟩ := VR_lit h1
      obtain ⟨ad, rfl, _⟩ := ha hne
      obtain ⟨ds, h2, e2⟩ := h2
      rw [CR] at h2
      subst h2
      exact ⟨ad, _, _, hm, e2⟩
    split at hp
    · refine ⟨_, fun c ρ ho => ?_, hp⟩
      obtain ⟨ad, n, m, h1, h2⟩ := key c ρ ho
      have hg := eqGuard_other (P := P) .eql t x y (.slice (some ad) n m) (.slice none 0 0) c.w (by simp) (by simp)
      exact ⟨_, by simp [execOp, h, h1, h2, hg, binOp, run_equal_slice_nil c.w t e (some ad) n m hu], VR_bool_mk _ _⟩
    · refine ⟨_, fun c ρ ho => ?_, hp⟩
      obtain ⟨ad, n, m, h1, h2⟩ := key c ρ ho
      have hg := eqGuard_other (P := P) .neq t x y (.slice (some ad) n m) (.slice none 0 0) c.w (by simp) (by simp)
      exact ⟨_, by simp [execOp, h, h1, h2, hg, binOp, run_equal_slice_nil c.w t e (some ad) n m hu], VR_bool_mk _ _⟩
    · exact hp.elim
  · split at hp
    · rename_i la lb hla hlb
      obtain ⟨ha, hb, hk, ⟨hT, hG, hg⟩, hp⟩ := hp
      have key : ∀ (c : Cx) (ρ : Operand → Value), (∀ z ∈ o.op.operands, VR c (s.ev z) (ρ z)) → ρ x = .agg (mkv (la.map (·.1)) (la.map (·.2))).toArray ∧ ρ y = .agg (mkv (la.map (·.1)) (lb.map (·.2))).toArray := by
        intro c ρ ho
        have h1 := ho x (by simp [h, Op.operands])
        have h2 := ho y (by simp [h, Op.operands])
        have sx : (s.ev x).solid = true := by cases hq : s.ev x <;> simp_all [AV.isAgg, AV.solid]
        have sy : (s.ev y).solid = true := by cases hq : s.ev y <;> simp_all [AV.isAgg, AV.solid]
        obtain ⟨cs, h1, e1⟩ := (VR_solid sx).1 h1
        obtain ⟨ds, h2, e2⟩ := (VR_solid sy).1 h2
        rw [e1, e2, flatI_CR _ _ _ hla h1, flatI_CR _ _ _ hlb h2]
        simp only [vOf, ha, hb, if_true, hk, and_self]
      have hlen : la.length = lb.length := by
        have := congrArg List.length hk
        simpa using this.symm
      have run : ∀ w, aggT P t = some true → (Op.equalIn 10000 t (.agg (mkv (la.map (·.1)) (la.map (·.2))).toArray) (.agg (mkv (la.map (·.1)) (lb.map (·.2))).toArray)).run P w = .ok (la.map (·.2) == lb.map (·.2)) w := by
        intro w hg
        have := eqT_run 8 t _ hT 10000 (by omega) (la.map (·.2)) (lb.map (·.2)) w (by simp) (by simp [hlen])
        simp only [tv, hg, if_true] at this
        exact this
      split at hp
      · refine ⟨_, fun c ρ ho => ?_, hp⟩
        obtain ⟨h1, h2⟩ := key c ρ ho
        have hgd := run_eqGuard_agg (P := P) c.w .eql t x y (mkv (la.map (·.1)) (la.map (·.2))).toArray (mkv (la.map (·.1)) (lb.map (·.2))).toArray hG
        exact ⟨_, by simp only [execOp, h, h1, h2, Sem.run_bind, hgd, Result.andThen_ok, run_eql_struct, run c.w hg, Sem.run_pure], VR_bool_mk _ _⟩
      · refine ⟨_, fun c ρ ho => ?_, hp⟩
        obtain ⟨h1, h2⟩ := key c ρ ho
        have hgd := run_eqGuard_agg (P := P) c.w .neq t x y (mkv (la.map (·.1)) (la.map (·.2))).toArray (mkv (la.map (·.1)) (lb.map (·.2))).toArray hG
        exact ⟨_, by simp only [execOp, h, h1, h2, Sem.run_bind, hgd, Result.andThen_ok, run_neq_struct, run c.w hg, Sem.run_pure], VR_bool_mk _ _⟩
      · exact hp.elim
    · exact hp.elim
end Go.Abs
/- Parts of slices that are frozen. -/
set_option linter.unusedVariables false
set_option linter.unusedSimpArgs false
namespace Go.Abs
open Go.RowKit

def bnd (s : AS) (d : Nat) : Option Operand → Option Nat
  | none => some d
  | some y => match s.ev y with
    | .int _ n => if 0 ≤ n then some n.toNat else none
    | _ => none

theorem bound_run {P : Program} {o : Oper} {s : AS} {c : Cx} {ρ : Operand → Value} {y : Operand} {n y' : Nat} {code : BoundsCode} (h : bnd s 0 (some y) = some n) (hv : VR c (s.ev y) (ρ y)) (hle : n ≤ y') (w : World) : (Instr.sliceBound (ρ y) y' code).run P w = .ok n w := by
  unfold bnd at h
  simp only at h
  split at h
  · rename_i k m hy
    split at h
    · rename_i h0
      cases h
      rw [hy] at hv
      have := VR_int hv
      rw [this]
      have h1 : m ≤ (y' : Int) := by omega
      simp [Instr.sliceBound, asIntOf, Sem.run_bind, h0, h1]
    · cases h
  · cases h

theorem bounds_run {P : Program} {s : AS} {c : Cx} {ρ : Operand → Value} {lo hi : Option Operand} {l h len cap : Nat} (hl : bnd s 0 lo = some l) (hh : bnd s len hi = some h) (hv : ∀ y, lo = some y ∨ hi = some y → VR c (s.ev y) (ρ y)) (h1 : l ≤ h) (h2 : h ≤ len) (h3 : len ≤ cap) (w : World) :
    (Instr.sliceBounds true len cap (lo.map ρ) (hi.map ρ) none).run P w = .ok (l, h, cap) w := by
  have e1 : (match hi.map ρ with | some v => Instr.sliceBound v cap (if true = true then .sliceAcap else .sliceAlen) | none => pure len : Sem Nat).run P w = .ok h w := by
    cases hi with
    | none => simp [bnd] at hh; subst hh; simp
    | some y =>
      have hh' : bnd s 0 (some y) = some h := hh
      simpa using bound_run (P := P) (o := default) hh' (hv y (.inr rfl)) (by omega) w
  cases lo with
  | none =>
    simp [bnd] at hl
    subst hl
    cases hi with
    | none =>
      simp [bnd] at hh
      subst hh
      simp [Instr.sliceBounds, Sem.run_bind]
    | some y =>
      have hh' : bnd s 0 (some y) = some h := hh
      simp [Instr.sliceBounds, Sem.run_bind, bound_run (P := P) (o := default) hh' (hv y (.inr rfl)) (show h ≤ cap by omega) w]
  | some z =>
    cases hi with
    | none =>
      simp [bnd] at hh
      subst hh
      simp [Instr.sliceBounds, Sem.run_bind, bound_run (P := P) (o := default) hl (hv z (.inl rfl)) h1 w]
    | some y =>
      have hh' : bnd s 0 (some y) = some h := hh
      simp [Instr.sliceBounds, Sem.run_bind, bound_run (P := P) (o := default) hh' (hv y (.inr rfl)) (show h ≤ cap by omega) w, bound_run (P := P) (o := default) hl (hv z (.inl rfl)) h1 w]

theorem CRs_drop {c : Cx} : ∀ {vs : List AV} {css : List (List Value)}, CRs c vs css → ∀ i, CRs c (vs.drop i) (css.drop i)
  | vs, css, h, 0 => by simpa using h
  | [], css, h, i + 1 => by rw [CRs] at h; subst h; simp; rw [CRs]
  | v :: vs, css, h, i + 1 => by
    rw [CRs] at h
    obtain ⟨x, xs, rfl, _, h2⟩ := h
    simpa using CRs_drop h2 i

def pSlice (s : AS) (i : TI) (v : AV) (lo hi : Option Operand) (K : AV → Prop) : Prop :=
  match i.k with
  | .slice esz _ => match v with
    | .lit sz vs => sz = esz ∧ (match bnd s 0 lo, bnd s vs.length hi with
      | some l, some h => l ≤ h ∧ h ≤ vs.length ∧ K (.lit sz ((vs.take h).drop l))
      | _, _ => False)
    | .nilS => (match bnd s 0 lo, bnd s 0 hi with
      | some l, some h => l = 0 ∧ h = 0 ∧ K .nilS
      | _, _ => False)
    | .own false j ver => (match bnd s 0 lo, bnd s ver hi with
      | some l, some h => l ≤ h ∧ h ≤ ver ∧ l < ver ∧ K (.win j ver esz l (h - l))
      | _, _ => False)
    | _ => False
  | _ => False

theorem pure_slice {x : X} {o : Oper} {s : AS} {t : TypeId} {y : Operand} {lo hi : Option Operand} {i : TI} {K : AV → Prop} (h : o.op = .slice t y lo hi none) (hi0 : x.ti t = some i) (hp : pSlice s i (s.ev y) lo hi K) : ∃ v, Pure x.P o s v ∧ K v := by
  have hk := (tok x hi0).k
  unfold pSlice at hp
  split at hp
  · rename_i esz e hkk
    rw [hkk] at hk
    obtain ⟨hu, hz⟩ := k_slice hk
    have hops : ∀ (c : Cx) (ρ : Operand → Value), (∀ z ∈ o.op.operands, VR c (s.ev z) (ρ z)) → ∀ z, lo = some z ∨ hi = some z → VR c (s.ev z) (ρ z) := by
      intro c ρ ho z hz
      refine ho z ?_
      rw [h]
      rcases hz with rfl | rfl <;> simp [Op.operands]
    split at hp
    · rename_i sz vs hy
      obtain ⟨rfl, hp⟩ := hp
      split at hp
      · rename_i l h' hl hh
        obtain ⟨h1, h2, hp⟩ := hp
        refine ⟨_, fun c ρ ho => ?_, hp⟩
        have hv := ho y (by simp [h, Op.operands])
        rw [hy] at hv
        obtain ⟨a, cap, css, hs, hcs, hm, hle, hmx, hne⟩ := VR_lit hv
        have hb := bounds_run (P := x.P) hl hh (hops c ρ ho) h1 h2 hle c.w
        refine ⟨.slice (if cap = l then a else a.map (·.add (l * sz))) (h' - l) (cap - l), ?_, ?_⟩
        · simp [execOp, h, hm, Instr.sliceAt, Instr.slice, Sem.run_bind, und_run hu, hb, size_run hz]
        · refine ⟨[_], ?_, rfl⟩
          rw [CR]
          refine ⟨fun v hv => hs v (List.mem_of_mem_take (List.mem_of_mem_drop hv)), (if cap = l then a else a.map (·.add (l * sz))), cap - l, (css.take h').drop l, CRs_drop (CRs_take hcs h') l, ?_, ?_, ?_, ?_⟩
          · simp [Nat.min_eq_left h2]
          · simp; omega
          · omega
          · intro hne'
            have hlh : l < h' := by
              rcases Nat.lt_or_ge l h' with h | h
              · exact h
              · exact (hne' (by simp; omega)).elim
            have hvs : vs ≠ [] := by rintro rfl; simp at h2; omega
            obtain ⟨ad, rfl, hf, hc⟩ := hne hvs
            have hcl : ¬ cap = l := by omega
            refine ⟨ad.add (l * sz), by simp [hcl], by rw [block_add]; exact hf, ?_⟩
            intro k u hu
            rw [add_add]
            refine hc _ u ?_
            have hll := CRs_length hcs
            have e1 : css = css.take l ++ ((css.take h').drop l ++ css.drop h') := by
              have e2 : (css.take h').take l = css.take l := by rw [List.take_take]; congr 1; omega
              rw [← List.append_assoc, ← e2, List.take_append_drop, List.take_append_drop]
            have e3 : (css.take l).flatten.length = l * sz := take_len_same hcs hs (by omega)
            rw [e1, List.flatten_append, List.flatten_append, List.getElem?_append_right (by omega), e3]
            have e4 : l * sz + k - l * sz = k := by omega
            rw [e4, List.getElem?_append_left (List.getElem?_eq_some_iff.1 hu).1]
            exact hu
      · exact hp.elim
    · rename_i hy
      split at hp
      · rename_i l h' hl hh
        obtain ⟨rfl, rfl, hp⟩ := hp
        refine ⟨_, fun c ρ ho => ?_, hp⟩
        have hv := ho y (by simp [h, Op.operands])
        rw [hy] at hv
        obtain ⟨cs, hv, hm⟩ := hv
        rw [CR] at hv
        subst hv
        have hm : ρ y = .slice none 0 0 := hm
        have hb := bounds_run (P := x.P) (len := 0) (cap := 0) hl hh (hops c ρ ho) (Nat.le_refl _) (Nat.le_refl _) (Nat.le_refl _) c.w
        refine ⟨.slice none 0 0, ?_, ⟨[_], by rw [CR], rfl⟩⟩
        simp [execOp, h, hm, Instr.sliceAt, Instr.slice, Sem.run_bind, und_run hu, hb, size_run hz]
      · exact hp.elim
    · rename_i j ver hy
      split at hp
      · rename_i l h' hl hh
        obtain ⟨h1, h2, h3, hp⟩ := hp
        refine ⟨_, fun c ρ ho => ?_, hp⟩
        have hv := ho y (by simp [h, Op.operands])
        rw [hy] at hv
        obtain ⟨a, cap, hla, ⟨hn, hcap⟩, hm⟩ := VR_own hv
        cases a with
        | none => have := hn rfl; omega
        | some ad =>
          have hb := bounds_run (P := x.P) hl hh (hops c ρ ho) h1 h2 hcap c.w
          have hcl : ¬ cap = l := by omega
          refine ⟨.slice (some (ad.add (l * esz))) (h' - l) (cap - l), ?_, ⟨[_], by rw [CR]; exact ⟨ad, cap, hla, ⟨by omega, by omega⟩, rfl⟩, rfl⟩⟩
          simp [execOp, h, hm, Instr.sliceAt, Instr.slice, Sem.run_bind, und_run hu, hb, size_run hz, hcl]
      · exact hp.elim
    · exact hp.elim
  · exact hp.elim
end Go.Abs
/- Windows onto rows of one's own: copying, clearing; new rows of zeros. -/
set_option linter.unusedVariables false
set_option linter.unusedSimpArgs false
namespace Go.Abs
open Go.RowKit

/-- Some elements of a row are written anew. -/
theorem splice_row {P : Program} {c : Cx} {s : AS} (hM : MemR c s.mem) {j sz : Nat} {vs : List AV} (hrow : s.loc[j]? = some (.row sz vs)) {ad : Addr} {cap : Nat} (hl : c.lam false j vs.length = some (some ad, cap)) {off : Nat} {ns : List AV} {nss : List (List Value)} (hn : CRs c ns nss) (hns : ∀ v ∈ ns, v.size = sz) (hfit : off + ns.length ≤ vs.length) :
    ∃ d : Cx, (∀ w, w = c.w → (storeCells (ad.add (off * sz)) nss.flatten).run P w = .ok () d.w) ∧ MemR d (s.setMem false j (.row sz (vs.take off ++ ns ++ vs.drop (off + ns.length)))).mem ∧ Step c s.mem d (s.setMem false j (.row sz (vs.take off ++ ns ++ vs.drop (off + ns.length)))).mem := by
  have hx : (s.mem false)[j]? = some (.row sz vs) := hrow
  obtain ⟨h0, hz, ⟨e1, e2⟩ | ⟨m, cap', cur, t, css, e1, h1, h2, h3, h4, h5, h6⟩⟩ := hM.obj false j _ _ hx hl
  · cases e1
  · cases e1
    have hnl : nss.flatten.length = ns.length * sz := by rw [CRs_len c _ _ hn, sizes_same hns]
    have hsum : off * sz + ns.length * sz ≤ vs.length * sz := by rw [← Nat.add_mul]; exact Nat.mul_le_mul_right _ hfit
    have hcapl : vs.length * sz ≤ cap * sz := Nat.mul_le_mul_right _ h2
    have hst := run_storeCells_at P m (off * sz) t nss.flatten 0 cur c.w h1 (by omega) (CRs_each c _ _ hn)
    simp only [Nat.add_zero] at hst
    have hlenN : (vs.take off ++ ns ++ vs.drop (off + ns.length)).length = vs.length := by simp; omega
    have hcl : css.flatten.length = vs.length * sz := by rw [CRs_len c _ _ h5, sizes_same h0]
    have hl1 := take_len_same h5 h0 (i := off) (by omega)
    have hl2 := take_len_same h5 h0 (i := off + ns.length) (by omega)
    have hown : Owns c.lam s.mem false j m := ⟨_, _, _, hx, rfl, hl, rfl⟩
    have htu : Turn c.w (c.w.setRow m (cur.toList.take (off * sz) ++ nss.flatten ++ cur.toList.drop (off * sz + nss.flatten.length)).toArray) (fun m' => ∃ a, (some (⟨m, 0, none⟩ : Addr), cap).1 = some a ∧ m' = a.block) := (Turn.setRow _ _ _).mono fun m' h => ⟨_, rfl, h⟩
    have hle : c.le ⟨c.w.setRow m (cur.toList.take (off * sz) ++ nss.flatten ++ cur.toList.drop (off * sz + nss.flatten.length)).toArray, c.Fz, updL c.lam false j (AO.row sz (vs.take off ++ ns ++ vs.drop (off + ns.length))).ver (some ⟨m, 0, none⟩, cap)⟩ := by
      refine ⟨fun _ h => h, fun m' hm' => setRow_other _ _ _ _ ?_, fun sh' j' ver' q hq => updL_le (fun p hp => ?_) hq⟩
      · rintro rfl
        exact hM.unf false j _ hown hm'
      · have e : (AO.row sz (vs.take off ++ ns ++ vs.drop (off + ns.length))).ver = vs.length := hlenN
        rw [e, hl] at hp
        exact (Option.some.inj hp).symm
    have ht := turn_obj hM hx rfl hl (o := .row sz (vs.take off ++ ns ++ vs.drop (off + ns.length))) (pl := (some ⟨m, 0, none⟩, cap)) (w' := c.w.setRow m (cur.toList.take (off * sz) ++ nss.flatten ++ cur.toList.drop (off * sz + nss.flatten.length)).toArray) rfl (by show vs.length ≤ _; simp only [AO.ver]; omega) (fun q hq => by
        have e : (AO.row sz (vs.take off ++ ns ++ vs.drop (off + ns.length))).ver = vs.length := hlenN
        rw [e, hl] at hq
        exact (Option.some.inj hq).symm) htu ?_ (fun a ha => .inr ⟨a, ha, rfl⟩)
    · have ht1 := ht.1
      have ht2 := ht.2
      rw [← AS.mem_setMem] at ht1 ht2
      exact ⟨_, fun w hw => by rw [hw, add_lit, Nat.zero_add]; exact hst, ht1, ht2⟩
    · refine ⟨?_, hz, .inr ⟨m, cap, _, t, css.take off ++ nss ++ css.drop (off + ns.length), rfl, setRow_heap _ _ _ _ _ _ h1, by omega, h3, ?_, ?_, ?_⟩⟩
      · intro v hv
        simp only [List.mem_append] at hv
        rcases hv with (hv | hv) | hv
        · exact h0 v (List.mem_of_mem_take hv)
        · exact hns v hv
        · exact h0 v (List.mem_of_mem_drop hv)
      · simp only [List.size_toArray, List.length_append, List.length_take, List.length_drop, Array.length_toList]
        rw [Nat.min_eq_left (by omega)]
        omega
      · exact CRs_append (CRs_append (CRs_mono hle _ _ (CRs_take h5 _)) (CRs_mono hle _ _ hn)) (CRs_mono hle _ _ (CRs_drop' h5 _))
      · rw [hlenN]
        have ef : css.flatten = (css.take off).flatten ++ (css.drop off).flatten := by rw [← List.flatten_append, List.take_append_drop]
        have ef2 : css.flatten = (css.take (off + ns.length)).flatten ++ (css.drop (off + ns.length)).flatten := by rw [← List.flatten_append, List.take_append_drop]
        have c1 : cur.toList.take (off * sz) = (css.take off).flatten := by
          have : (cur.toList.take (vs.length * sz)).take (off * sz) = css.flatten.take (off * sz) := by rw [h6]
          rw [List.take_take, Nat.min_eq_left (by omega)] at this
          rw [this, ef, List.take_left' hl1]
        have c2 : (cur.toList.drop (off * sz + nss.flatten.length)).take (vs.length * sz - (off * sz + nss.flatten.length)) = (css.drop (off + ns.length)).flatten := by
          have hx2 : off * sz + nss.flatten.length = (off + ns.length) * sz := by rw [hnl, Nat.add_mul]
          rw [hx2, ← List.drop_take, h6, ef2, List.drop_left' hl2]
        simp only [List.flatten_append]
        rw [c1, List.append_assoc, List.append_assoc]
        rw [List.take_append, List.take_append]
        have k1 : (css.take off).flatten.take (vs.length * sz) = (css.take off).flatten := List.take_of_length_le (by rw [hl1]; omega)
        have k2 : nss.flatten.take (vs.length * sz - (css.take off).flatten.length) = nss.flatten := List.take_of_length_le (by rw [hl1]; omega)
        rw [k1, k2, ← c2, hl1]
        congr 3
        omega

/-- Where a slice of a row of one's own lies in it: the row, its length, from where, how long. -/
def dstOf (esz : Nat) : AV → Option (Nat × Nat × Nat × Nat)
  | .own false j ver => some (j, ver, 0, ver)
  | .win j ver esz' off len => if esz' = esz then some (j, ver, off, len) else none
  | _ => none

theorem dst_slice {c : Cx} {esz j ver off len : Nat} {v : AV} {m : Value} (h : VR c v m) (hd : dstOf esz v = some (j, ver, off, len)) (h0 : 0 < ver) : ∃ ad cap capm, c.lam false j ver = some (some ad, cap) ∧ off + len ≤ ver ∧ m = .slice (some (ad.add (off * esz))) len capm := by
  unfold dstOf at hd
  split at hd
  · cases hd
    obtain ⟨a, cap, hl, ⟨hn, _⟩, rfl⟩ := VR_own h
    cases a with
    | none => have := hn rfl; omega
    | some ad => exact ⟨ad, cap, cap, hl, by omega, by simp [Addr.add]⟩
  · split at hd
    · rename_i e
      cases hd
      subst e
      obtain ⟨ad, cap, hl, ⟨_, ho⟩, rfl⟩ := VR_win h
      exact ⟨ad, cap, _, hl, ho, rfl⟩
    · cases hd
  · cases hd

/-- What a copy leaves. -/
def copyTo (vs ys : List AV) (off len : Nat) : List AV := vs.take off ++ ys.take len ++ vs.drop (off + (ys.take len).length)

theorem sim_copy {x : X} {o : Oper} {s : AS} {y q : Operand} {t t2 e : TypeId} {esz : Nat} {i : TI} {j ver off len : Nat} {vs ys : List AV} (h : o.op = .call { callee := .builtin .copy, args := #[y, q], argTypes := #[t, t2] }) (hi : x.ti t = some i) (hk : i.k = .slice esz e)
    (hd : dstOf esz (s.ev y) = some (j, ver, off, len)) (h0 : 0 < ver) (hrow : s.loc[j]? = some (.row esz vs)) (hver : vs.length = ver) (hq : s.elems esz (s.ev q) = some ys) :
    Sim x.P o s (.int .i64 ((ys.take len).length : Nat)) (s.setMem false j (.row esz (copyTo vs ys off len))) := by
  intro c ρ hM ho
  have hkc := (tok x hi).k
  rw [hk] at hkc
  obtain ⟨hu, hsz⟩ := k_slice hkc
  obtain ⟨ad, cap, capm, hl, hol, hmy⟩ := dst_slice (ho y (by simp [h, Op.operands, Call.operands])) hd h0
  obtain ⟨a, capq, css, hvq, k1, k2, k3⟩ := elems_cells hM (ho q (by simp [h, Op.operands, Call.operands])) hq
  subst hver
  have hc1 : CRs c (ys.take len) (css.take len) := CRs_take k1 _
  have hs1 : ∀ v ∈ ys.take len, v.size = esz := fun v hv => k2 v (List.mem_of_mem_take hv)
  obtain ⟨d, hst, hm1, hm2⟩ := splice_row (P := x.P) hM hrow hl hc1 hs1 (off := off) (by rw [List.length_take]; omega)
  refine ⟨.value (.int .i64 ((ys.take len).length : Nat)), d, ?_, .inl ⟨_, rfl, VR_int_mk _ _ _⟩, hm1, hm2⟩
  have hmin : Nat.min ys.length len = (ys.take len).length := by rw [List.length_take]; exact Nat.min_comm _ _
  have hfc : (Builtin.firstCells esz (Nat.min ys.length len) (.slice a ys.length capq)).run x.P c.w = .ok (css.take len).flatten.toArray c.w := by
    rw [hmin]
    by_cases hv : ys.take len = []
    · have hcn : css.take len = [] := by
        have := CRs_length hc1
        rw [hv] at this
        exact List.eq_nil_of_length_eq_zero this.symm
      rw [hv, hcn]
      cases a <;> simp [Builtin.firstCells, loadCells, loadCellsFrom]
    · have hys : ys ≠ [] := by rintro rfl; simp at hv
      obtain ⟨ad', rfl, hcell⟩ := k3 hys
      refine run_firstCells_some c.w esz _ ad' _ capq _ (by rw [CRs_len c _ _ hc1, sizes_same hs1]) ?_
      intro k u hu
      refine hcell k u ?_
      have e : css.flatten = (css.take len).flatten ++ (css.drop len).flatten := by rw [← List.flatten_append, List.take_append_drop]
      rw [e, List.getElem?_append_left (List.getElem?_eq_some_iff.1 hu).1]
      exact hu
  have hfc' : (Builtin.firstCells esz (min ys.length len) (.slice a ys.length capq)).run x.P c.w = .ok (css.take len).flatten.toArray c.w := hfc
  have hmin' : min ys.length len = (ys.take len).length := hmin
  have hfc2 := hfc'
  rw [Nat.min_comm] at hfc2
  have hd1 := hst c.w rfl
  simp only [execOp, h]
  simp [resolve, invoke, builtin, hmy, hvq, Builtin.copy_, und_run hu, Builtin.lenOf, size_run hsz, hfc', hd1, hmin', goInt]
  simp [hfc2, hd1]

/-- What a clear leaves. -/
theorem sim_clear {x : X} {o : Oper} {s : AS} {y : Operand} {t e : TypeId} {esz : Nat} {i ie : TI} {j ver off len : Nat} {vs : List AV} (h : o.op = .call { callee := .builtin .clear, args := #[y], argTypes := #[t] }) (hi : x.ti t = some i) (hk : i.k = .slice esz e) (he : x.ti e = some ie) (hz : ie.zero.size = esz)
    (hd : dstOf esz (s.ev y) = some (j, ver, off, len)) (h0 : 0 < len) (hrow : s.loc[j]? = some (.row esz vs)) (hver : vs.length = ver) :
    Sim x.P o s (.tup []) (s.setMem false j (.row esz (vs.take off ++ List.replicate len ie.zero ++ vs.drop (off + len)))) := by
  intro c ρ hM ho
  have hkc := (tok x hi).k
  rw [hk] at hkc
  obtain ⟨hu, hsz⟩ := k_slice hkc
  obtain ⟨inf, z, h1, h2, h3, h4, cs, h5, h6, h7⟩ := (tok x he).inf
  have hzc := plain_CR c _ _ h5
  have hver0 : 0 < ver := by
    unfold dstOf at hd
    split at hd
    · cases hd; exact h0
    · split at hd
      · rename_i hy _
        cases hd
        have hy' := ho y (by simp [h, Op.operands, Call.operands])
        rw [hy] at hy'
        obtain ⟨ad, cap, hl, ⟨_, hol⟩, _⟩ := VR_win hy'
        omega
      · cases hd
    · cases hd
  obtain ⟨ad, cap, capm, hl, hol, hmy⟩ := dst_slice (ho y (by simp [h, Op.operands, Call.operands])) hd hver0
  subst hver
  have hs1 : ∀ v ∈ List.replicate len ie.zero, v.size = esz := fun v hv => by rw [List.eq_of_mem_replicate hv, hz]
  obtain ⟨d, hst, hm1, hm2⟩ := splice_row (P := x.P) hM hrow hl (CRs_replicate hzc len) hs1 (off := off) (by simpa using hol)
  simp only [List.length_replicate] at hm1 hm2
  refine ⟨.value (.tuple #[]), d, ?_, .inl ⟨_, rfl, ⟨[], rfl, rfl, by simp⟩⟩, hm1, hm2⟩
  have hd1 := hst c.w rfl
  have hzz : (Builtin.zeroCells z.cells len).toList = (List.replicate len cs).flatten := by
    have hzcell : z.cells = cs.toArray := by rw [← h7]
    rw [hzcell]
    have := range_zero (z := cs.toArray) (n := len)
    simp [Builtin.zeroCells] at this ⊢
    exact this
  cases len with
  | zero => omega
  | succ len =>
    simp only [execOp, h]
    simp [resolve, invoke, builtin, hmy, Builtin.clear_, und_run hu, zero_run h1 h4, hzz, hd1]

/-- A new row of zeros. -/
theorem sima_makeSlice {x : X} {o : Oper} {s : AS} {t e : TypeId} {n esz : Nat} {kl kc : IntKind} {y z' : Operand} {i ie : TI} (h : o.op = .makeSlice t y z') (hi : x.ti t = some i) (hk : i.k = .slice esz e) (he : x.ti e = some ie) (hz : ie.zero.size = esz) (hpos : 0 < esz) (hy : s.ev y = .int kl n) (hy' : s.ev z' = .int kc n) (hb : ie.bytes * n ≤ 281474976710656) (hn : n ≤ 140737488355328) :
    SimA x.P o s (.own false s.loc.length n) (.row esz (List.replicate n ie.zero)) := by
  intro c ρ hM ho
  have hkc := (tok x hi).k
  rw [hk] at hkc
  obtain ⟨hu, hsz⟩ := k_slice hkc
  obtain ⟨inf, z, h1, h2, h3, h4, cs, h5, h6, h7⟩ := (tok x he).inf
  have hzc := plain_CR c _ _ h5
  have hzl : cs.length = esz := by rw [CR_len c _ _ hzc, hz]
  have hzcell : z.cells = cs.toArray := by rw [← h7]
  have hie : inf.size = esz := by rw [h1] at hsz; simpa using hsz
  have hvy := ho y (by simp [h, Op.operands])
  rw [hy] at hvy
  have hvy := VR_int hvy
  have hvz := ho z' (by simp [h, Op.operands])
  rw [hy'] at hvz
  have hvz := VR_int hvz
  have hall : ∀ v ∈ List.replicate n ie.zero, v.size = esz := fun v hv => by rw [List.eq_of_mem_replicate hv, hz]
  have hmax : n ≤ maxLen := by simp only [maxLen]; omega
  have k1 := CRs_replicate hzc n
  have hcl : (List.replicate n cs).flatten.length = n * esz := by rw [CRs_len c _ _ k1, sizes_same hall]; simp
  have hmade : madeCells z.cells (n * inf.size) = (List.replicate n cs).flatten.toArray := by
    rw [hzcell, hie]
    have := range_zero (z := cs.toArray) (n := n)
    simp only [List.size_toArray, hzl] at this
    rw [← Array.toList_inj]
    simpa [madeCells, hzl] using this
  have hbi : (inf.bytes : Int) * (n : Int) ≤ 281474976710656 := by
    rw [h3, ← Int.natCast_mul]
    omega
  have hrun := run_make (P := x.P) c.w t e inf z hu h1 h4 kl kc n n (by omega) (Int.le_refl _) hbi (by omega)
  simp only [Int.toNat_natCast] at hrun
  rw [hmade] at hrun
  have ht := Turn.alloc c.w (.cells (List.replicate n cs).flatten.toArray e) (fun _ => False)
  have hp := push_obj hM false (o := .row esz (List.replicate n ie.zero)) (pl := (some ⟨c.w.heap.size, 0, none⟩, n)) ht ?_ (fun _ a ha => by cases ha; exact Nat.le_refl _)
  · have hp1 := hp.1
    have hp2 := hp.2
    rw [← AS.mem_push] at hp1 hp2
    refine ⟨.slice (some ⟨c.w.heap.size, 0, none⟩) n n, _, _, ?_, ⟨[.slice (some ⟨c.w.heap.size, 0, none⟩) n n], ?_, rfl⟩, hp1, hp2, rfl, rfl, ht⟩
    · simp only [execOp, h, hvy, hvz]
      simp [hrun]
    · rw [CR]
      refine ⟨_, n, ?_, by simp, rfl⟩
      rw [← mem_len_false]
      have := updL_same c.lam false (s.mem false).length (AO.row esz (List.replicate n ie.zero)).ver (some ⟨c.w.heap.size, 0, none⟩, n)
      simp only [AO.ver, List.length_replicate] at this ⊢
      exact this
  · refine ⟨hall, hpos, .inr ⟨_, n, _, e, List.replicate n cs, rfl, heap_alloc_new _ _, by simp, hmax, by simpa using hcl, ?_, by
      show List.take _ (List.replicate n cs).flatten = _
      rw [List.length_replicate, ← hcl, List.take_length]⟩⟩
    have hle : c.le ⟨c.w.alloc (.cells (List.replicate n cs).flatten.toArray e), c.Fz, updL c.lam false (s.mem false).length (AO.row esz (List.replicate n ie.zero)).ver (some ⟨c.w.heap.size, 0, none⟩, n)⟩ := by
      refine ⟨fun _ h => h, fun m hm => ht.same m (hM.fzl m hm) (fun h => h), fun sh j ver q hq => updL_le (fun p hp => ?_) hq⟩
      obtain ⟨y, hy, _⟩ := hM.dom _ _ _ _ hp
      have := getlt hy
      omega
    exact CRs_mono hle _ _ k1

end Go.Abs
