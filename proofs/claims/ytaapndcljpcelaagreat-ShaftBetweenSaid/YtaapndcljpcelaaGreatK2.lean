/- Part 2 of what the proof rests on: an abstract machine over the model, its contracts for the program, and plain mathematics. -/
import Derived.Test.YtaapndcljpcelaaGreatK1
import Derived.RangeFuncRecord
import Derived.Scope
import Derived.Orders
/- Maps of one's own. -/
set_option linter.unusedVariables false
set_option linter.unusedSimpArgs false
namespace Go.Abs
open Go.RowKit

/-- What stands at a number (none: a key of another kind). -/
def lookV (k : IntKind) (n : Int) : List (Value × Value) → Option (Option Value)
  | [] => some none
  | (.int k' m, v) :: r => if k = k' then (if n = m then some (some v) else lookV k n r) else none
  | _ :: _ => none
/-- With a number's entry turned. -/
def updV (k : IntKind) (n : Int) (v : Value) : List (Value × Value) → List (Value × Value)
  | [] => [(.int k n, v)]
  | (.int k' m, u) :: r => if n = m then (.int k' m, v) :: r else (.int k' m, u) :: updV k n v r
  | p :: r => p :: r

theorem findNow_look {k : IntKind} {n : Int} : ∀ (es : List MapEntry) (i : Nat) (r : Option Value), lookV k n (es.map fun e => (e.key, e.val)) = some r →
    ∃ q, Instr.findNow (.int k) (.int k n) es i = some q ∧ ((r = none ∧ q = none) ∨ ∃ v j, r = some v ∧ q = some (j, v) ∧ i ≤ j ∧ ∃ e, es[j - i]? = some e ∧ e.key = .int k n ∧ e.val = v ∧ ∀ u, updV k n u (es.map fun e => (e.key, e.val)) = (es.modify (j - i) fun e => { e with key := .int k n, val := u }).map fun e => (e.key, e.val)) ∧ (r = none → ∀ u, updV k n u (es.map fun e => (e.key, e.val)) = (es.map fun e => (e.key, e.val)) ++ [(.int k n, u)])
  | [], i, r, h => by
    simp only [List.map_nil, lookV] at h
    cases h
    exact ⟨none, rfl, .inl ⟨rfl, rfl⟩, fun _ u => rfl⟩
  | e :: es, i, r, h => by
    simp only [List.map_cons] at h
    cases hk : e.key with
    | int k' m =>
      rw [hk] at h
      simp only [lookV] at h
      split at h
      · rename_i ek
        subst ek
        split at h
        · rename_i en
          subst en
          cases h
          refine ⟨some (i, e.val), by simp [Instr.findNow, Instr.sameNow, hk], .inr ⟨e.val, i, rfl, rfl, Nat.le_refl _, e, by simp, hk, rfl, ?_⟩, fun h => by cases h⟩
          intro u
          simp [updV, hk]
        · rename_i en
          obtain ⟨q, h1, h2, h3⟩ := findNow_look es (i + 1) r h
          refine ⟨q, ?_, ?_, ?_⟩
          · have : (n == m) = false := by simpa using en
            simp [Instr.findNow, Instr.sameNow, hk, this, h1]
          · rcases h2 with h2 | ⟨v, j, g1, g2, g3, e', g4, g5, g6, g7⟩
            · exact .inl h2
            · have ej : j - i = (j - (i + 1)) + 1 := by omega
              refine .inr ⟨v, j, g1, g2, by omega, e', by rw [ej]; simpa using g4, g5, g6, ?_⟩
              intro u
              rw [ej]
              simp only [List.map_cons, hk, updV, en, if_false, List.modify_succ_cons]
              rw [g7 u]
          · intro hr u
            simp only [List.map_cons, hk, updV, en, if_false, h3 hr u, List.cons_append]
      · cases h
    | _ => rw [hk] at h; simp [lookV] at h

theorem checkKey_int {P : Program} {kt : TypeId} {k : IntKind} (hu : P.underlying kt = some (.int k)) (b : Bool) (n : Nat) (v : Int) (w : World) : (Instr.checkKey b (n + 1) kt (.int k v)).run P w = .ok () w := by
  simp [Instr.checkKey, Sem.run_bind, und_run hu]

theorem findKey_run {P : Program} {kt : TypeId} {k : IntKind} (hu : P.underlying kt = some (.int k)) {n : Int} {es : List MapEntry} {q : Option (Nat × Value)} (h : Instr.findNow (.int k) (.int k n) es 0 = some q) (w : World) : (Instr.findKey kt (.int k n) es).run P w = .ok q w := by
  simp [Instr.findKey, Sem.run_bind, und_run hu, h]

/-- What lies at a map's place. -/
theorem map_at {c : Cx} {M : Mem} (hM : MemR c M) {sh : Bool} {j : Nat} {kvs : List (Value × Value)} (ho : (M sh)[j]? = some (.mp kvs)) {m : Value} (hv : VR c (.mapr sh j) m) :
    ∃ r es clock, m = .map (some r) ∧ c.lam sh j 0 = some (some ⟨r, 0, none⟩, 0) ∧ c.w.heap[r]? = some (.map es clock) ∧ es.toList.map (fun e => (e.key, e.val)) = kvs := by
  obtain ⟨cs, hc, rfl⟩ := hv
  rw [CR] at hc
  obtain ⟨r, cap, hl, rfl⟩ := hc
  obtain ⟨m, es, clock, e, h1, h2⟩ := hM.obj sh j _ _ ho hl
  cases e
  exact ⟨r, es, clock, rfl, hl, h1, h2⟩

theorem run_getObj_map {P : Program} {w : World} {r : Nat} {es : Array MapEntry} {cl : Nat} (h : w.heap[r]? = some (.map es cl)) : (getObj r).run P w = .ok (.map es cl) w := by simp [getObj, Sem.run, h]
theorem run_setObj_at {P : Program} {w : World} {r : Nat} {o : Obj} {es : Array MapEntry} {cl : Nat} (h : w.heap[r]? = some (.map es cl)) : (setObj r o).run P w = .ok () (w.putObj r o) := by simp [setObj, Sem.run, h, World.putObj]

theorem sima_makeMap {x : X} {o : Oper} {s : AS} {t : TypeId} (h : o.op = .makeMap t none) : SimA x.P o s (.mapr false s.loc.length) (.mp []) := by
  intro c ρ hM ho
  have ht := Turn.alloc c.w (.map #[] 0) (fun _ => False)
  have hp := push_obj hM false (o := .mp []) (pl := (some ⟨c.w.heap.size, 0, none⟩, 0)) ht ⟨c.w.heap.size, #[], 0, rfl, heap_alloc_new _ _, rfl⟩ (fun _ a ha => by cases ha; exact Nat.le_refl _)
  refine ⟨.map (some c.w.heap.size), ⟨c.w.alloc (.map #[] 0), c.Fz, updL c.lam false s.loc.length 0 (some ⟨c.w.heap.size, 0, none⟩, 0)⟩, (some ⟨c.w.heap.size, 0, none⟩, 0), ?_, ⟨[_], ?_, rfl⟩, ?_, ?_, rfl, rfl, ht⟩
  · simp [execOp, h, Instr.makeMap, Sem.run_bind]
  · rw [CR]; exact ⟨_, _, updL_same _ _ _ _ _, rfl⟩
  · rw [AS.mem_push]; exact hp.1
  · rw [AS.mem_push]; exact hp.2

structure MapTy (P : Program) (t : TypeId) (k : IntKind) (et : TypeId) : Prop where
  und : ∃ kt, P.underlying t = some (.map kt et) ∧ P.underlying kt = some (.int k)

def lookR (i : TI) : Option Value → AV
  | some v => ofV v
  | none => i.zero
theorem sim_lookup {x : X} {o : Oper} {s : AS} {t : TypeId} {y z : Operand} {sh : Bool} {j : Nat} {kvs : List (Value × Value)} {k : IntKind} {n : Int} {et : TypeId} {i : TI} {r : Option Value} (h : o.op = .lookup t y z false) (hT : MapTy x.P t k et) (hi : x.ti et = some i) (hy : s.ev y = .mapr sh j) (hz : s.ev z = .int k n)
    (hob : (s.mem sh)[j]? = some (.mp kvs)) (hl : lookV k n kvs = some r) : Sim x.P o s (lookR i r) s := by
  intro c ρ hM ho
  obtain ⟨kt, hu, hk⟩ := hT.und
  have h1 := ho y (by simp [h, Op.operands])
  have h2 := ho z (by simp [h, Op.operands])
  rw [hy] at h1
  rw [hz] at h2
  have h2 := VR_int h2
  obtain ⟨rr, es, clock, hm, _, hh, hkv⟩ := map_at hM hob h1
  rw [← hkv] at hl
  obtain ⟨q, g1, g2, _⟩ := findNow_look es.toList 0 r hl
  obtain ⟨inf, zv, k1, k2, k3, k4, cs, k5, k6, k7⟩ := (tok x hi).inf
  have hck := fun b => checkKey_int (P := x.P) hk b 9999 n c.w
  have hfk := findKey_run (P := x.P) hk g1 c.w
  refine ⟨.value (match r with | some v => v | none => zv), c, ?_, .inl ⟨_, rfl, ?_⟩, hM, Step.refl _ _⟩
  · rcases g2 with ⟨rfl, rfl⟩ | ⟨v, jj, rfl, rfl, _⟩
    · simp [execOp, h, hm, h2, Instr.lookup, Sem.run_bind, und_run hu, run_getObj_map hh, hck, hfk, zero_run k1 k4]
    · simp [execOp, h, hm, h2, Instr.lookup, Sem.run_bind, und_run hu, run_getObj_map hh, hck, hfk]
  · cases r with
    | some v => exact VR_ofV c v
    | none =>
      have hc := plain_CR c i.zero cs k5
      have : VR c i.zero zv := by rw [k6]; exact VR_of_CR hc
      exact this

theorem sim_mapUpdate {x : X} {o : Oper} {s : AS} {t : TypeId} {y z u : Operand} {sh : Bool} {j : Nat} {kvs : List (Value × Value)} {k : IntKind} {n : Int} {et : TypeId} {r : Option Value} {v : Value} (h : o.op = .mapUpdate t y z u) (hT : MapTy x.P t k et) (hy : s.ev y = .mapr sh j) (hz : s.ev z = .int k n) (hv : ∀ (c : Cx) m, VR c (s.ev u) m → m = v)
    (hob : (s.mem sh)[j]? = some (.mp kvs)) (hl : lookV k n kvs = some r) : Sim x.P o s .any (s.setMem sh j (.mp (updV k n v kvs))) := by
  intro c ρ hM ho
  obtain ⟨kt, hu, hk⟩ := hT.und
  have h1 := ho y (by simp [h, Op.operands])
  have h2 := ho z (by simp [h, Op.operands])
  have h3 := hv c _ (ho u (by simp [h, Op.operands]))
  rw [hy] at h1
  rw [hz] at h2
  have h2 := VR_int h2
  obtain ⟨rr, es, clock, hm, hlam, hh, hkv⟩ := map_at hM hob h1
  rw [← hkv] at hl
  obtain ⟨q, g1, g2, g3⟩ := findNow_look es.toList 0 r hl
  have hck := fun b => checkKey_int (P := x.P) hk b 9999 n c.w
  have hfk := findKey_run (P := x.P) hk g1 c.w
  have key : ∀ es' clock', es'.toList.map (fun e => (e.key, e.val)) = updV k n v kvs → ∃ d : Cx, d.w = c.w.putObj rr (.map es' clock') ∧ MemR d (s.setMem sh j (.mp (updV k n v kvs))).mem ∧ Step c s.mem d (s.setMem sh j (.mp (updV k n v kvs))).mem := by
    intro es' clock' he
    have ht : Turn c.w (c.w.putObj rr (.map es' clock')) (fun m => ∃ a, (some (⟨rr, 0, none⟩ : Addr), (0 : Nat)).1 = some a ∧ m = a.block) :=
      ⟨by simp, rfl, rfl, rfl, fun m hm hn => World.putObj_heap_other (fun e => hn ⟨_, rfl, e⟩)⟩
    have := turn_obj hM hob rfl hlam (o := .mp (updV k n v kvs)) (pl := (some ⟨rr, 0, none⟩, 0)) (w' := c.w.putObj rr (.map es' clock')) rfl (Nat.le_refl _) (fun q hq => by
      have h9 : c.lam sh j 0 = some q := hq
      rw [hlam] at h9; exact (Option.some.inj h9).symm) ht ⟨rr, es', clock', rfl, World.putObj_heap_same (Array.getElem?_eq_some_iff.1 hh).1, he⟩ (fun a ha => .inr ⟨a, ha, rfl⟩)
    rw [AS.mem_setMem]
    exact ⟨_, rfl, this.1, this.2⟩
  rcases g2 with ⟨rfl, rfl⟩ | ⟨v0, jj, rfl, rfl, _, e, ge, gk, gv, gu⟩
  · obtain ⟨d, hd, k1, k2⟩ := key (es.push { key := .int k n, val := v, born := clock }) (clock + 1) (by
      have := g3 rfl v
      rw [hkv] at this
      rw [this]
      simp [← hkv])
    refine ⟨.skip, d, ?_, .inr ⟨rfl, rfl⟩, k1, k2⟩
    rw [hd]
    simp [execOp, h, hm, h2, h3, Instr.mapUpdate, Sem.run_bind, und_run hu, run_getObj_map hh, hck, hfk, run_setObj_at hh]
  · obtain ⟨d, hd, k1, k2⟩ := key (es.modify jj fun e => { e with key := .int k n, val := v }) clock (by
      have := gu v
      rw [hkv] at this
      rw [this]
      simp)
    refine ⟨.skip, d, ?_, .inr ⟨rfl, rfl⟩, k1, k2⟩
    rw [hd]
    have ge' : es[jj]? = some e := by simpa using ge
    have hks : (Instr.keyThatStays (.int k n) (.int k n)).run x.P c.w = .ok (.int k n) c.w := by simp [Instr.keyThatStays, Instr.sameBits]
    simp [execOp, h, hm, h2, h3, Instr.mapUpdate, Sem.run_bind, und_run hu, run_getObj_map hh, hck, hfk, run_setObj_at hh, ge', gk, hks]
end Go.Abs
/- Blocks of nobody turned; memory told of beforehand. -/
set_option linter.unusedVariables false
set_option linter.unusedSimpArgs false
namespace Go.Abs
open Go.RowKit

theorem put_le {c : Cx} {D : Nat} {o : Obj} (hf : ¬ c.Fz D) : c.le ⟨c.w.putObj D o, c.Fz, c.lam⟩ :=
  ⟨fun _ h => h, fun m hm => World.putObj_heap_other (by rintro rfl; exact hf hm), fun _ _ _ _ h => h⟩
theorem put_MemR {c : Cx} {M : Mem} {D : Nat} {o : Obj} (hM : MemR c M) (ho : ∀ sh j, ¬ Owns c.lam M sh j D) (hf : ¬ c.Fz D) : MemR ⟨c.w.putObj D o, c.Fz, c.lam⟩ M := by
  refine ⟨fun sh j ob pl h1 h2 => ObjAt_keep (hM.obj sh j ob pl h1 h2) (put_le hf) ?_, hM.dom, hM.sep, hM.unf, fun m h => by simpa using hM.fzl m h⟩
  intro hoo a ha
  obtain ⟨pa, pc⟩ := pl
  simp only at ha
  subst ha
  refine World.putObj_heap_other ?_
  intro e
  exact ho sh j ⟨ob, a, pc, h1, hoo, h2, e⟩
theorem put_Ev {c0 c : Cx} {H0 : List AO} {M : Mem} {D : Nat} {o : Obj} (hE : Ev c0 H0 c M) (hlo : c0.w.heap.size ≤ D) : Ev c0 H0 ⟨c.w.putObj D o, c.Fz, c.lam⟩ M :=
  ⟨by simpa using hE.size, hE.os, hE.tape, hE.output, fun m h1 h2 => (World.putObj_heap_other (by omega)).trans (hE.same m h1 h2), hE.fz, hE.fzn, hE.lam, hE.own⟩

/-- Later private objects, of which nothing is known yet, may be told of beforehand. -/
theorem MemR_ext {c : Cx} {L L' H : List AO} (hM : MemR c (mem L H)) (hp : L <+: L') : MemR c (mem L' H) := by
  obtain ⟨T, rfl⟩ := hp
  have key : ∀ (sh : Bool) (i : Nat) (o : AO) (ver : Nat) (p : Option Addr × Nat), (mem (L ++ T) H sh)[i]? = some o → c.lam sh i ver = some p → (mem L H sh)[i]? = some o := by
    intro sh i o ver p h1 h2
    cases sh with
    | true => exact h1
    | false =>
      obtain ⟨o', h3, _⟩ := hM.dom false i ver p h2
      have hlt := getlt h3
      simp only [mem_false] at h1 hlt ⊢
      rwa [List.getElem?_append_left hlt] at h1
  have hown : ∀ sh j m, Owns c.lam (mem (L ++ T) H) sh j m → Owns c.lam (mem L H) sh j m := by
    rintro sh j m ⟨o, a, cap, h1, h2, h3, h4⟩
    exact ⟨o, a, cap, key _ _ _ _ _ h1 h3, h2, h3, h4⟩
  refine ⟨fun sh j o p h1 h2 => hM.obj sh j o p (key _ _ _ _ _ h1 h2) h2, ?_, fun sh j sh' j' m h1 h2 => hM.sep _ _ _ _ m (hown _ _ _ h1) (hown _ _ _ h2), fun sh j m h => hM.unf _ _ m (hown _ _ _ h), hM.fzl⟩
  intro sh j ver p h
  obtain ⟨o, h1, h2⟩ := hM.dom sh j ver p h
  refine ⟨o, ?_, h2⟩
  cases sh with
  | true => exact h1
  | false =>
    simp only [mem_false] at h1 ⊢
    rw [List.getElem?_append_left (List.getElem?_eq_some_iff.1 h1).1]; exact h1
theorem Ev_ext {c0 c : Cx} {H0 L L' H : List AO} (hM : MemR c (mem L H)) (hE : Ev c0 H0 c (mem L H)) (hp : L <+: L') : Ev c0 H0 c (mem L' H) := by
  refine ⟨hE.size, hE.os, hE.tape, hE.output, hE.same, hE.fz, hE.fzn, hE.lam, ?_⟩
  rintro sh j m ⟨o, a, cap, h1, h2, h3, h4⟩
  refine hE.own sh j m ⟨o, a, cap, ?_, h2, h3, h4⟩
  obtain ⟨T, rfl⟩ := hp
  cases sh with
  | true => exact h1
  | false =>
    obtain ⟨o', h5, _⟩ := hM.dom false j _ _ h3
    have hlt := getlt h5
    simp only [mem_false] at h1 hlt ⊢
    rwa [List.getElem?_append_left hlt] at h1
theorem Defs_ext {c0 c : Cx} {L L' H : List AO} {ds : List Deferred} (hM : MemR c (mem L H)) (hD : DefsOK c0 c (mem L H) ds) (hp : L <+: L') : DefsOK c0 c (mem L' H) ds := by
  refine hD.less rfl ?_ (fun _ h => h)
  rintro sh j m ⟨o, a, cap, h1, h2, h3, h4⟩
  refine ⟨sh, j, o, a, cap, ?_, h2, h3, h4⟩
  obtain ⟨T, rfl⟩ := hp
  cases sh with
  | true => exact h1
  | false =>
    obtain ⟨o', h5, _⟩ := hM.dom false j _ _ h3
    have hlt := getlt h5
    simp only [mem_false] at h1 hlt ⊢
    rwa [List.getElem?_append_left hlt] at h1
end Go.Abs
/- Turns of view: a private object becomes a shared one; nil becomes an empty row of one's own. -/
set_option linter.unusedVariables false
set_option linter.unusedSimpArgs false
namespace Go.Abs
open Go.RowKit

mutual
def mvV (j k : Nat) : AV → AV
  | .own false i ver => if i = j then .own true k ver else .own false i ver
  | .mapr false i => if i = j then .mapr true k else .mapr false i
  | .ref false i ver p off => if i = j then .ref true k ver p off else .ref false i ver p off
  | .agg vs => .agg (mvVs j k vs)
  | v => v
def mvVs (j k : Nat) : List AV → List AV
  | [] => []
  | v :: vs => mvV j k v :: mvVs j k vs
end
def mvO (j k : Nat) : AO → AO
  | .cell v => .cell (mvV j k v)
  | o => o
theorem mvO_ver (j k : Nat) (o : AO) : (mvO j k o).ver = o.ver := by cases o <;> rfl
theorem mvO_owned (j k : Nat) (o : AO) : (mvO j k o).owned = o.owned := by cases o <;> rfl

/-- The valuation in which it is shared. -/
def shLam (lam : Lam) (j k : Nat) : Lam := fun sh i ver => if sh = true ∧ i = k then lam false j ver else lam sh i ver

mutual
theorem mvV_CR {c : Cx} {j k : Nat} (hk : ∀ ver, c.lam true k ver = none) : ∀ (v : AV) (cs : List Value), CR c v cs → CR ⟨c.w, c.Fz, shLam c.lam j k⟩ (mvV j k v) cs ∧ (mvV j k v).isAgg = v.isAgg
  | .own false i ver, cs, h => by
    rw [mvV]
    rw [CR] at h
    obtain ⟨a, cap, hl, hn, rfl⟩ := h
    split
    · rename_i e
      subst e
      exact ⟨by rw [CR]; exact ⟨a, cap, by simp [shLam, hl], hn, rfl⟩, rfl⟩
    · exact ⟨by rw [CR]; exact ⟨a, cap, by simp [shLam, hl], hn, rfl⟩, rfl⟩
  | .mapr false i, cs, h => by
    rw [mvV]
    rw [CR] at h
    obtain ⟨a, cap, hl, rfl⟩ := h
    split
    · rename_i e
      subst e
      exact ⟨by rw [CR]; exact ⟨a, cap, by simp [shLam, hl], rfl⟩, rfl⟩
    · exact ⟨by rw [CR]; exact ⟨a, cap, by simp [shLam, hl], rfl⟩, rfl⟩
  | .ref false i ver p off, cs, h => by
    rw [mvV]
    rw [CR] at h
    obtain ⟨a, cap, hl, rfl⟩ := h
    split
    · rename_i e
      subst e
      exact ⟨by rw [CR]; exact ⟨a, cap, by simp [shLam, hl], rfl⟩, rfl⟩
    · exact ⟨by rw [CR]; exact ⟨a, cap, by simp [shLam, hl], rfl⟩, rfl⟩
  | .agg vs, cs, h => by
    rw [mvV]
    rw [CR] at h
    obtain ⟨css, h, rfl⟩ := h
    refine ⟨?_, rfl⟩
    rw [CR]
    exact ⟨css, mvVs_CR hk vs css h, rfl⟩
  | .own true i ver, cs, h => by rw [mvV]; exact ⟨CR_mono (shLam_le hk) _ _ h, rfl⟩; all_goals simp
  | .mapr true i, cs, h => by rw [mvV]; exact ⟨CR_mono (shLam_le hk) _ _ h, rfl⟩; all_goals simp
  | .ref true i ver p off, cs, h => by rw [mvV]; exact ⟨CR_mono (shLam_le hk) _ _ h, rfl⟩; all_goals simp
  | .any, cs, h => by rw [mvV]; exact ⟨CR_mono (shLam_le hk) _ _ h, rfl⟩; all_goals simp
  | .bool _, cs, h => by rw [mvV]; exact ⟨CR_mono (shLam_le hk) _ _ h, rfl⟩; all_goals simp
  | .int _ _, cs, h => by rw [mvV]; exact ⟨CR_mono (shLam_le hk) _ _ h, rfl⟩; all_goals simp
  | .str _, cs, h => by rw [mvV]; exact ⟨CR_mono (shLam_le hk) _ _ h, rfl⟩; all_goals simp
  | .arr _ _, cs, h => by rw [mvV]; exact ⟨CR_mono (shLam_le hk) _ _ h, rfl⟩; all_goals simp
  | .lit _ _, cs, h => by rw [mvV]; exact ⟨CR_mono (shLam_le hk) _ _ h, rfl⟩; all_goals simp
  | .nilS, cs, h => by rw [mvV]; exact ⟨CR_mono (shLam_le hk) _ _ h, rfl⟩; all_goals simp
  | .pin _, cs, h => by rw [mvV]; exact ⟨CR_mono (shLam_le hk) _ _ h, rfl⟩; all_goals simp
  | .nilP, cs, h => by rw [mvV]; exact ⟨CR_mono (shLam_le hk) _ _ h, rfl⟩; all_goals simp
  | .func _ _ _, cs, h => by rw [mvV]; exact ⟨CR_mono (shLam_le hk) _ _ h, rfl⟩; all_goals simp
  | .nilF, cs, h => by rw [mvV]; exact ⟨CR_mono (shLam_le hk) _ _ h, rfl⟩; all_goals simp
  | .nilM, cs, h => by rw [mvV]; exact ⟨CR_mono (shLam_le hk) _ _ h, rfl⟩; all_goals simp
  | .iface _ _, cs, h => by rw [mvV]; exact ⟨CR_mono (shLam_le hk) _ _ h, rfl⟩; all_goals simp
  | .nilI, cs, h => by rw [mvV]; exact ⟨CR_mono (shLam_le hk) _ _ h, rfl⟩; all_goals simp
  | .tup _, cs, h => by rw [CR] at h; exact h.elim
  | .yld _ _, cs, h => by rw [mvV]; exact ⟨CR_mono (shLam_le hk) _ _ h, rfl⟩; all_goals simp
  | .win _ _ _ _ _, cs, h => by rw [mvV]; exact ⟨CR_mono (shLam_le hk) _ _ h, rfl⟩; all_goals simp
theorem mvVs_CR {c : Cx} {j k : Nat} (hk : ∀ ver, c.lam true k ver = none) : ∀ (vs : List AV) (css : List (List Value)), CRs c vs css → CRs ⟨c.w, c.Fz, shLam c.lam j k⟩ (mvVs j k vs) css
  | [], css, h => by rw [mvVs]; rw [CRs] at h ⊢; exact h
  | v :: vs, css, h => by
    rw [mvVs]
    rw [CRs] at h ⊢
    obtain ⟨x, xs, e, h1, h2⟩ := h
    exact ⟨x, xs, e, (mvV_CR hk v x h1).1, mvVs_CR hk vs xs h2⟩
theorem shLam_le {c : Cx} {j k : Nat} (hk : ∀ ver, c.lam true k ver = none) : c.le ⟨c.w, c.Fz, shLam c.lam j k⟩ :=
  ⟨fun _ h => h, fun _ _ => rfl, fun sh i ver q h => by
    simp only [shLam]
    split
    · rename_i e
      obtain ⟨rfl, rfl⟩ := e
      rw [hk] at h; cases h
    · exact h⟩
end
theorem mvV_VR {c : Cx} {j k : Nat} (hk : ∀ ver, c.lam true k ver = none) {v : AV} {m : Value} (h : VR c v m) : VR ⟨c.w, c.Fz, shLam c.lam j k⟩ (mvV j k v) m := by
  cases v with
  | any => rw [mvV]; trivial; all_goals simp
  | tup vs => rw [mvV]; exact VR_mono (shLam_le hk) h; all_goals simp
  | _ =>
    obtain ⟨cs, h, rfl⟩ := h
    obtain ⟨h1, h2⟩ := mvV_CR (j := j) hk _ cs h
    have : vOf (mvV j k _) cs = vOf _ cs := vOf_same h2 cs
    rw [← this]
    exact VR_of_CR h1

def AS.share (s : AS) (j : Nat) : AS := ⟨s.t.map fun p => (p.1, mvV j s.H.length p.2), (s.loc.set j .dead).map (mvO j s.H.length), (s.H ++ (match s.loc[j]? with | some ob => [ob] | none => [])).map (mvO j s.H.length)⟩

theorem leads_share {s : AS} (j : Nat) {ob : AO} (ho : s.loc[j]? = some ob) (hoo : ob.owned = true) : Leads s (s.share j) := by
  intro x N c0 H0 c a h0 hi
  have hM := hi.mem
  have hjl := (List.getElem?_eq_some_iff.1 ho).1
  obtain ⟨k, hkd⟩ : ∃ k, k = s.H.length := ⟨_, rfl⟩
  have hk : ∀ ver, c.lam true k ver = none := by
    intro ver
    cases hl : c.lam true k ver with
    | none => rfl
    | some q =>
      obtain ⟨u, hu, _⟩ := hM.dom _ _ _ _ hl
      have := getlt hu
      simp [AS.mem] at this
      omega
  have hle := shLam_le (j := j) hk
  have es : s.share j = ⟨s.t.map fun p => (p.1, mvV j k p.2), (s.loc.set j .dead).map (mvO j k), (s.H ++ [ob]).map (mvO j k)⟩ := by
    simp only [AS.share, ho, hkd]
  rw [es]
  let M' : Mem := mem ((s.loc.set j .dead).map (mvO j k)) ((s.H ++ [ob]).map (mvO j k))
  -- what stands where in the new memory
  have hat : ∀ sh i o, (M' sh)[i]? = some o → (sh = false ∧ i = j ∧ o = .dead) ∨ (sh = true ∧ i = k ∧ o = mvO j k ob) ∨ (¬ (sh = false ∧ i = j) ∧ ¬ (sh = true ∧ i = k) ∧ ∃ o', (s.mem sh)[i]? = some o' ∧ o = mvO j k o') := by
    intro sh i o h
    cases sh with
    | false =>
      simp only [M', mem_false, List.getElem?_map, Option.map_eq_some_iff] at h
      obtain ⟨o', h, rfl⟩ := h
      by_cases e : i = j
      · subst e
        rw [List.getElem?_set_self hjl] at h
        cases h
        exact .inl ⟨rfl, rfl, rfl⟩
      · rw [List.getElem?_set_ne (Ne.symm e)] at h
        exact .inr (.inr ⟨by simp [e], by simp, o', h, rfl⟩)
    | true =>
      simp only [M', mem_true, List.getElem?_map, Option.map_eq_some_iff] at h
      obtain ⟨o', h, rfl⟩ := h
      by_cases e : i = k
      · subst e
        rw [hkd, List.getElem?_append_right (Nat.le_refl _)] at h
        simp at h
        subst h
        exact .inr (.inl ⟨rfl, rfl, rfl⟩)
      · have hlt : i < s.H.length := by
          have := (List.getElem?_eq_some_iff.1 h).1
          simp at this
          omega
        rw [List.getElem?_append_left hlt] at h
        exact .inr (.inr ⟨by simp, by simp [e], o', h, rfl⟩)
  have hobj : ∀ pl o, ObjAt c pl o → ObjAt ⟨c.w, c.Fz, shLam c.lam j k⟩ pl (mvO j k o) := by
    intro pl o h
    cases o with
    | cell v =>
      obtain ⟨m, t, cs, e1, e2, e3⟩ := h
      exact ⟨m, t, cs, e1, (mvV_CR hk v cs e2).1, e3⟩
    | _ => exact ObjAt_keep h hle (fun _ _ _ => rfl)
  have hown : ∀ sh i m, Owns (shLam c.lam j k) M' sh i m → (sh = true ∧ i = k ∧ Owns c.lam s.mem false j m) ∨ (¬ (sh = false ∧ i = j) ∧ ¬ (sh = true ∧ i = k) ∧ Owns c.lam s.mem sh i m) := by
    rintro sh i m ⟨o, ad, cap, h1, h2, h3, h4⟩
    rcases hat sh i o h1 with ⟨rfl, rfl, rfl⟩ | ⟨rfl, rfl, rfl⟩ | ⟨e1, e2, o', h5, rfl⟩
    · simp [AO.owned] at h2
    · refine .inl ⟨rfl, rfl, ob, ad, cap, ho, hoo, ?_, h4⟩
      rw [mvO_ver] at h3
      simpa [shLam] using h3
    · refine .inr ⟨e1, e2, o', ad, cap, h5, by rw [mvO_owned] at h2; exact h2, ?_, h4⟩
      simp only [shLam, e2, if_false, mvO_ver] at h3
      exact h3
  refine ⟨⟨c.w, c.Fz, shLam c.lam j k⟩, rfl, ⟨⟨?_, ?_, ?_, ?_, hM.fzl⟩, ⟨hi.ev.size, hi.ev.os, hi.ev.tape, hi.ev.output, hi.ev.same, hi.ev.fz, hi.ev.fzn, ?_, ?_⟩, ?_, ?_, hi.size, ?_⟩⟩
  · intro sh i o pl h1 h2
    rcases hat sh i o h1 with ⟨rfl, rfl, rfl⟩ | ⟨rfl, rfl, rfl⟩ | ⟨e1, e2, o', h5, rfl⟩
    · trivial
    · refine hobj _ _ (hM.obj false j ob pl ho ?_)
      rw [mvO_ver] at h2
      simpa [shLam] using h2
    · refine hobj _ _ (hM.obj sh i o' pl h5 ?_)
      simp only [shLam, e2, if_false, mvO_ver] at h2
      exact h2
  · intro sh i ver pl h
    simp only [shLam] at h
    split at h
    · rename_i e
      have e1 := e.1
      have e2 := e.2
      subst e1
      rw [e2]
      obtain ⟨o, h1, h2⟩ := hM.dom _ _ _ _ h
      have h1' : s.loc[j]? = some o := h1
      rw [ho] at h1'
      cases h1'
      refine ⟨mvO j k ob, ?_, fun _ => by rw [mvO_ver]; exact h2 hoo⟩
      show ((s.H ++ [ob]).map (mvO j k))[k]? = _
      simp [hkd]
    · rename_i e
      obtain ⟨o, h1, h2⟩ := hM.dom _ _ _ _ h
      have hlt := getlt h1
      cases sh with
      | true =>
        refine ⟨mvO j k o, ?_, fun hq => by rw [mvO_ver]; rw [mvO_owned] at hq; exact h2 hq⟩
        show ((s.H ++ [ob]).map (mvO j k))[i]? = _
        have hlt' : i < s.H.length := hlt
        rw [List.getElem?_map, List.getElem?_append_left hlt']
        have : s.H[i]? = some o := h1
        rw [this]; rfl
      | false =>
        by_cases e' : i = j
        · subst e'
          refine ⟨.dead, ?_, fun hq => by simp [AO.owned] at hq⟩
          show ((s.loc.set i .dead).map (mvO i k))[i]? = _
          rw [List.getElem?_map, List.getElem?_set_self hjl]; rfl
        · refine ⟨mvO j k o, ?_, fun hq => by rw [mvO_ver]; rw [mvO_owned] at hq; exact h2 hq⟩
          show ((s.loc.set j .dead).map (mvO j k))[i]? = _
          rw [List.getElem?_map, List.getElem?_set_ne (Ne.symm e')]
          have : s.loc[i]? = some o := h1
          rw [this]; rfl
  · intro sh i sh' i' m h1 h2
    rcases hown sh i m h1 with ⟨rfl, rfl, h3⟩ | ⟨e1, _, h3⟩ <;> rcases hown sh' i' m h2 with ⟨rfl, rfl, h4⟩ | ⟨e2, _, h4⟩
    · exact ⟨rfl, rfl⟩
    · obtain ⟨rfl, rfl⟩ := hM.sep _ _ _ _ m h3 h4
      exact (e2 ⟨rfl, rfl⟩).elim
    · obtain ⟨rfl, rfl⟩ := hM.sep _ _ _ _ m h3 h4
      exact (e1 ⟨rfl, rfl⟩).elim
    · exact hM.sep _ _ _ _ m h3 h4
  · intro sh i m h
    rcases hown sh i m h with ⟨_, _, h3⟩ | ⟨_, _, h3⟩
    · exact hM.unf _ _ m h3
    · exact hM.unf _ _ m h3
  · intro i ver p hi' h
    have := hi.ev.lam i ver p hi' h
    have hne : ¬ (true = true ∧ i = k) := by rintro ⟨_, e⟩; omega
    show shLam c.lam j k true i ver = some p
    unfold shLam
    rw [if_neg hne]
    exact this
  · intro sh i m h
    rcases hown sh i m h with ⟨_, _, h3⟩ | ⟨_, _, h3⟩
    · exact hi.ev.own _ _ m h3
    · exact hi.ev.own _ _ m h3
  · have := hi.len
    simp
    omega
  · intro i
    have hl : (AS.mk (s.t.map fun p => (p.1, mvV j k p.2)) ((s.loc.set j .dead).map (mvO j k)) ((s.H ++ [ob]).map (mvO j k))).get i = mvV j k (s.get i) := by
      show ((s.t.map fun p => (p.1, mvV j k p.2)).lookup i).getD .any = mvV j k ((s.t.lookup i).getD .any)
      generalize s.t = l
      induction l with
      | nil =>
        show AV.any = mvV j k .any
        rw [mvV]
        all_goals simp
      | cons p l ih =>
        simp only [List.map_cons]
        rw [List.lookup_cons, List.lookup_cons]
        cases hq : (i == p.1) with
        | true => simp
        | false => simpa using ih
    rw [hl]
    exact mvV_VR hk (hi.tr i)
  · refine hi.defs.less rfl ?_ (fun _ h => h)
    intro sh i m h
    rcases hown sh i m h with ⟨_, _, h3⟩ | ⟨_, _, h3⟩
    · exact ⟨_, _, h3⟩
    · exact ⟨_, _, h3⟩
end Go.Abs
/- Ranges over functions: what a call of yield does. -/
set_option linter.unusedVariables false
set_option linter.unusedSimpArgs false
namespace Go.Abs
open Go.RowKit

/-- The valuation of the shared objects alone. -/
def shOnly (c : Cx) : Cx := ⟨c.w, c.Fz, fun sh j ver => if sh then c.lam true j ver else none⟩

theorem toShared {d : Cx} {M : Mem} (hMd : MemR d M) (hH : ∀ ob ∈ M true, ob.ok shd = true) : MemR (shOnly d) (mem [] (M true)) := by
  have hl : ∀ sh j ver q, shd sh j = true → d.lam sh j ver = some q → (shOnly d).lam sh j ver = some q := by
    intro sh j ver q hs hq
    have : sh = true := hs
    subst this
    exact hq
  have hO : ∀ sh j m, Owns (shOnly d).lam (mem [] (M true)) sh j m → sh = true ∧ Owns d.lam M true j m := by
    rintro sh j m ⟨ob, a', cap', h1, h2, h3, h4⟩
    cases sh with
    | true => exact ⟨rfl, ob, a', cap', h1, h2, h3, h4⟩
    | false => simp at h1
  refine ⟨?_, ?_, ?_, ?_, hMd.fzl⟩
  · intro sh j ob pl h1 h2
    cases sh with
    | false => simp at h1
    | true => exact ObjAt_ok (p := shd) (hMd.obj true j ob pl h1 h2) rfl rfl hl (hH ob (List.mem_of_getElem? h1))
  · intro sh j ver pl h1
    cases sh with
    | false => cases h1
    | true => exact hMd.dom true j ver pl h1
  · intro sh j sh' j' m h1 h2
    obtain ⟨e1, h1⟩ := hO sh j m h1
    obtain ⟨e2, h2⟩ := hO sh' j' m h2
    exact ⟨e1.trans e2.symm, (hMd.sep _ _ _ _ m h1 h2).2⟩
  · intro sh j m h1
    obtain ⟨e1, h1⟩ := hO sh j m h1
    exact hMd.unf true j m h1

theorem shOnly_VR {d : Cx} {v : AV} {m : Value} (ho : v.ok shd = true) (h : VR d v m) : VR (shOnly d) v m := by
  refine VR_ok (c := d) (d := shOnly d) (p := shd) (fun _ h => h) (fun _ _ => rfl) ?_ ho h
  intro sh j ver q hs hq
  have : sh = true := hs
  subst this
  exact hq

theorem shOnly_Ev {c0 d : Cx} {H0 : List AO} {M : Mem} (hE : Ev c0 H0 d M) : Ev c0 H0 (shOnly d) (mem [] (M true)) := by
  refine ⟨hE.size, hE.os, hE.tape, hE.output, hE.same, hE.fz, hE.fzn, fun j ver p hj h => hE.lam j ver p hj h, ?_⟩
  rintro sh j m ⟨ob, a', cap', h1, h2, h3, h4⟩
  cases sh with
  | true => exact hE.own true j m ⟨ob, a', cap', h1, h2, h3, h4⟩
  | false => simp at h1

/-- What is said of a call of yield. -/
def YCall (x : X) (j : Nat) (args : List AV) (H : List AO) (Q : AV → List AO → Prop) : Prop :=
  ∀ (c : Cx) (ms : List Value) (l cap : Nat), MemR c (mem [] H) → c.lam true j 0 = some (some ⟨l, 0, none⟩, cap) → args.length = ms.length → (∀ (i : Nat) (v : AV) (m : Value), args[i]? = some v → ms[i]? = some m → VR c v m) →
    ∀ r, ∃ fn tmps assign body, (Instr.yield l ms.toArray).run x.P c.w = .ok (.round l fn tmps assign body) c.w ∧
      RoundIn (fen r) 0 x.P l fn tmps assign body c.w (fun e w' => ∃ (m : Value) (v : AV) (H' : List AO) (d : Cx), e = .returned m ∧ d.w = w' ∧ Q v H' ∧ VR d v m ∧ MemR d (mem [] H') ∧ Ev c H d (mem [] H') ∧ (∀ j ver, d.lam false j ver = none) ∧ H.length ≤ H'.length)

theorem YCall.mono {x : X} {j : Nat} {args : List AV} {H : List AO} {Q Q' : AV → List AO → Prop} (h : YCall x j args H Q) (hq : ∀ v H', Q v H' → Q' v H') : YCall x j args H Q' := by
  intro c ms l cap h1 h2 h3 h4 r
  obtain ⟨fn, tmps, assign, body, h5, h6⟩ := h c ms l cap h1 h2 h3 h4 r
  exact ⟨fn, tmps, assign, body, h5, h6.mono fun e w' ⟨m, v, H', d, k1, k2, k3, k4⟩ => ⟨m, v, H', d, k1, k2, hq _ _ k3, k4⟩⟩
@[congr] theorem ycall_congr {x : X} {j j' : Nat} {vs vs' : List AV} {H H' : List AO} {Q : AV → List AO → Prop} (h0 : j = j') (h1 : vs = vs') (h3 : H = H') : YCall x j vs H Q = YCall x j' vs' H' Q := by rw [h0, h1, h3]

/-- The step of a call of yield. -/
theorem opw_yield {x : X} {o : Oper} {s : AS} {K : AV → AS → Prop} {call : Call} {f : Operand} {j : Nat} (h : o.op = .call call) (hc : call.callee = .value f) (hf : s.ev f = .yld true j)
    (hsol : ∀ v ∈ call.args.toList.map s.ev, v.solid = true) (hok : ∀ v ∈ call.args.toList.map s.ev, v.ok shd = true) (hH : ∀ ob ∈ s.H, ob.ok shd = true)
    (hcall : YCall x j (call.args.toList.map s.ev) s.H (fun r H' => K r { s with H := H' })) : OpW x o s K := by
  intro c a Q hM ho
  have hfv := ho f (by obtain ⟨ce, ar, at'⟩ := call; simp only at hc; subst hc; simp [h, Op.operands, Call.operands])
  rw [hf] at hfv
  obtain ⟨fcs, hfc, hfe⟩ := hfv
  rw [CR] at hfc
  obtain ⟨l, cap, hl, rfl⟩ := hfc
  have hfe' : a.eval f = .func (.yield l) #[] #[] := hfe
  have hop : ∀ y ∈ call.args.toList, VR c (s.ev y) (a.eval y) := by
    intro y hy
    refine ho y ?_
    obtain ⟨ce, ar, at'⟩ := call
    simp only at hc hy
    subst hc
    simp [h, Op.operands, Call.operands]
    right
    simpa using hy
  have hys := hcall (shOnly c) (call.args.toList.map a.eval) l cap (toShared hM hH) (by simpa [shOnly] using hl) (by simp) (by
    intro i v m hv hm
    rw [List.getElem?_map, Option.map_eq_some_iff] at hv hm
    obtain ⟨y, hy, rfl⟩ := hv
    obtain ⟨y', hy', rfl⟩ := hm
    rw [hy] at hy'
    cases hy'
    exact shOnly_VR (hok _ (List.mem_map.2 ⟨y, List.mem_of_getElem? hy, rfl⟩)) (hop y (List.mem_of_getElem? hy))) x.rd
  obtain ⟨fn, tmps, assign, body, h5, h6⟩ := hys
  unfold Oper.wpX
  have hexec : (execOp a.eval o).run x.P c.w = .ok (.round l fn tmps assign body) c.w := by
    obtain ⟨callee, args, ats⟩ := call
    simp only at hc
    subst hc
    simp only [execOp, h, resolve, hfe', Deferred.ofValue, Sem.run_bind, Sem.run_pure, Result.andThen_ok, invoke]
    have e2 : (#[] ++ args.map a.eval) = (args.toList.map a.eval).toArray := by cases args; simp
    rw [e2]
    exact h5
  rw [hexec, Oper.uponIn_round]
  refine ⟨fun hh => by simp [fen, Fence.wide] at hh, h6.mono ?_⟩
  rintro e w' ⟨m, v, H', d, rfl, rfl, k1, k2, k3, k4, k5, k6⟩
  have k3' : MemR d (mem (List.replicate s.loc.length AO.dead ++ []) H') := MemR_ext k3 List.nil_prefix
  have k4' : Ev ⟨c.w, c.Fz, fun sh j ver => if sh then c.lam true j ver else none⟩ s.H d (mem (List.replicate s.loc.length AO.dead ++ []) H') := Ev_ext k3 k4 List.nil_prefix
  obtain ⟨b1, b2, b3⟩ := back (R := []) hM k3' k4' (fun j ver _ => k5 j ver) k6
  rw [List.append_nil] at b2 b3
  exact ⟨v, { s with H := H' }, ⟨d.w, d.Fz, fun sh j ver => if sh then d.lam true j ver else if j < s.loc.length then c.lam false j ver else d.lam false j ver⟩, m, rfl, rfl, k1, VR_mono b1 k2, b2, b3, rfl⟩

/-- The abstract machine within a round. -/
def X.at (x : X) (l : Nat) : X := { x with rd := some l }
@[simp] theorem X.at_P (x : X) (l : Nat) : (x.at l).P = x.P := rfl
@[simp] theorem X.at_ti (x : X) (l : Nat) : (x.at l).ti = x.ti := rfl
@[simp] theorem acall_at {x : X} {l : Nat} {f : FuncId} {vs : List AV} {n : Nat} {H : List AO} {Q : AV → List AO → List AO → Prop} : ACall (x.at l) f vs n H Q = ACall x f vs n H Q := rfl

/-- What a round is to show at its end. -/
def RPost (j : Nat) (r : LRec) (Q : AV → List AO → Prop) (e : Exit) (s : AS) : Prop :=
  s.H[j]? = some (.lrec { r with st := .busy }) ∧ (∀ ob ∈ s.H, ob.ok shd = true) ∧ (match e with
    | .normal => Q (.bool true) (s.H.set j (.lrec { r with st := .ready, pe := none }))
    | .ret => Q (.bool false) (s.H.set j (.lrec { r with st := .done, pe := some .ret }))
    | .exit i => Q (.bool false) (s.H.set j (.lrec { r with st := .done, pe := some (.exit i) }))
    | _ => False)

/-- A record's object is turned. -/
theorem turn_rec {c : Cx} {M : Mem} (hM : MemR c M) {j : Nat} {r : LRec} (hj : (M true)[j]? = some (.lrec r)) {l cap : Nat} (hl : c.lam true j 0 = some (some ⟨l, 0, none⟩, cap)) (st : LoopState) (pe : Option Code) :
    ∃ L, c.w.heap[l]? = some (.loop L) ∧ LRecAt c r L ∧ MemR ⟨c.w.putObj l (.loop { L with state := st, pending := pe }), c.Fz, c.lam⟩ (setM M true j (.lrec { r with st := st, pe := pe })) ∧ Step c M ⟨c.w.putObj l (.loop { L with state := st, pending := pe }), c.Fz, c.lam⟩ (setM M true j (.lrec { r with st := st, pe := pe })) := by
  have hob := hM.obj true j _ _ hj hl
  obtain ⟨m, L, e, h1, h2⟩ := hob
  cases e
  refine ⟨L, h1, h2, ?_⟩
  have ht : Turn c.w (c.w.putObj l (.loop { L with state := st, pending := pe })) (fun m => ∃ a, (some (⟨l, 0, none⟩ : Addr), (0 : Nat)).1 = some a ∧ m = a.block) :=
    ⟨by simp, rfl, rfl, rfl, fun m hm hn => World.putObj_heap_other (fun e => hn ⟨_, rfl, e⟩)⟩
  have hnf : ¬ c.Fz l := hM.unf true j l ⟨_, _, _, hj, rfl, hl, rfl⟩
  have hle : c.le ⟨c.w.putObj l (.loop { L with state := st, pending := pe }), c.Fz, c.lam⟩ := put_le hnf
  have := turn_obj hM hj rfl hl (o := .lrec { r with st := st, pe := pe }) (pl := (some ⟨l, 0, none⟩, 0)) (w' := c.w.putObj l (.loop { L with state := st, pending := pe })) rfl (Nat.le_refl _) (fun q hq => by
    have h9 : c.lam true j 0 = some q := hq
    rw [hl] at h9; exact (Option.some.inj h9).symm) ht ?_ (fun a ha => .inr ⟨a, ha, rfl⟩)
  · have e9 : updL c.lam true j (AO.lrec { r with st := st, pe := pe }).ver (some ⟨l, 0, none⟩, 0) = c.lam := updL_self hl
    rw [e9] at this
    exact this
  · have e9 : updL c.lam true j (AO.lrec { r with st := st, pe := pe }).ver (some ⟨l, 0, none⟩, 0) = c.lam := updL_self hl
    rw [e9]
    exact ⟨l, _, rfl, World.putObj_heap_same (Array.getElem?_eq_some_iff.1 h1).1, ⟨rfl, rfl, h2.fn, h2.ps, h2.assign, h2.body, h2.size, fun i => VR_mono hle (h2.tr i)⟩⟩

end Go.Abs
/- What each operation asks, read off its text. -/
set_option linter.unusedVariables false
set_option linter.unusedSimpArgs false
namespace Go.Abs
open Go.RowKit

def asTI (x : X) (t : TypeId) (K : TI → Prop) : Prop := match x.ti t with | some i => K i | none => False

def pLoad (s : AS) (i : TI) (v : AV) (K : AV → AS → Prop) : Prop :=
  match v with
  | .ref sh j ver p off => match s.find sh j ver with
    | some (_, _, ob) => match ob.sub p with
      | some (u, off') => off' = off ∧ i.isAgg = u.isAgg ∧ i.size = u.size ∧ K u s
      | none => False
    | none => False
  | .pin u => i.isAgg = u.isAgg ∧ i.size = u.size ∧ K u s
  | _ => False

def pStore (s : AS) (i : TI) (v w : AV) (K : AV → AS → Prop) : Prop :=
  match v with
  | .ref sh j ver p off => match s.find sh j ver with
    | some (sh', j', ob) => match ob.sub p, ob.upd p w with
      | some (u, off'), some ob' => off' = off ∧ ob.owned = true ∧ w.solid = true ∧ i.size = w.size ∧ K .any (s.setMem sh' j' ob')
      | _, _ => False
    | none => False
  | _ => False

def pFieldAddr (s : AS) (i : TI) (j : Nat) (v : AV) (K : AV → AS → Prop) : Prop :=
  match i.k with
  | .struct fs => match fs[j]? with
    | some f => f.size ≠ 0 ∧ (match v with
      | .ref sh k ver p off => K (.ref sh k ver (p ++ [j]) (off + f.off)) s
      | .pin v => match v.sub [j] with | some (u, o) => o = f.off ∧ K (.pin u) s | none => False
      | _ => False)
    | none => False
  | _ => False

def pField (s : AS) (i : TI) (j : Nat) (v : AV) (K : AV → AS → Prop) : Prop :=
  match i.k with
  | .struct fs => match fs[j]?, v.sub [j] with
    | some f, some (u, o) => v.isAgg = true ∧ o = f.off ∧ f.size = u.size ∧ f.agg = u.isAgg ∧ K u s
    | _, _ => False
  | _ => False

def pIndexAddr (s : AS) (i : TI) (v w : AV) (K : AV → AS → Prop) : Prop :=
  match w with
  | .int _ n => 0 ≤ n ∧ (match i.k, v with
    | .slice esz _, .lit sz vs => sz = esz ∧ (match vs[n.toNat]? with | some u => K (.pin u) s | none => False)
    | .slice esz _, .own sh j ver => n < ver ∧ K (.ref sh j ver [n.toNat] (n.toNat * esz)) s
    | .array m esz _, .ref sh j ver p off => n < m ∧ K (.ref sh j ver (p ++ [n.toNat]) (off + n.toNat * esz)) s
    | _, _ => False)
  | _ => False

def pIndex (s : AS) (i : TI) (v w : AV) (K : AV → AS → Prop) : Prop :=
  match w with
  | .int _ n => 0 ≤ n ∧ (match i.k with
    | .array m esz ea => n < m ∧ v.isAgg = true ∧ (match v.sub [n.toNat] with
      | some (u, o) => o = n.toNat * esz ∧ esz = u.size ∧ ea = u.isAgg ∧ K u s
      | none => False)
    | .string => (match v with
      | .str b => (match b[n.toNat]? with
        | some u => K (.int .u8 u.toNat) s
        | none => False)
      | _ => False)
    | _ => False)
  | _ => False

def pAppend (x : X) (s : AS) (e : TypeId) (esz : Nat) (v w : AV) (K : AV → AS → Prop) : Prop :=
  asTI x e fun ie => ie.zero.size = esz ∧ 0 < ie.bytes ∧ 0 < esz ∧ (match s.elems esz w with
    | none => False
    | some ys => match v with
      | .nilS => ys.length * ie.bytes ≤ 140737488355328 ∧ K (.own false s.loc.length ys.length) (s.push (.row esz ys))
      | .own sh j ver => (match (s.mem sh)[j]? with
        | some (.row sz vs) => sz = esz ∧ vs.length = ver ∧ (vs.length + ys.length) * ie.bytes ≤ 140737488355328 ∧ K (.own sh j (vs.length + ys.length)) (s.setMem sh j (.row esz (vs ++ ys)))
        | _ => False)
      | _ => False)

/-- A map's type: the kind of its keys, its elements' type. -/
def mapOf (P : Program) (t : TypeId) : Option (IntKind × TypeId) :=
  match P.underlying t with
  | some (.map kt et) => match P.underlying kt with
    | some (.int k) => some (k, et)
    | _ => none
  | _ => none
theorem mapOf_ty {P : Program} {t et : TypeId} {k : IntKind} (h : mapOf P t = some (k, et)) : MapTy P t k et := by
  unfold mapOf at h
  split at h
  · rename_i kt et' hu
    split at h
    · rename_i k' hk
      cases h
      exact ⟨kt, hu, hk⟩
    · cases h
  · cases h
/-- A plain value. -/
def plainV : AV → Option Value
  | .bool b => some (.bool b)
  | .int k n => some (.int k n)
  | .str b => some (.string b)
  | _ => none
theorem plainV_VR {a : AV} {v : Value} (h : plainV a = some v) (c : Cx) (m : Value) (hv : VR c a m) : m = v := by
  cases a <;> simp [plainV] at h
  · subst h; exact VR_bool hv
  · subst h; exact VR_int hv
  · subst h; exact VR_str hv
def pLookup (x : X) (s : AS) (t : TypeId) (a b : AV) (K : AV → AS → Prop) : Prop :=
  match a, b with
  | .mapr sh j, .int k n => match (s.mem sh)[j]?, mapOf x.P t with
    | some (.mp kvs), some (k', et) => k' = k ∧ asTI x et fun i => (match lookV k n kvs with
      | some r => K (lookR i r) s
      | none => False)
    | _, _ => False
  | _, _ => False
def pMapUpd (x : X) (s : AS) (t : TypeId) (a b u : AV) (K : AV → AS → Prop) : Prop :=
  match a, b with
  | .mapr sh j, .int k n => match (s.mem sh)[j]?, mapOf x.P t, plainV u with
    | some (.mp kvs), some (k', et), some v => k' = k ∧ (lookV k n kvs).isSome = true ∧ K .any (s.setMem sh j (.mp (updV k n v kvs)))
    | _, _, _ => False
  | _, _ => False

def pCopy (x : X) (s : AS) (t : TypeId) (v w : AV) (K : AV → AS → Prop) : Prop :=
  asTI x t fun i => match i.k with
    | .slice esz _ => (match dstOf esz v, s.elems esz w with
      | some (j, ver, off, len), some ys => 0 < ver ∧ (match s.loc[j]? with
        | some (.row sz vs) => sz = esz ∧ vs.length = ver ∧ K (.int .i64 ((ys.take len).length : Nat)) (s.setMem false j (.row esz (copyTo vs ys off len)))
        | _ => False)
      | _, _ => False)
    | _ => False
def pClear (x : X) (s : AS) (t : TypeId) (v : AV) (K : AV → AS → Prop) : Prop :=
  asTI x t fun i => match i.k with
    | .slice esz e => asTI x e fun ie => ie.zero.size = esz ∧ (match dstOf esz v with
      | some (j, ver, off, len) => 0 < len ∧ (match s.loc[j]? with
        | some (.row sz vs) => sz = esz ∧ vs.length = ver ∧ K (.tup []) (s.setMem false j (.row esz (vs.take off ++ List.replicate len ie.zero ++ vs.drop (off + len))))
        | _ => False)
      | _ => False)
    | _ => False
def pMakeSlice (x : X) (s : AS) (t : TypeId) (v w : AV) (K : AV → AS → Prop) : Prop :=
  asTI x t fun i => match i.k with
    | .slice esz e => asTI x e fun ie => ie.zero.size = esz ∧ 0 < esz ∧ (match v, w with
      | .int _ n, .int _ n' => n' = n ∧ 0 ≤ n ∧ n ≤ 140737488355328 ∧ ie.bytes * n.toNat ≤ 281474976710656 ∧ K (.own false s.loc.length n.toNat) (s.push (.row esz (List.replicate n.toNat ie.zero)))
      | _, _ => False)
    | _ => False

def pCall (x : X) (s : AS) (c : Call) (K : AV → AS → Prop) : Prop :=
  match c.callee with
  | .value f => match s.ev f with
    | .func (.func fid) [] cap =>
      (∀ v ∈ c.args.toList.map s.ev ++ cap, v.solid = true) ∧ (∀ v ∈ (s.expos (c.args.toList.map s.ev ++ cap)).1, v.ok shd = true) ∧ (∀ ob ∈ (s.expos (c.args.toList.map s.ev ++ cap)).2.H, ob.ok shd = true) ∧
        ACall x fid (s.expos (c.args.toList.map s.ev ++ cap)).1 (s.expos (c.args.toList.map s.ev ++ cap)).2.loc.length (s.expos (c.args.toList.map s.ev ++ cap)).2.H
          (fun r R H' => K r { (s.expos (c.args.toList.map s.ev ++ cap)).2 with loc := (s.expos (c.args.toList.map s.ev ++ cap)).2.loc ++ R, H := H' })
    | .yld true j => (∀ v ∈ c.args.toList.map s.ev, v.solid = true) ∧ (∀ v ∈ c.args.toList.map s.ev, v.ok shd = true) ∧ (∀ ob ∈ s.H, ob.ok shd = true) ∧ YCall x j (c.args.toList.map s.ev) s.H (fun r H' => K r { s with H := H' })
    | _ => False
  | .builtin .len => match c.args.toList, c.argTypes.toList with
    | [y], [t] => asTI x t fun i => (match i.k with
      | .slice _ _ => (match lenV (s.ev y) with | some n => K (.int .i64 n) s | none => False)
      | .string => (match s.ev y with | .str b => K (.int .i64 b.size) s | _ => False)
      | _ => False)
    | _, _ => False
  | .builtin .append => match c.args.toList, c.argTypes.toList with
    | [y, z], [t, t2] => asTI x t fun i => asTI x t2 fun i2 => (match i.k, i2.k with
      | .slice esz e, .slice _ _ => pAppend x s e esz (s.ev y) (s.ev z) K
      | _, _ => False)
    | _, _ => False
  | .builtin .min => match c.args.toList with
    | [y, z] => (match s.ev y, s.ev z with | .int k a, .int k' b => k = k' ∧ K (.int k (if b < a then b else a)) s | _, _ => False)
    | _ => False
  | .builtin .max => match c.args.toList with
    | [y, z] => (match s.ev y, s.ev z with | .int k a, .int k' b => k = k' ∧ K (.int k (if b > a then b else a)) s | _, _ => False)
    | _ => False
  | .builtin .copy => match c.args.toList, c.argTypes.toList with
    | [y, z], [t, t2] => pCopy x s t (s.ev y) (s.ev z) K
    | _, _ => False
  | .builtin .clear => match c.args.toList, c.argTypes.toList with
    | [y], [t] => pClear x s t (s.ev y) K
    | _, _ => False
  | _ => False

def Pv (x : X) (o : Oper) (s : AS) (K : AV → AS → Prop) : Prop :=
  match o.op with
  | .move y => K (s.ev y) s
  | .assign y => K (s.ev y) s
  | .pick q y z => match s.ev q with | .bool b => (b = true → K (s.ev y) s) ∧ (b = false → K (s.ev z) s) | _ => False
  | .alloc t => asTI x t fun i => K (.ref false s.loc.length 0 [] 0) (s.push (.cell i.zero))
  | .box _ y => (s.ev y).solid = true ∧ K (.ref false s.loc.length 0 [] 0) (s.push (.cell (s.ev y)))
  | .build t ps => asTI x t fun i => (match i.k, i.zero with
    | .struct fs, .agg zs => placesOK fs zs = true ∧ fits s zs ps.toList ∧ K (.agg (setAll s zs ps.toList)) s
    | .array _ esz _, .arr sz zs => sz = esz ∧ fits s zs ps.toList ∧ K (.arr sz (setAll s zs ps.toList)) s
    | _, _ => False)
  | .buildSlice t n ps => asTI x t fun i => (match i.k with
    | .slice esz e => asTI x e fun ie => ie.zero.size = esz ∧ 0 < esz ∧ n * esz ≤ 16777216 ∧ fits s (List.replicate n ie.zero) ps.toList ∧ K (.own false s.loc.length n) (s.push (.row esz (setAll s (List.replicate n ie.zero) ps.toList)))
    | _ => False)
  | .load t y => asTI x t fun i => pLoad s i (s.ev y) K
  | .store t y z => asTI x t fun i => pStore s i (s.ev y) (s.ev z) K
  | .nilCheck y => match s.ev y with | .ref sh j ver p off => K (.ref sh j ver p off) s | _ => False
  | .binOp op t y z _ => match binV op (s.ev y) (s.ev z) with | some v => K v s | none => pCmp x.P op t (s.ev y) (s.ev z) (fun v => K v s)
  | .slice t y lo hi mx => match mx with | none => asTI x t fun i => pSlice s i (s.ev y) lo hi (fun v => K v s) | some _ => False
  | .makeMap t r => match r with | none => K (.mapr false s.loc.length) (s.push (.mp [])) | some _ => False
  | .lookup t y z ok => match ok with | false => pLookup x s t (s.ev y) (s.ev z) K | true => False
  | .mapUpdate t y z u => pMapUpd x s t (s.ev y) (s.ev z) (s.ev u) K
  | .unOp op _ y => match unV op (s.ev y) with | some v => K v s | none => False
  | .convert src dst y => asTI x src fun _ => asTI x dst fun i => (match i.k, s.ev y with
    | .int k', .int _ n => K (.int k' (k'.wrap n)) s
    | _, _ => False)
  | .makeFunc fn first caps => first = #[] ∧ (∀ y ∈ caps.toList, (s.ev y).solid = true) ∧ K (.func fn [] (caps.toList.map s.ev)) s
  | .fieldAddr t y j => asTI x t fun i => pFieldAddr s i j (s.ev y) K
  | .field t y j => asTI x t fun i => pField s i j (s.ev y) K
  | .indexAddr t y z => asTI x t fun i => pIndexAddr s i (s.ev y) (s.ev z) K
  | .index t y z => asTI x t fun i => pIndex s i (s.ev y) (s.ev z) K
  | .extract y j => match s.ev y with | .tup vs => (match vs[j]? with | some u => K u s | none => False) | _ => False
  | .call c => pCall x s c K
  | .makeSlice t y z => pMakeSlice x s t (s.ev y) (s.ev z) K
  | _ => False

theorem asTI_iff {x : X} {t : TypeId} {K : TI → Prop} (h : asTI x t K) : ∃ i, x.ti t = some i ∧ K i := by
  unfold asTI at h
  split at h
  · rename_i i hi; exact ⟨i, hi, h⟩
  · exact h.elim

theorem pv_call {x : X} {o : Oper} {s : AS} {K : AV → AS → Prop} {c : Call} (ho : o.op = .call c) (h : pCall x s c K) : OpW x o s K := by
  obtain ⟨callee, args, ats⟩ := c
  unfold pCall at h
  simp only at h
  split at h
  · rename_i f
    split at h
    · rename_i fid cap hf
      obtain ⟨h1, h2, h3, h4⟩ := h
      exact opw_call ho rfl hf h1 h2 h3 h4
    · rename_i j hf
      obtain ⟨h1, h2, h3, h4⟩ := h
      exact opw_yield ho rfl hf h1 h2 h3 h4
    · exact h.elim
  · split at h
    · rename_i y t e1 e2
      have e1' : args = #[y] := by rw [← Array.toList_inj]; exact e1
      have e2' : ats = #[t] := by rw [← Array.toList_inj]; exact e2
      subst e1' e2'
      obtain ⟨i, hi, h⟩ := asTI_iff h
      have hk := (tok x hi).k
      split at h
      · rename_i hkk
        rw [hkk] at hk
        split at h
        · rename_i n hn; exact OpW.of_pure (pure_len ho hn hk) h
        · exact h.elim
      · rename_i hkk
        rw [hkk] at hk
        split at h
        · rename_i b hb; exact OpW.of_pure (pure_lenStr ho hb (k_string hk)) h
        · exact h.elim
      · exact h.elim
    · exact h.elim
  · split at h
    · rename_i y z t t2 e1 e2
      have e1' : args = #[y, z] := by rw [← Array.toList_inj]; exact e1
      have e2' : ats = #[t, t2] := by rw [← Array.toList_inj]; exact e2
      subst e1' e2'
      obtain ⟨i, hi, h⟩ := asTI_iff h
      obtain ⟨i2, hi2, h⟩ := asTI_iff h
      split at h
      · rename_i esz e esz2 e2 hk hk2
        obtain ⟨ie, he, h1, h2, h3, h⟩ := asTI_iff h
        split at h
        · exact h.elim
        · rename_i ys hys
          split at h
          · rename_i hy
            exact OpW.of_sim (sim_appendNil ho hi hk hi2 hk2 he h3 h1 h2 hy hys h.1) rfl h.2
          · rename_i sh j ver hy
            split at h
            · rename_i sz vs hrow
              obtain ⟨rfl, hv, hfit, h⟩ := h
              exact OpW.of_sim (sim_appendOwn ho hi hk hi2 hk2 he h1 h2 hy hrow hv hys hfit) (setMem_t _ _ _ _) h
            · exact h.elim
          · exact h.elim
      · exact h.elim
    · exact h.elim
  · split at h
    · rename_i y z e1
      have e1' : args = #[y, z] := by rw [← Array.toList_inj]; exact e1
      subst e1'
      split at h
      · rename_i k a k' b hy hz
        obtain ⟨rfl, h⟩ := h
        exact OpW.of_pure (pure_min ho hy hz) h
      · exact h.elim
    · exact h.elim
  · split at h
    · rename_i y z e1
      have e1' : args = #[y, z] := by rw [← Array.toList_inj]; exact e1
      subst e1'
      split at h
      · rename_i k a k' b hy hz
        obtain ⟨rfl, h⟩ := h
        exact OpW.of_pure (pure_max ho hy hz) h
      · exact h.elim
    · exact h.elim
  · split at h
    · rename_i y z t t2 e1 e2
      have e1' : args = #[y, z] := by rw [← Array.toList_inj]; exact e1
      have e2' : ats = #[t, t2] := by rw [← Array.toList_inj]; exact e2
      subst e1' e2'
      obtain ⟨i, hi, h⟩ := asTI_iff h
      split at h
      · rename_i esz e hk
        split at h
        · rename_i j ver off len ys hd hq
          obtain ⟨h0, h⟩ := h
          split at h
          · rename_i sz vs hrow
            obtain ⟨rfl, hv, h⟩ := h
            exact OpW.of_sim (sim_copy ho hi hk hd h0 hrow hv hq) (setMem_t _ _ _ _) h
          · exact h.elim
        · exact h.elim
      · exact h.elim
    · exact h.elim
  · split at h
    · rename_i y t e1 e2
      have e1' : args = #[y] := by rw [← Array.toList_inj]; exact e1
      have e2' : ats = #[t] := by rw [← Array.toList_inj]; exact e2
      subst e1' e2'
      obtain ⟨i, hi, h⟩ := asTI_iff h
      split at h
      · rename_i esz e hk
        obtain ⟨ie, he, hz, h⟩ := asTI_iff h
        split at h
        · rename_i j ver off len hd
          obtain ⟨h0, h⟩ := h
          split at h
          · rename_i sz vs hrow
            obtain ⟨rfl, hv, h⟩ := h
            exact OpW.of_sim (sim_clear ho hi hk he hz hd h0 hrow hv) (setMem_t _ _ _ _) h
          · exact h.elim
        · exact h.elim
      · exact h.elim
    · exact h.elim
  · exact h.elim

theorem pv_sound {x : X} {o : Oper} {s : AS} {K : AV → AS → Prop} (h : Pv x o s K) : OpW x o s K := by
  unfold Pv at h
  split at h
  · rename_i y ho; exact OpW.of_pure (pure_move ho) h
  · rename_i y ho; exact OpW.of_pure (pure_assign ho) h
  · rename_i q y z ho
    split at h
    · rename_i b hb
      refine OpW.of_pure (pure_pick ho hb) ?_
      cases b with
      | true => exact h.1 rfl
      | false => exact h.2 rfl
    · exact h.elim
  · rename_i t ho
    obtain ⟨i, hi, h⟩ := asTI_iff h
    exact OpW.of_sim (sim_alloc ho hi) rfl h
  · rename_i t y ho; exact OpW.of_sim (sim_box ho h.1) rfl h.2
  · rename_i t ps ho
    obtain ⟨i, hi, h⟩ := asTI_iff h
    split at h
    · rename_i fs zs hk hz
      exact OpW.of_pure (pure_build ho hi hk hz h.1 h.2.1) h.2.2
    · rename_i m esz ea sz zs hk hz
      obtain ⟨rfl, h1, h2⟩ := h
      exact OpW.of_pure (pure_buildArr ho hi hk hz h1) h2
    · exact h.elim
  · rename_i t n ps ho
    obtain ⟨i, hi, h⟩ := asTI_iff h
    split at h
    · rename_i esz e hk
      obtain ⟨ie, he, h1, h2, h3, h4, h⟩ := asTI_iff h
      exact OpW.of_sim (sim_buildSlice ho hi hk he h1 h2 h3 h4) rfl h
    · exact h.elim
  · rename_i t y ho
    obtain ⟨i, hi, h⟩ := asTI_iff h
    have ht := tok x hi
    unfold pLoad at h
    split at h
    · rename_i sh j ver p off hy
      split at h
      · rename_i sh' j' ob hf
        split at h
        · rename_i u off' hs
          obtain ⟨rfl, h1, h2, h⟩ := h
          exact OpW.of_sim (sim_load ho hy hf hs (by rw [ht.agg, h1]) (by rw [ht.size, h2])) rfl h
        · exact h.elim
      · exact h.elim
    · rename_i u hy
      obtain ⟨h1, h2, h⟩ := h
      exact OpW.of_pure (sim_loadPin ho hy (by rw [ht.agg, h1]) (by rw [ht.size, h2])) h
    · exact h.elim
  · rename_i t y z ho
    obtain ⟨i, hi, h⟩ := asTI_iff h
    have ht := tok x hi
    unfold pStore at h
    split at h
    · rename_i sh j ver p off hy
      split at h
      · rename_i sh' j' ob hf
        split at h
        · rename_i u off' ob' hs hu
          obtain ⟨rfl, h1, h2, h3, h⟩ := h
          exact OpW.of_sim (sim_store ho hy hf h1 hs hu h2 (by rw [ht.size, h3])) (setMem_t _ _ _ _) h
        · exact h.elim
      · exact h.elim
    · exact h.elim
  · rename_i y ho
    split at h
    · rename_i hy; exact OpW.of_pure (pure_nilCheck ho hy) h
    · exact h.elim
  · rename_i op t y z yt ho
    split at h
    · rename_i v hv; exact OpW.of_pure (pure_bin ho hv) h
    · obtain ⟨v, h1, h2⟩ := pure_cmp ho h
      exact OpW.of_pure h1 h2
  · rename_i t y lo hi mx ho
    split at h
    · obtain ⟨i, hi, h⟩ := asTI_iff h
      obtain ⟨v, h1, h2⟩ := pure_slice ho hi h
      exact OpW.of_pure h1 h2
    · exact h.elim
  · rename_i t r ho
    split at h
    · exact OpW.of_sim (sima_makeMap ho).sim rfl h
    · exact h.elim
  · rename_i t y z ok ho
    split at h
    · unfold pLookup at h
      split at h
      · rename_i sh j k n hy hz
        split at h
        · rename_i kvs k' et hob hmo
          obtain ⟨rfl, h⟩ := h
          obtain ⟨i, hi, h⟩ := asTI_iff h
          split at h
          · rename_i r hr
            exact OpW.of_sim (sim_lookup ho (mapOf_ty hmo) hi hy hz hob hr) rfl h
          · exact h.elim
        · exact h.elim
      · exact h.elim
    · exact h.elim
  · rename_i t y z u ho
    unfold pMapUpd at h
    split at h
    · rename_i sh j k n hy hz
      split at h
      · rename_i kvs k' et v hob hmo hv
        obtain ⟨rfl, h1, h⟩ := h
        obtain ⟨r, hr⟩ := Option.isSome_iff_exists.1 h1
        exact OpW.of_sim (sim_mapUpdate ho (mapOf_ty hmo) hy hz (plainV_VR hv) hob hr) (setMem_t _ _ _ _) h
      · exact h.elim
    · exact h.elim
  · rename_i op t y ho
    split at h
    · rename_i v hv; exact OpW.of_pure (pure_un ho hv) h
    · exact h.elim
  · rename_i src dst y ho
    obtain ⟨i0, hi0, h⟩ := asTI_iff h
    obtain ⟨i, hi, h⟩ := asTI_iff h
    have ht := tok x hi
    have ht0 := (tok x hi0).agg
    split at h
    · rename_i k' k n hk hy
      have hkc := ht.k
      rw [hk] at hkc
      have h0 : ∃ d, x.P.underlying src = some d := by
        unfold aggT at ht0
        rw [Option.map_eq_some_iff] at ht0
        obtain ⟨d, hd, _⟩ := ht0
        exact ⟨d, hd⟩
      exact OpW.of_pure (pure_conv ho hy h0 (k_int hkc)) h
    · exact h.elim
  · rename_i fn first caps ho
    obtain ⟨rfl, h1, h⟩ := h
    exact OpW.of_pure (pure_func ho (fun y hy => h1 y (by simpa using hy))) h
  · rename_i t y j ho
    obtain ⟨i, hi, h⟩ := asTI_iff h
    have hk := (tok x hi).k
    unfold pFieldAddr at h
    split at h
    · rename_i fs hkk
      rw [hkk] at hk
      split at h
      · rename_i f hf
        obtain ⟨h0, h⟩ := h
        split at h
        · rename_i hy; exact OpW.of_pure (pure_fieldAddr ho hk hy hf h0) h
        · rename_i v hy
          split at h
          · rename_i u o' hs
            obtain ⟨rfl, h⟩ := h
            exact OpW.of_pure (pure_fieldPin ho hk hy hf h0 hs) h
          · exact h.elim
        · exact h.elim
      · exact h.elim
    · exact h.elim
  · rename_i t y j ho
    obtain ⟨i, hi, h⟩ := asTI_iff h
    have hk := (tok x hi).k
    unfold pField at h
    split at h
    · rename_i fs hkk
      rw [hkk] at hk
      split at h
      · rename_i f u o' hf hs
        obtain ⟨h0, rfl, h1, h2, h⟩ := h
        exact OpW.of_pure (pure_field ho hk h0 hs hf h1 h2) h
      · exact h.elim
    · exact h.elim
  · rename_i t y z ho
    obtain ⟨i, hi, h⟩ := asTI_iff h
    have hk := (tok x hi).k
    unfold pIndexAddr at h
    split at h
    · rename_i k n hz
      obtain ⟨h0, h⟩ := h
      split at h
      · rename_i esz e sz vs hkk hy
        rw [hkk] at hk
        obtain ⟨rfl, h⟩ := h
        split at h
        · rename_i u hu; exact OpW.of_pure (pure_indexLit ho hk hy hz h0 hu) h
        · exact h.elim
      · rename_i esz e sh j ver hkk hy
        rw [hkk] at hk
        exact OpW.of_pure (pure_indexOwn ho hk hy hz h0 h.1) h.2
      · rename_i m esz ea sh j ver p off hkk hy
        rw [hkk] at hk
        exact OpW.of_pure (pure_indexArr ho hk hy hz h0 h.1) h.2
      · exact h.elim
    · exact h.elim
  · rename_i t y z ho
    obtain ⟨i, hi, h⟩ := asTI_iff h
    have hk := (tok x hi).k
    unfold pIndex at h
    split at h
    · rename_i k n hz
      obtain ⟨h0, h⟩ := h
      split at h
      · rename_i m esz ea hkk
        rw [hkk] at hk
        obtain ⟨h1, h2, h⟩ := h
        split at h
        · rename_i u o' hs
          obtain ⟨rfl, h3, h4, h⟩ := h
          exact OpW.of_pure (pure_index ho hk h2 hz h0 h1 hs h3 h4) h
        · exact h.elim
      · rename_i hkk
        rw [hkk] at hk
        split at h
        · rename_i b hy
          split at h
          · rename_i u hu
            exact OpW.of_pure (pure_indexStr ho hk hy hz h0 hu) h
          · exact h.elim
        · exact h.elim
      · exact h.elim
    · exact h.elim
  · rename_i y j ho
    split at h
    · rename_i vs hy
      split at h
      · rename_i u hu; exact OpW.of_pure (pure_extract ho hy hu) h
      · exact h.elim
    · exact h.elim
  · rename_i c ho; exact pv_call ho h
  · rename_i t y z ho
    obtain ⟨i, hi, h⟩ := asTI_iff h
    split at h
    · rename_i esz e hk
      obtain ⟨ie, he, h1, h2, h⟩ := asTI_iff h
      split at h
      · rename_i kl n kc n' hy hz
        obtain ⟨rfl, h0, h3, h4, h⟩ := h
        obtain ⟨m, rfl⟩ := Int.eq_ofNat_of_zero_le h0
        simp only [Int.toNat_natCast] at h4 h
        exact OpW.of_sim (sima_makeSlice ho hi hk he h1 h2 hy hz h4 (by omega)).sim rfl h
      · exact h.elim
    · exact h.elim
  · exact h.elim

end Go.Abs
/- Ranges over functions: rounds, and the statement. -/
set_option linter.unusedVariables false
set_option linter.unusedSimpArgs false
namespace Go.Abs
open Go.RowKit

def bindT (t : List (Nat × AV)) (ps : List Nat) (args : List AV) : List (Nat × AV) := (ps.zip args).foldl (fun l p => (p.1, p.2) :: l) t

theorem bindT_tr {c : Cx} {N : Nat} : ∀ {ps : List Nat} {args : List AV} {ms : List Value} {t : List (Nat × AV)} {tmps : Array Value}, (∀ p ∈ ps, p < N) → tmps.size = N → args.length = ms.length → (∀ (i : Nat) (v : AV) (m : Value), args[i]? = some v → ms[i]? = some m → VR c v m) →
    (∀ i, VR c ((t.lookup i).getD .any) (tmps.getD i undef)) →
    (((ps.zip ms).foldl (fun (tmps : Array Value) (p : Nat × Value) => tmps.setIfInBounds p.1 p.2) tmps).size = N ∧ ∀ i, VR c (((bindT t ps args).lookup i).getD .any) (((ps.zip ms).foldl (fun (tmps : Array Value) (p : Nat × Value) => tmps.setIfInBounds p.1 p.2) tmps).getD i undef))
  | [], args, ms, t, tmps, _, hs, _, _, ht => by
    simp only [bindT, List.zip_nil_left, List.foldl_nil]
    exact ⟨hs, ht⟩
  | p :: ps, [], ms, t, tmps, _, hs, hl, _, ht => by
    have : ms = [] := by cases ms with | nil => rfl | cons _ _ => simp at hl
    subst this
    simp only [bindT, List.zip_nil_right, List.foldl_nil]
    exact ⟨hs, ht⟩
  | p :: ps, v :: args, [], t, tmps, _, hs, hl, _, ht => by simp at hl
  | p :: ps, v :: args, m :: ms, t, tmps, hp, hs, hl, hv, ht => by
    have := bindT_tr (c := c) (N := N) (ps := ps) (args := args) (ms := ms) (t := (p, v) :: t) (tmps := tmps.setIfInBounds p m) (fun q hq => hp q (List.mem_cons_of_mem _ hq)) (by simp [hs]) (by simpa using hl)
      (fun i u x hu hx => hv (i + 1) u x (by simpa using hu) (by simpa using hx)) ?_
    · simpa [bindT] using this
    · intro i
      have hpl : p < tmps.size := by rw [hs]; exact hp p List.mem_cons_self
      rw [List.lookup_cons]
      by_cases e : i = p
      · subst e
        simp [hpl]
        exact hv 0 v m rfl rfl
      · have e' : (i == p) = false := by simpa using e
        simp only [e', Array.getD_eq_getD_getElem?]
        rw [Array.getElem?_setIfInBounds_ne (Ne.symm e)]
        have := ht i
        rw [Array.getD_eq_getD_getElem?] at this
        exact this

theorem run_yield {P : Program} {w : World} {l : Nat} {L : Loop} {ms : Array Value} (h : w.heap[l]? = some (.loop L)) (hn : ms.size = L.params.size) :
    (Instr.yield l ms).run P w = .ok (.round l L.fn ((L.params.zip ms).foldl (fun tmps (t, a) => tmps.setIfInBounds t a) L.tmps) L.assign L.body) w := by
  simp [Instr.yield, Sem.run_bind, run_getLoop h, hn]

/-- What a call of yield does, out of a round's walk. -/
theorem ycall_round {x : X} {j : Nat} {r : LRec} {args : List AV} {H : List AO} {Q : AV → List AO → Prop} (hj : H[j]? = some (.lrec r)) (hst : r.st = .ready) (hn : args.length = r.ps.length) (hps : ∀ p ∈ r.ps, p < r.N) (hca : codeOK r.N r.assign = true) (hcb : codeOK r.N r.body = true)
    (h : ∀ l, AWP (x.at l) r.N r.assign ⟨bindT r.t r.ps args, [], H⟩ (fun e s1 => e = .normal ∧ s1.H[j]? = some (.lrec r) ∧ AWP (x.at l) r.N r.body (s1.setMem true j (.lrec { r with st := .busy })) (RPost j r Q))) : YCall x j args H Q := by
  intro c ms l cap hM hl hlen hv rr
  have hjl := (List.getElem?_eq_some_iff.1 hj).1
  obtain ⟨m0, L, e0, hL, hLr⟩ := hM.obj true j _ _ hj hl
  cases e0
  have hps' : L.params.toList = r.ps := hLr.ps
  have hsz : ms.toArray.size = L.params.size := by
    have : L.params.size = r.ps.length := by rw [← hps']; simp
    simp; omega
  refine ⟨L.fn, _, L.assign, L.body, run_yield hL hsz, ?_⟩
  have hfold : ((L.params.zip ms.toArray).foldl (fun tmps (t, a) => tmps.setIfInBounds t a) L.tmps) = ((r.ps.zip ms).foldl (fun (tmps : Array Value) (p : Nat × Value) => tmps.setIfInBounds p.1 p.2) L.tmps) := by
    rw [← hps', ← Array.foldl_toList]
    congr 1
    simp
  rw [hfold]
  obtain ⟨b1, b2⟩ := bindT_tr (c := c) (N := r.N) (t := r.t) (tmps := L.tmps) hps hLr.size hlen hv hLr.tr
  generalize ((r.ps.zip ms).foldl (fun (tmps : Array Value) (p : Nat × Value) => tmps.setIfInBounds p.1 p.2) L.tmps) = tmps at b1 b2
  refine roundIn_of_wpIn (F := fen rr) trivial ?_
  have hi : Inv (x.at l) c H r.N ⟨bindT r.t r.ps args, [], H⟩ c { tmps := tmps, defers := [] } := by
    refine ⟨hM, Ev.refl c _ H ?_ rfl, Nat.le_refl _, b2, b1, DefsOK.nil⟩
    rintro j' m ⟨o, a, cap, h1, _⟩
    simp [AS.mem] at h1
  have hw := h l hca c H c _ hi
  rw [hLr.assign]
  refine wpIn_mono hw ?_
  rintro e a1 w1 ⟨s1, d1, rfl, ⟨rfl, hj1, hbody⟩, hi1⟩
  have hl1 : d1.lam true j 0 = some (some ⟨l, 0, none⟩, 0) := hi1.ev.lam j 0 _ hjl hl
  obtain ⟨L1, hL1, hr1, hM1, hS1⟩ := turn_rec hi1.mem (j := j) (r := r) hj1 hl1 .busy r.pe
  have hput : ({ L1 with state := .busy, pending := r.pe } : Loop) = { L1 with state := .busy } := by rw [← hr1.pe]
  rw [hput] at hM1 hS1
  refine ⟨_, run_beginRound hL1 (by rw [hr1.st, hst]), ?_⟩
  have hi1' : Inv (x.at l) c H r.N (s1.setMem true j (.lrec { r with st := .busy })) ⟨d1.w.putObj l (.loop { L1 with state := .busy }), d1.Fz, d1.lam⟩ a1 := by
    refine hi1.step ?_ ?_ rfl
    · rw [AS.mem_setMem]; exact hS1
    · rw [AS.mem_setMem]; exact hM1
  have hw2 := hbody hcb c H _ a1 hi1'
  rw [hLr.body]
  refine wpIn_mono hw2 ?_
  rintro e a2 w2 ⟨s2, d2, rfl, ⟨hj2, hok2, hq⟩, hi2⟩
  have hl2 : d2.lam true j 0 = some (some ⟨l, 0, none⟩, 0) := hi2.ev.lam j 0 _ hjl hl
  have fin : ∀ (st : LoopState) (pe : Option Code) (v : Value), (∀ L2 : Loop, d2.w.heap[l]? = some (.loop L2) → (Instr.endRound l pe).run x.P d2.w = .ok v (d2.w.putObj l (.loop { L2 with state := st, pending := pe }))) → ∀ (b : Bool), v = .bool b → Q (.bool b) (s2.H.set j (.lrec { r with st := st, pe := pe })) →
      ∃ v w', (Instr.endRound l pe).run x.P d2.w = .ok v w' ∧ ∃ (m : Value) (v' : AV) (H' : List AO) (d : Cx), (Ending.returned v) = .returned m ∧ d.w = w' ∧ Q v' H' ∧ VR d v' m ∧ MemR d (mem [] H') ∧ Ev c H d (mem [] H') ∧ (∀ j ver, d.lam false j ver = none) ∧ H.length ≤ H'.length := by
    intro st pe v hrun b hb hq
    obtain ⟨L2, hL2, hr2, hM2, hS2⟩ := turn_rec hi2.mem (j := j) (r := { r with st := .busy }) hj2 hl2 st pe
    subst hb
    have hmem : setM s2.mem true j (.lrec { { r with st := .busy } with st := st, pe := pe }) true = s2.H.set j (.lrec { r with st := st, pe := pe }) := by simp [setM, AS.mem]
    have hok : ∀ ob ∈ setM s2.mem true j (.lrec { { r with st := .busy } with st := st, pe := pe }) true, ob.ok shd = true := by
      rw [hmem]
      intro ob hob
      rcases List.mem_or_eq_of_mem_set hob with h1 | rfl
      · exact hok2 ob h1
      · have h9 := hok2 _ (List.mem_of_getElem? hj2)
        exact h9
    have t1 := toShared hM2 hok
    have t2 := shOnly_Ev (hi2.ev.step hS2)
    rw [hmem] at t1 t2
    exact ⟨_, _, hrun L2 hL2, _, .bool b, _, shOnly ⟨d2.w.putObj l (.loop { L2 with state := st, pending := pe }), d2.Fz, d2.lam⟩, rfl, rfl, hq, VR_bool_mk _ _, t1, t2, fun _ _ => rfl, by simpa using hi2.len⟩
  cases e with
  | normal => exact fin .ready none (.bool true) (fun L2 hL2 => by simpa using run_endRound none hL2) true rfl hq
  | ret => exact fin .done (some .ret) (.bool false) (fun L2 hL2 => by simpa using run_endRound (some .ret) hL2) false rfl hq
  | exit i => exact fin .done (some (.exit i)) (.bool false) (fun L2 hL2 => by simpa using run_endRound (some (.exit i)) hL2) false rfl hq
  | _ => exact hq.elim

/-- What is left to do when the function that was ranged over has returned. -/
def rangeEnd (k : Nat) (s : AS) (Q : Exit → AS → Prop) (R H' : List AO) : Prop :=
  match H'[k]? with
  | some (.lrec r1) => r1.st ≠ .busy ∧ (match r1.pe with
    | none => Q .normal ⟨s.t, s.loc ++ R, H'.set k (.lrec { r1 with st := .exhausted })⟩
    | some .ret => Q .ret ⟨s.t, s.loc ++ R, H'.set k (.lrec { r1 with st := .exhausted })⟩
    | some (.exit i) => Q (.exit i) ⟨s.t, s.loc ++ R, H'.set k (.lrec { r1 with st := .exhausted })⟩
    | _ => False)
  | _ => False

theorem awp_range {x : X} {N : Nat} {s : AS} {Q : Exit → AS → Prop} {g : Operand} {ps : Array Tmp} {assign body : Code} {gf : FuncId} {cap : List AV} (hrd : x.rd = none) (hg : s.ev g = .func (.func gf) [] cap) (hcs : ∀ v ∈ cap, v.solid = true) (hco : ∀ v ∈ cap, v.ok shd = true) (ht : ∀ p ∈ s.t, p.2.ok shd = true) (hH : ∀ ob ∈ s.H, ob.ok shd = true)
    (h : ∀ fn, ACall x gf (.yld true s.H.length :: cap) s.loc.length (s.H ++ [.lrec ⟨fn, N, s.t, ps.toList, assign, body, .ready, none⟩]) (fun _ R H' => rangeEnd s.H.length s Q R H')) : AWP x N (.rangeFunc g ps assign body) s Q := by
  intro _ c0 H0 c a hi
  have hfen : fen x.rd = Fence.wide := by rw [hrd]; rfl
  rw [hfen]
  refine wpIn_rangeFunc ?_
  intro fn _
  -- the iterator's value
  have hfv := hi.tr.ev g
  rw [hg] at hfv
  obtain ⟨fcs, hfc, hfe⟩ := hfv
  rw [CR] at hfc
  obtain ⟨fs, gs, k1, k2, rfl⟩ := hfc
  rw [CRs] at k1
  subst k1
  have hfe' : a.eval g = .func (.func gf) #[] ((cap.zip gs).map fun p => vOf p.1 p.2).toArray := by rw [hfe]; rfl
  obtain ⟨hent, hcl⟩ := h fn
  -- the two blocks
  let r0 : LRec := ⟨fn, N, s.t, ps.toList, assign, body, .ready, none⟩
  let L0 : Loop := { state := .ready, pending := none, fn, tmps := a.tmps, params := ps, assign, body, defers := c.w.heap.size }
  obtain ⟨qM, qS⟩ := quiet_step hi.mem (w' := c.w.alloc (.deferred (some []))) (Turn.alloc _ _ _)
  have hsz1 : (c.w.alloc (.deferred (some []))).heap.size = c.w.heap.size + 1 := by simp
  have hleA := qS.le hi.mem
  have hpush := push_obj qM true (o := .lrec r0) (pl := (some ⟨c.w.heap.size + 1, 0, none⟩, 0)) (w' := (c.w.alloc (.deferred (some []))).alloc (.loop L0)) (Turn.alloc _ _ _) (by
    refine ⟨c.w.heap.size + 1, L0, rfl, ?_, ⟨rfl, rfl, rfl, rfl, rfl, rfl, hi.size, ?_⟩⟩
    · have := World.alloc_heap_new (c.w.alloc (.deferred (some []))) (.loop L0)
      rwa [hsz1] at this
    · intro i
      refine VR_mono ?_ (hi.tr i)
      refine hleA.trans ⟨fun _ h => h, fun m hm => (Turn.alloc (c.w.alloc (.deferred (some []))) (.loop L0) (fun _ => False)).same m (qM.fzl m hm) (fun h => h), fun sh j ver q hq => updL_le (fun p hp => ?_) hq⟩
      obtain ⟨y, hy, _⟩ := qM.dom _ _ _ _ hp
      have := getlt hy
      omega) (fun _ ad had => by cases had; simp)
  obtain ⟨c1, hc1⟩ : ∃ c1 : Cx, c1 = ⟨(c.w.alloc (.deferred (some []))).alloc (.loop L0), c.Fz, updL c.lam true (s.mem true).length (AO.lrec r0).ver (some ⟨c.w.heap.size + 1, 0, none⟩, 0)⟩ := ⟨_, rfl⟩
  have hmem1 : pushM s.mem true (.lrec r0) = (AS.mk s.t s.loc (s.H ++ [.lrec r0])).mem := by
    funext sh
    cases sh <;> simp [pushM, AS.mem]
  have hM1 : MemR c1 (AS.mk s.t s.loc (s.H ++ [.lrec r0])).mem := by rw [hc1, ← hmem1]; exact hpush.1
  have hS1 : Step c s.mem c1 (AS.mk s.t s.loc (s.H ++ [.lrec r0])).mem := by rw [hc1, ← hmem1]; exact qS.trans hpush.2 hi.mem
  have hle1 := hS1.le hi.mem
  have hlam1 : c1.lam true s.H.length 0 = some (some ⟨c.w.heap.size + 1, 0, none⟩, 0) := by rw [hc1]; exact updL_same _ _ _ _ _
  have hH1 : ∀ ob ∈ (AS.mk s.t s.loc (s.H ++ [.lrec r0])).mem true, ob.ok shd = true := by
    intro ob hob
    simp only [AS.mem, mem_true, List.mem_append, List.mem_singleton] at hob
    rcases hob with hob | rfl
    · exact hH ob hob
    · simp only [AO.ok, LRec.ok, List.all_eq_true]
      exact ht
  have hsh := toShared hM1 hH1
  have hcall := hcl (shOnly c1) (.func (.yield (c.w.heap.size + 1)) #[] #[] :: (cap.zip gs).map fun p => vOf p.1 p.2) hsh (by simp [CRs_length k2]) (by
    intro i v m hv hm
    cases i with
    | zero =>
      simp at hv hm
      subst hv; subst hm
      refine ⟨[_], ?_, rfl⟩
      rw [CR]
      exact ⟨_, _, by simpa [shOnly] using hlam1, rfl⟩
    | succ i =>
      simp only [List.getElem?_cons_succ] at hv hm
      refine shOnly_VR (hco v (List.mem_of_getElem? hv)) ?_
      rw [List.getElem?_map, Option.map_eq_some_iff] at hm
      obtain ⟨⟨v', cs⟩, hz, rfl⟩ := hm
      rw [List.getElem?_zip_eq_some] at hz
      obtain ⟨hz1, hz2⟩ := hz
      simp only at hz1 hz2
      rw [hv] at hz1
      cases hz1
      obtain ⟨x', hx1, hx2⟩ := CRs_get k2 hv
      rw [hz2] at hx1
      cases hx1
      exact VR_mono hle1 (VR_of_CR hx2))
  refine ⟨c.w.heap.size + 1, [{ target := .collected c.w.heap.size, args := #[] }], c1.w, { target := .fn (.func gf) ((cap.zip gs).map fun p => vOf p.1 p.2).toArray, args := #[.func (.yield (c.w.heap.size + 1)) #[] #[]] }, c1.w, gf,
    (#[.func (.yield (c.w.heap.size + 1)) #[] #[]] ++ ((cap.zip gs).map fun p => vOf p.1 p.2).toArray), c1.w, ?_, ?_, ?_, ?_, fun hh => by simp [Fence.wide] at hh, ?_⟩
  · rw [hc1]; exact run_enterLoop_outer _ _ _ _ _
  · have e9 : a.eval (.const (.func (.yield (c.w.heap.size + 1)) #[] #[])) = .func (.yield (c.w.heap.size + 1)) #[] #[] := rfl
    simp [resolve, hfe', Deferred.ofValue, e9]
  · intro f' _; trivial
  · have := hent (#[.func (.yield (c.w.heap.size + 1)) #[] #[]] ++ ((cap.zip gs).map fun p => vOf p.1 p.2).toArray) c1.w
    simpa [invoke] using this
  · have hcw : CallsIn Fence.wide 0 x.P gf (#[.func (.yield (c.w.heap.size + 1)) #[] #[]] ++ ((cap.zip gs).map fun p => vOf p.1 p.2).toArray) c1.w _ := (callsIn_wide (n := 0)).2 (by
      have e : (#[.func (.yield (c.w.heap.size + 1)) #[] #[]] ++ ((cap.zip gs).map fun p => vOf p.1 p.2).toArray) = (Value.func (.yield (c.w.heap.size + 1)) #[] #[] :: (cap.zip gs).map fun p => vOf p.1 p.2).toArray := by simp
      rw [e]
      exact hcall)
    refine hcw.mono ?_
    rintro e w' ⟨m, rv, R, H', d, rfl, rfl, q1, q2, q3, q4, q5, q6⟩
    obtain ⟨b1, b2, b3⟩ := back (s := AS.mk s.t s.loc (s.H ++ [.lrec r0])) hM1 q3 q4 q5 q6
    obtain ⟨d', hd'⟩ : ∃ d' : Cx, d' = ⟨d.w, d.Fz, fun sh j ver => if sh then d.lam true j ver else if j < (AS.mk s.t s.loc (s.H ++ [.lrec r0])).loc.length then c1.lam false j ver else d.lam false j ver⟩ := ⟨_, rfl⟩
    rw [← hd'] at b1 b2 b3
    have hdw : d.w = d'.w := by rw [hd']
    unfold rangeEnd at q1
    split at q1
    · rename_i r1 hr1
      obtain ⟨hbz, q1⟩ := q1
      have hl' : d'.lam true s.H.length 0 = some (some ⟨c.w.heap.size + 1, 0, none⟩, 0) := b3.lam _ _ _ _ hlam1
      obtain ⟨L2, hL2, hr2, hM2, hS2⟩ := turn_rec b2 (j := s.H.length) (r := r1) hr1 hl' .exhausted r1.pe
      have hput : ({ L2 with state := .exhausted, pending := r1.pe } : Loop) = { L2 with state := .exhausted } := by rw [← hr2.pe]
      rw [hput] at hM2 hS2
      have hsm : setM (mem (s.loc ++ R) H') true s.H.length (.lrec { r1 with st := .exhausted }) = (AS.mk s.t (s.loc ++ R) (H'.set s.H.length (.lrec { r1 with st := .exhausted }))).mem := by
        funext sh
        cases sh <;> simp [setM, AS.mem]
      have hpe : ({ r1 with st := .exhausted, pe := r1.pe } : LRec) = { r1 with st := .exhausted } := rfl
      rw [hpe, hsm] at hM2 hS2
      have hS : Step c s.mem ⟨d'.w.putObj (c.w.heap.size + 1) (.loop { L2 with state := .exhausted }), d'.Fz, d'.lam⟩ (AS.mk s.t (s.loc ++ R) (H'.set s.H.length (.lrec { r1 with st := .exhausted }))).mem := hS1.trans (b3.trans hS2 hM1) hi.mem
      have hleS := hS.le hi.mem
      have hend := run_endLoop (P := x.P) hL2 (by rw [hr2.st]; exact hbz)
      have hDef : DefsOK c0 ⟨d'.w.putObj (c.w.heap.size + 1) (.loop { L2 with state := .exhausted }), d'.Fz, d'.lam⟩ (AS.mk s.t (s.loc ++ R) (H'.set s.H.length (.lrec { r1 with st := .exhausted }))).mem ([{ target := .collected c.w.heap.size, args := #[] }] ++ a.defers) := by
        have h1 : DefsOK c0 c1 (AS.mk s.t s.loc (s.H ++ [.lrec r0])).mem ([{ target := .collected c.w.heap.size, args := #[] }] ++ a.defers) := by
          have hold := hi.defs.step hS1
          refine ⟨?_, ?_⟩
          · simp only [List.singleton_append, List.nodup_cons]
            refine ⟨?_, hold.1⟩
            intro hmem
            obtain ⟨D, k⟩ := hi.defs.2 _ hmem
            have := k.eq
            simp at this
            have := k.hi
            omega
          · intro q hq
            simp only [List.singleton_append, List.mem_cons] at hq
            rcases hq with rfl | hq
            · refine ⟨c.w.heap.size, rfl, hi.ev.size, ?_, ?_, ?_, ?_⟩
              · rw [hc1]
                show c.w.heap.size < ((c.w.alloc (.deferred (some []))).alloc (.loop L0)).heap.size
                simp only [World.size_alloc]
                omega
              · rw [hc1]
                exact ((Turn.alloc (c.w.alloc (.deferred (some []))) (.loop L0) (fun _ => False)).same _ (by simp) (fun h => h)).trans (World.alloc_heap_new c.w _)
              · intro sh j ho
                rcases hpush.2.own sh j c.w.heap.size (by rw [hmem1]; rw [hc1] at ho; exact ho) with h1 | ⟨sh', j', h1⟩
                · simp at h1
                  omega
                · have := Owns.lt hi.mem h1
                  omega
              · rw [hc1]
                intro hf
                have := hi.mem.fzl _ hf
                omega
            · exact hold.2 q hq
        exact (h1.step b3).step hS2
      have hInv : Inv x c0 H0 N ⟨s.t, s.loc ++ R, H'.set s.H.length (.lrec { r1 with st := .exhausted })⟩ ⟨d'.w.putObj (c.w.heap.size + 1) (.loop { L2 with state := .exhausted }), d'.Fz, d'.lam⟩ { a with defers := [{ target := .collected c.w.heap.size, args := #[] }] ++ a.defers } := by
        refine ⟨hM2, hi.ev.step hS, ?_, fun i => VR_mono hleS (hi.tr i), hi.size, hDef⟩
        have := hi.len
        have h9 : (AS.mk s.t s.loc (s.H ++ [.lrec r0])).H.length ≤ H'.length := q6
        simp at h9 ⊢
        omega
      rw [hdw]
      obtain ⟨pe, hpe2⟩ : ∃ pe, pe = L2.pending := ⟨_, rfl⟩
      refine ⟨pe, _, by rw [hpe2]; exact hend, ?_⟩
      have hpe3 : pe = r1.pe := hpe2.trans hr2.pe
      clear hpe2
      rw [hpe3]
      split at q1
      · rename_i hpe0
        rw [hpe0]
        exact ⟨_, _, rfl, q1, hInv⟩
      · rename_i hpe0
        rw [hpe0]
        exact wpIn_ret ⟨_, _, rfl, q1, hInv⟩
      · rename_i i hpe0
        rw [hpe0]
        exact wpIn_exit ⟨_, _, rfl, q1, hInv⟩
      · exact q1.elim
    · exact q1.elim
end Go.Abs
/- A shared row of one's own becomes a private one at the end; nil as an empty row. -/
set_option linter.unusedVariables false
set_option linter.unusedSimpArgs false
namespace Go.Abs
open Go.RowKit

mutual
def mwV (j k : Nat) : AV → AV
  | .own true i ver => if i = j then .own false k ver else .own true i ver
  | .mapr true i => if i = j then .mapr false k else .mapr true i
  | .ref true i ver p off => if i = j then .ref false k ver p off else .ref true i ver p off
  | .agg vs => .agg (mwVs j k vs)
  | v => v
def mwVs (j k : Nat) : List AV → List AV
  | [] => []
  | v :: vs => mwV j k v :: mwVs j k vs
end
/-- The valuation in which it is shared. -/
def unLam (lam : Lam) (j k : Nat) : Lam := fun sh i ver => if sh = false ∧ i = k then lam true j ver else lam sh i ver

mutual
theorem mwV_CR {c : Cx} {j k : Nat} (hk : ∀ ver, c.lam false k ver = none) : ∀ (v : AV) (cs : List Value), CR c v cs → CR ⟨c.w, c.Fz, unLam c.lam j k⟩ (mwV j k v) cs ∧ (mwV j k v).isAgg = v.isAgg
  | .own true i ver, cs, h => by
    rw [mwV]
    rw [CR] at h
    obtain ⟨a, cap, hl, hn, rfl⟩ := h
    split
    · rename_i e
      subst e
      exact ⟨by rw [CR]; exact ⟨a, cap, by simp [unLam, hl], hn, rfl⟩, rfl⟩
    · exact ⟨by rw [CR]; exact ⟨a, cap, by simp [unLam, hl], hn, rfl⟩, rfl⟩
  | .mapr true i, cs, h => by
    rw [mwV]
    rw [CR] at h
    obtain ⟨a, cap, hl, rfl⟩ := h
    split
    · rename_i e
      subst e
      exact ⟨by rw [CR]; exact ⟨a, cap, by simp [unLam, hl], rfl⟩, rfl⟩
    · exact ⟨by rw [CR]; exact ⟨a, cap, by simp [unLam, hl], rfl⟩, rfl⟩
  | .ref true i ver p off, cs, h => by
    rw [mwV]
    rw [CR] at h
    obtain ⟨a, cap, hl, rfl⟩ := h
    split
    · rename_i e
      subst e
      exact ⟨by rw [CR]; exact ⟨a, cap, by simp [unLam, hl], rfl⟩, rfl⟩
    · exact ⟨by rw [CR]; exact ⟨a, cap, by simp [unLam, hl], rfl⟩, rfl⟩
  | .agg vs, cs, h => by
    rw [mwV]
    rw [CR] at h
    obtain ⟨css, h, rfl⟩ := h
    refine ⟨?_, rfl⟩
    rw [CR]
    exact ⟨css, mwVs_CR hk vs css h, rfl⟩
  | .own false i ver, cs, h => by rw [mwV]; exact ⟨CR_mono (unLam_le hk) _ _ h, rfl⟩; all_goals simp
  | .mapr false i, cs, h => by rw [mwV]; exact ⟨CR_mono (unLam_le hk) _ _ h, rfl⟩; all_goals simp
  | .ref false i ver p off, cs, h => by rw [mwV]; exact ⟨CR_mono (unLam_le hk) _ _ h, rfl⟩; all_goals simp
  | .any, cs, h => by rw [mwV]; exact ⟨CR_mono (unLam_le hk) _ _ h, rfl⟩; all_goals simp
  | .bool _, cs, h => by rw [mwV]; exact ⟨CR_mono (unLam_le hk) _ _ h, rfl⟩; all_goals simp
  | .int _ _, cs, h => by rw [mwV]; exact ⟨CR_mono (unLam_le hk) _ _ h, rfl⟩; all_goals simp
  | .str _, cs, h => by rw [mwV]; exact ⟨CR_mono (unLam_le hk) _ _ h, rfl⟩; all_goals simp
  | .arr _ _, cs, h => by rw [mwV]; exact ⟨CR_mono (unLam_le hk) _ _ h, rfl⟩; all_goals simp
  | .lit _ _, cs, h => by rw [mwV]; exact ⟨CR_mono (unLam_le hk) _ _ h, rfl⟩; all_goals simp
  | .nilS, cs, h => by rw [mwV]; exact ⟨CR_mono (unLam_le hk) _ _ h, rfl⟩; all_goals simp
  | .pin _, cs, h => by rw [mwV]; exact ⟨CR_mono (unLam_le hk) _ _ h, rfl⟩; all_goals simp
  | .nilP, cs, h => by rw [mwV]; exact ⟨CR_mono (unLam_le hk) _ _ h, rfl⟩; all_goals simp
  | .func _ _ _, cs, h => by rw [mwV]; exact ⟨CR_mono (unLam_le hk) _ _ h, rfl⟩; all_goals simp
  | .nilF, cs, h => by rw [mwV]; exact ⟨CR_mono (unLam_le hk) _ _ h, rfl⟩; all_goals simp
  | .nilM, cs, h => by rw [mwV]; exact ⟨CR_mono (unLam_le hk) _ _ h, rfl⟩; all_goals simp
  | .iface _ _, cs, h => by rw [mwV]; exact ⟨CR_mono (unLam_le hk) _ _ h, rfl⟩; all_goals simp
  | .nilI, cs, h => by rw [mwV]; exact ⟨CR_mono (unLam_le hk) _ _ h, rfl⟩; all_goals simp
  | .tup _, cs, h => by rw [CR] at h; exact h.elim
  | .yld _ _, cs, h => by rw [mwV]; exact ⟨CR_mono (unLam_le hk) _ _ h, rfl⟩; all_goals simp
  | .win _ _ _ _ _, cs, h => by rw [mwV]; exact ⟨CR_mono (unLam_le hk) _ _ h, rfl⟩; all_goals simp
theorem mwVs_CR {c : Cx} {j k : Nat} (hk : ∀ ver, c.lam false k ver = none) : ∀ (vs : List AV) (css : List (List Value)), CRs c vs css → CRs ⟨c.w, c.Fz, unLam c.lam j k⟩ (mwVs j k vs) css
  | [], css, h => by rw [mwVs]; rw [CRs] at h ⊢; exact h
  | v :: vs, css, h => by
    rw [mwVs]
    rw [CRs] at h ⊢
    obtain ⟨x, xs, e, h1, h2⟩ := h
    exact ⟨x, xs, e, (mwV_CR hk v x h1).1, mwVs_CR hk vs xs h2⟩
theorem unLam_le {c : Cx} {j k : Nat} (hk : ∀ ver, c.lam false k ver = none) : c.le ⟨c.w, c.Fz, unLam c.lam j k⟩ :=
  ⟨fun _ h => h, fun _ _ => rfl, fun sh i ver q h => by
    simp only [unLam]
    split
    · rename_i e
      obtain ⟨rfl, rfl⟩ := e
      rw [hk] at h; cases h
    · exact h⟩
end
theorem mwV_VR {c : Cx} {j k : Nat} (hk : ∀ ver, c.lam false k ver = none) {v : AV} {m : Value} (h : VR c v m) : VR ⟨c.w, c.Fz, unLam c.lam j k⟩ (mwV j k v) m := by
  cases v with
  | any => rw [mwV]; trivial; all_goals simp
  | tup vs => rw [mwV]; exact VR_mono (unLam_le hk) h; all_goals simp
  | _ =>
    obtain ⟨cs, h, rfl⟩ := h
    obtain ⟨h1, h2⟩ := mwV_CR (j := j) hk _ cs h
    have : vOf (mwV j k _) cs = vOf _ cs := vOf_same h2 cs
    rw [← this]
    exact VR_of_CR h1

def AS.unshare (s : AS) (j : Nat) : AS := ⟨s.t.map fun p => (p.1, mwV j s.loc.length p.2), s.loc ++ (match s.H[j]? with | some ob => [ob] | none => []), s.H.set j .dead⟩

theorem inv_unshareA {x : X} {N : Nat} {c0 : Cx} {H0 : List AO} {s : AS} {c : Cx} {a : Act} (j : Nat) {ob : AO} (ho : s.H[j]? = some ob) (hoo : ob.owned = true) (hi : Inv x c0 H0 N s c a) : ∃ d, d.w = c.w ∧ Inv x c0 H0 N (s.unshare j) d a := by
  have hM := hi.mem
  have hjl := (List.getElem?_eq_some_iff.1 ho).1
  obtain ⟨k, hkd⟩ : ∃ k, k = s.loc.length := ⟨_, rfl⟩
  have hk : ∀ ver, c.lam false k ver = none := by
    intro ver
    cases hl : c.lam false k ver with
    | none => rfl
    | some q =>
      obtain ⟨u, hu, _⟩ := hM.dom _ _ _ _ hl
      have := getlt hu
      simp [AS.mem] at this
      omega
  have hle := unLam_le (j := j) hk
  have es : s.unshare j = ⟨s.t.map fun p => (p.1, mwV j k p.2), s.loc ++ [ob], s.H.set j .dead⟩ := by
    simp only [AS.unshare, ho, hkd]
  rw [es]
  let M' : Mem := mem (s.loc ++ [ob]) (s.H.set j .dead)
  have hat : ∀ sh i o, (M' sh)[i]? = some o → (sh = true ∧ i = j ∧ o = .dead) ∨ (sh = false ∧ i = k ∧ o = ob) ∨ (¬ (sh = true ∧ i = j) ∧ ¬ (sh = false ∧ i = k) ∧ (s.mem sh)[i]? = some o) := by
    intro sh i o h
    cases sh with
    | true =>
      simp only [M', mem_true] at h
      by_cases e : i = j
      · subst e
        rw [List.getElem?_set_self hjl] at h
        cases h
        exact .inl ⟨rfl, rfl, rfl⟩
      · rw [List.getElem?_set_ne (Ne.symm e)] at h
        exact .inr (.inr ⟨by simp [e], by simp, h⟩)
    | false =>
      simp only [M', mem_false] at h
      by_cases e : i = k
      · subst e
        rw [hkd, List.getElem?_append_right (Nat.le_refl _)] at h
        simp at h
        subst h
        exact .inr (.inl ⟨rfl, rfl, rfl⟩)
      · have hlt : i < s.loc.length := by
          have := (List.getElem?_eq_some_iff.1 h).1
          simp at this
          omega
        rw [List.getElem?_append_left hlt] at h
        exact .inr (.inr ⟨by simp, by simp [e], h⟩)
  have hobj : ∀ pl o, ObjAt c pl o → ObjAt ⟨c.w, c.Fz, unLam c.lam j k⟩ pl o := fun pl o h => ObjAt_keep h hle (fun _ _ _ => rfl)
  have hown : ∀ sh i m, Owns (unLam c.lam j k) M' sh i m → (sh = false ∧ i = k ∧ Owns c.lam s.mem true j m) ∨ (¬ (sh = true ∧ i = j) ∧ ¬ (sh = false ∧ i = k) ∧ Owns c.lam s.mem sh i m) := by
    rintro sh i m ⟨o, ad, cap, h1, h2, h3, h4⟩
    rcases hat sh i o h1 with ⟨rfl, rfl, rfl⟩ | ⟨rfl, rfl, rfl⟩ | ⟨e1, e2, h5⟩
    · simp [AO.owned] at h2
    · refine .inl ⟨rfl, rfl, o, ad, cap, ho, hoo, ?_, h4⟩
      simpa [unLam] using h3
    · refine .inr ⟨e1, e2, o, ad, cap, h5, h2, ?_, h4⟩
      simp only [unLam, e2, if_false] at h3
      exact h3
  refine ⟨⟨c.w, c.Fz, unLam c.lam j k⟩, rfl, ⟨⟨?_, ?_, ?_, ?_, hM.fzl⟩, ⟨hi.ev.size, hi.ev.os, hi.ev.tape, hi.ev.output, hi.ev.same, hi.ev.fz, hi.ev.fzn, ?_, ?_⟩, ?_, ?_, hi.size, ?_⟩⟩
  · intro sh i o pl h1 h2
    rcases hat sh i o h1 with ⟨rfl, rfl, rfl⟩ | ⟨rfl, rfl, rfl⟩ | ⟨e1, e2, h5⟩
    · trivial
    · refine hobj _ _ (hM.obj true j o pl ho ?_)
      simpa [unLam] using h2
    · refine hobj _ _ (hM.obj sh i o pl h5 ?_)
      simp only [unLam, e2, if_false] at h2
      exact h2
  · intro sh i ver pl h
    simp only [unLam] at h
    split at h
    · rename_i e
      have e1 := e.1
      have e2 := e.2
      subst e1
      rw [e2]
      obtain ⟨o, h1, h2⟩ := hM.dom _ _ _ _ h
      have h1' : s.H[j]? = some o := h1
      rw [ho] at h1'
      cases h1'
      refine ⟨ob, ?_, h2⟩
      show (s.loc ++ [ob])[k]? = _
      simp [hkd]
    · rename_i e
      obtain ⟨o, h1, h2⟩ := hM.dom _ _ _ _ h
      have hlt := getlt h1
      cases sh with
      | false =>
        refine ⟨o, ?_, h2⟩
        show (s.loc ++ [ob])[i]? = _
        have hlt' : i < s.loc.length := hlt
        rw [List.getElem?_append_left hlt']
        exact h1
      | true =>
        by_cases e' : i = j
        · subst e'
          refine ⟨.dead, ?_, fun hq => by simp [AO.owned] at hq⟩
          show (s.H.set i .dead)[i]? = _
          rw [List.getElem?_set_self hjl]
        · refine ⟨o, ?_, h2⟩
          show (s.H.set j .dead)[i]? = _
          rw [List.getElem?_set_ne (Ne.symm e')]
          exact h1
  · intro sh i sh' i' m h1 h2
    rcases hown sh i m h1 with ⟨rfl, rfl, h3⟩ | ⟨e1, _, h3⟩ <;> rcases hown sh' i' m h2 with ⟨rfl, rfl, h4⟩ | ⟨e2, _, h4⟩
    · exact ⟨rfl, rfl⟩
    · obtain ⟨rfl, rfl⟩ := hM.sep _ _ _ _ m h3 h4
      exact (e2 ⟨rfl, rfl⟩).elim
    · obtain ⟨rfl, rfl⟩ := hM.sep _ _ _ _ m h3 h4
      exact (e1 ⟨rfl, rfl⟩).elim
    · exact hM.sep _ _ _ _ m h3 h4
  · intro sh i m h
    rcases hown sh i m h with ⟨_, _, h3⟩ | ⟨_, _, h3⟩
    · exact hM.unf _ _ m h3
    · exact hM.unf _ _ m h3
  · intro i ver p hi' h
    have := hi.ev.lam i ver p hi' h
    exact hle.lam _ _ _ _ this
  · intro sh i m h
    rcases hown sh i m h with ⟨_, _, h3⟩ | ⟨_, _, h3⟩
    · exact hi.ev.own _ _ m h3
    · exact hi.ev.own _ _ m h3
  · have := hi.len
    simp
    omega
  · intro i
    have hl : (AS.mk (s.t.map fun p => (p.1, mwV j k p.2)) (s.loc ++ [ob]) (s.H.set j .dead)).get i = mwV j k (s.get i) := by
      show ((s.t.map fun p => (p.1, mwV j k p.2)).lookup i).getD .any = mwV j k ((s.t.lookup i).getD .any)
      generalize s.t = l
      induction l with
      | nil =>
        show AV.any = mwV j k .any
        rw [mwV]
        all_goals simp
      | cons p l ih =>
        simp only [List.map_cons]
        rw [List.lookup_cons, List.lookup_cons]
        cases hq : (i == p.1) with
        | true => simp
        | false => simpa using ih
    rw [hl]
    exact mwV_VR hk (hi.tr i)
  · refine hi.defs.less rfl ?_ (fun _ h => h)
    intro sh i m h
    rcases hown sh i m h with ⟨_, _, h3⟩ | ⟨_, _, h3⟩
    · exact ⟨_, _, h3⟩
    · exact ⟨_, _, h3⟩

theorem inv_unshare {x : X} {N : Nat} {c0 : Cx} {H0 : List AO} {s : AS} {c : Cx} {a : Act} (j : Nat) {ob : AO} (hjk : H0.length ≤ j) (ho : s.H[j]? = some ob) (hoo : ob.owned = true) (hi : Inv x c0 H0 N s c a) : ∃ d, d.w = c.w ∧ Inv x c0 H0 N (s.unshare j) d a := inv_unshareA j ho hoo hi
/-- A shared row is taken as one's own; its place stays dead. -/
theorem leads_unshare {s : AS} (j : Nat) {ob : AO} (ho : s.H[j]? = some ob) (hoo : ob.owned = true) : Leads s (s.unshare j) := fun _ _ _ _ _ _ _ hi => inv_unshareA j ho hoo hi

end Go.Abs
/- Regions, bodies of functions, contracts out of triples. -/
set_option linter.unusedVariables false
set_option linter.unusedSimpArgs false
namespace Go.Abs
open Go.RowKit

/-- The operations one by one, each by what it asks. -/
def POps (x : X) (ops : List Oper) (K : AS → Prop) : List Oper → AS → Prop
  | [], s => K s
  | o :: rest, s => match o.guard with
    | none => Pv x o s (fun v s' => POps x ops K rest (s'.put o.dst v))
    | some (j, want) => match (ops[j]?).bind (·.dst) with
      | none => False
      | some d => match s.get d with
        | .bool b => (b = want → Pv x o s (fun v s' => POps x ops K rest (s'.put o.dst v))) ∧ (b ≠ want → POps x ops K rest (s.put o.dst (.tup [])))
        | .tup _ => POps x ops K rest (s.put o.dst (.tup []))
        | _ => False

theorem OpW.mono {x : X} {o : Oper} {s : AS} {K K' : AV → AS → Prop} (h : OpW x o s K) (hk : ∀ v s, K v s → K' v s) : OpW x o s K' := by
  intro c a Q hM ho
  refine wpX_mono ?_ (h c a Q hM ho)
  rintro a' w' ⟨v, s', d, m, h1, h2, h3, h4⟩
  exact ⟨v, s', d, m, h1, h2, hk _ _ h3, h4⟩

theorem AOps_of_POps {x : X} {ops : Array Oper} {K : AS → Prop} : ∀ {l : List Oper} {s : AS}, POps x ops.toList K l s → AOps x ops K l s
  | [], s, h => h
  | o :: rest, s, h => by
    unfold POps at h
    unfold AOps guardP
    split at h
    · rename_i hg
      simp only [hg]
      exact (pv_sound h).mono fun v s' h => AOps_of_POps h
    · rename_i j want hg
      simp only [hg]
      have e : (ops.toList[j]?) = ops[j]? := by simp
      rw [e] at h
      split at h
      · exact h.elim
      · rename_i d hd
        simp only [hd]
        split at h
        · rename_i b hb
          simp only [hb]
          exact ⟨fun e => (pv_sound (h.1 e)).mono fun v s' h => AOps_of_POps h, fun e => AOps_of_POps (h.2 e)⟩
        · rename_i hb
          simp only [hb]
          exact AOps_of_POps h
        · exact h.elim

section
variable {x : X} {N : Nat} {s : AS} {Q : Exit → AS → Prop}

/-- A region whose order is the text's. -/
theorem awp_regionA {id : Nat} {ops : Array Oper} (h : AOps x ops (Q .normal) ops.toList s) : AWP x N (.region id ops false) s Q := by
  intro hc c0 H0 c a hi
  simp only [codeOK, Array.all_eq_true'] at hc
  refine wpIn_region ?_
  rw [List.range_eq_range']
  refine wpOps_of_AOps (N := N) (c0 := c0) (H0 := H0) (K := Q .normal) ?_ ?_ ?_ ops.size 0 s c a (by simp) (by simpa using h) hi
  · intro o ho d hd
    have := hc o (by simpa using ho)
    rw [hd] at this
    simp only [Bool.and_eq_true, decide_eq_true_eq] at this
    exact this.2
  · intro o ho
    have := hc o (by simpa using ho)
    simp only [Bool.and_eq_true, Bool.not_eq_true'] at this
    exact this.1
  · intro s' c' a' hq hi'
    exact ⟨s', c', rfl, hq, hi'⟩

theorem AOps_mono {ops : Array Oper} {K K' : AS → Prop} (hk : ∀ s, K s → K' s) : ∀ {l : List Oper} {s : AS}, AOps x ops K l s → AOps x ops K' l s
  | [], s, h => hk s h
  | o :: rest, s, h => by
    unfold AOps guardP at *
    split
    · rename_i hg
      simp only [hg] at h
      exact h.mono fun v s' h => AOps_mono hk h
    · rename_i j want hg
      simp only [hg] at h
      split
      · rename_i hd; simp only [hd] at h
      · rename_i d hd
        simp only [hd] at h
        split
        · rename_i b hb
          simp only [hb] at h
          exact ⟨fun e => (h.1 e).mono fun v s' h => AOps_mono hk h, fun e => AOps_mono hk (h.2 e)⟩
        · rename_i vs hb
          simp only [hb] at h
          exact AOps_mono hk h
        · rename_i hb hb2
          split at h
          · rename_i b' hb'; exact (hb b' hb').elim
          · rename_i b' hb'; exact (hb2 b' hb').elim
          · exact h

/-- Of the temporaries only those named are kept. -/
def AS.keep (s : AS) (ks : List Nat) : AS := { s with t := ks.map fun k => (k, s.get k) }

theorem keep_get (s : AS) (ks : List Nat) (i : Nat) : (s.keep ks).get i = s.get i ∨ (s.keep ks).get i = .any := by
  unfold AS.keep AS.get
  simp only
  induction ks with
  | nil => right; rfl
  | cons k ks ih =>
    simp only [List.map_cons, List.lookup_cons]
    by_cases e : i = k
    · subst e; simp
    · have e' : (i == k) = false := by simpa using e
      simp only [e']
      exact ih

theorem leads_keep (s : AS) (ks : List Nat) : Leads s (s.keep ks) := by
  intro x N c0 H0 c a h0 hi
  refine ⟨c, rfl, ⟨hi.mem, hi.ev, hi.len, ?_, hi.size, hi.defs⟩⟩
  intro i
  rcases keep_get s ks i with h | h
  · rw [h]; exact hi.tr i
  · rw [h]; trivial

/-- The triple whose end may be weakened. -/
theorem AWP.post {code : Code} (h : AWP x N code s (fun e s' => ∃ s'', Leads s' s'' ∧ Q e s'')) : AWP x N code s Q := by
  intro hc c0 H0 c a hi
  refine wpIn_mono (h hc c0 H0 c a hi) ?_
  rintro e a' w' ⟨s', d, rfl, ⟨s'', hl, hq⟩, hi'⟩
  obtain ⟨d', e', hi''⟩ := hl x N c0 H0 d a' hi'.len hi'
  exact ⟨s'', d', e', hq, hi''⟩

/-- A region behind which only some temporaries are kept. -/
theorem awp_regionK (ks : List Nat) {id : Nat} {ops : Array Oper} (h : POps x ops.toList (fun s' => Q .normal (s'.keep ks)) ops.toList s) : AWP x N (.region id ops false) s Q :=
  AWP.post (awp_regionA (Q := fun e s' => ∃ s'', Leads s' s'' ∧ Q e s'') (AOps_mono (fun s' hq => ⟨_, leads_keep s' ks, hq⟩) (AOps_of_POps h)))
end

/-! ### What a body returns -/
def notTup : AV → Bool
  | .tup _ => false
  | _ => true
def resV (x : X) (s : AS) : ResultVar → Option AV
  | .tmp t => if notTup (s.get t) then some (s.get t) else none
  | .cell a t => match x.ti t, s.get a with
    | some i, .ref sh j ver p off => match s.find sh j ver with
      | some (_, _, ob) => match ob.sub p with
        | some (u, off') => if off' = off ∧ i.isAgg = u.isAgg ∧ i.size = u.size ∧ notTup u = true then some u else none
        | none => none
      | none => none
    | _, _ => none
def resVs (x : X) (s : AS) : List ResultVar → Option (List AV)
  | [] => some []
  | r :: rs => (resV x s r).bind fun v => (resVs x s rs).map fun vs => v :: vs
def retV (x : X) (fn : Func) (s : AS) : Option AV := (resVs x s fn.results.toList).map fun vs => match vs with | [v] => v | vs => .tup vs

theorem VR_any_or {c : Cx} {v : AV} {m : Value} (h : VR c v m) (hn : notTup v = true) : v = .any ∨ VR1 c v m := by
  cases v with
  | any => exact .inl rfl
  | tup vs => simp [notTup] at hn
  | _ => exact .inr h

def resM (a : Act) : ResultVar → Sem Value
  | .tmp t => pure (a.tmps.getD t undef)
  | .cell ad t => do loadVar t (← asAddr (a.tmps.getD ad undef))

theorem resV_run {x : X} {s : AS} {c : Cx} {a : Act} (hM : MemR c s.mem) (ht : TR c s a) {r : ResultVar} {v : AV} (h : resV x s r = some v) :
    ∃ m, (resM a r).run x.P c.w = .ok m c.w ∧ VR c v m ∧ notTup v = true := by
  cases r with
  | tmp t =>
    simp only [resV] at h
    split at h
    · rename_i hn; cases h; exact ⟨_, rfl, ht t, hn⟩
    · cases h
  | cell ad t =>
    simp only [resV] at h
    split at h
    · rename_i i sh j ver p off hi hg
      split at h
      · rename_i sh' j' ob hf
        split at h
        · rename_i u off' hs
          split at h
          · rename_i hc
            obtain ⟨rfl, h1, h2, h3⟩ := hc
            cases h
            have hv := ht ad
            rw [hg] at hv
            obtain ⟨pa, cap, hl, hm⟩ := VR_ref hv
            obtain ⟨hob, hl'⟩ := find_spec hM hf hl
            obtain ⟨xs, hx, hmem⟩ := obj_read hM hob hl' hs
            have hti := tok x hi
            refine ⟨vOf v xs, ?_, VR_of_CR hx, h3⟩
            simp only [resM, hm, asAddr, Sem.run_bind, Sem.run_pure, Result.andThen_ok]
            exact loadVar_run hx hmem (by rw [hti.agg, h1]) (by rw [hti.size, h2])
          · cases h
        · cases h
      · cases h
    · cases h

theorem resVs_run {x : X} {s : AS} {c : Cx} {a : Act} (hM : MemR c s.mem) (ht : TR c s a) : ∀ {rs : List ResultVar} {vs : List AV}, resVs x s rs = some vs →
    ∃ ms : List Value, (rs.mapM (resM a)).run x.P c.w = .ok ms c.w ∧ vs.length = ms.length ∧ (∀ (i : Nat) (v : AV) (m : Value), vs[i]? = some v → ms[i]? = some m → VR c v m ∧ notTup v = true)
  | [], vs, h => by
    simp [resVs] at h
    subst h
    exact ⟨[], by simp [List.mapM_nil], rfl, by simp⟩
  | r :: rs, vs, h => by
    simp only [resVs, Option.bind_eq_some_iff, Option.map_eq_some_iff] at h
    obtain ⟨v, hv, vs', hvs, rfl⟩ := h
    obtain ⟨m, h1, h2, h3⟩ := resV_run hM ht hv
    obtain ⟨ms, h4, h5, h6⟩ := resVs_run hM ht hvs
    refine ⟨m :: ms, ?_, by simp [h5], ?_⟩
    · rw [List.mapM_cons, Sem.run_bind, h1]
      simp only [Result.andThen_ok, Sem.run_bind, h4, Sem.run_pure]
    · intro i u y hu hy
      cases i with
      | zero => simp at hu hy; subst hu; subst hy; exact ⟨h2, h3⟩
      | succ i => simp at hu hy; exact h6 i u y hu hy

theorem retV_run {x : X} {fn : Func} {s : AS} {c : Cx} {a : Act} (hM : MemR c s.mem) (ht : TR c s a) {r : AV} (h : retV x fn s = some r) : ∃ m, (results fn a.tmps).run x.P c.w = .ok m c.w ∧ VR c r m := by
  unfold retV at h
  rw [Option.map_eq_some_iff] at h
  obtain ⟨vs, hvs, hr⟩ := h
  obtain ⟨ms, h1, h2, h3⟩ := resVs_run hM ht hvs
  have hrun : (fn.results.mapM (resM a)).run x.P c.w = .ok ms.toArray c.w := by
    rw [Array.mapM_eq_mapM_toList, Sem.run_map, h1]
    rfl
  have hres : (results fn a.tmps).run x.P c.w = .ok (if h : ms.toArray.size = 1 then ms.toArray[0] else .tuple ms.toArray) c.w := by
    have e : results fn a.tmps = (do let vs ← fn.results.mapM (resM a); pure (if h : vs.size = 1 then vs[0] else .tuple vs)) := by
      unfold results
      congr 1
    rw [e, Sem.run_bind, hrun]
    rfl
  refine ⟨_, hres, ?_⟩
  clear hres hrun h1 hvs
  match vs, ms, h2, hr, h3 with
  | [v], [m], _, hr, h3 =>
    simp at hr
    subst hr
    simpa using (h3 0 v m rfl rfl).1
  | [], [], _, hr, _ =>
    simp at hr
    subst hr
    refine ⟨[], by simp, rfl, by simp⟩
  | v :: v' :: vs, m :: m' :: ms, hl, hr, h3 =>
    simp at hr
    subst hr
    refine ⟨m :: m' :: ms, by simp, hl, ?_⟩
    intro i u y hu hy
    obtain ⟨k1, k2⟩ := h3 i u y hu hy
    exact VR_any_or k1 k2

/-- What the end of a body is to show: 'm' shared objects are left behind. -/
def FPost (x : X) (fn : Func) (n m : Nat) (Q : AV → List AO → List AO → Prop) : Exit → AS → Prop
  | .normal, s | .ret, s => match retV x fn s with
    | some r0 => m ≤ s.H.length ∧ (r0.locs m).Nodup ∧ (∀ o ∈ s.H.take m, o.ok (pm m) = true) ∧ (match r0.outR (r0.locs m) n m, pickR m s.loc (r0.locs m) with
      | some r, some R => Q r R (s.H.take m)
      | _, _ => False)
    | none => False
  | _, _ => False

def args (vs : List AV) : List (Nat × AV) := vs.zipIdx.map fun p => (p.2, p.1)

theorem args_lookup : ∀ (vs : List AV) (k i : Nat), ((vs.zipIdx k).map fun p => (p.2, p.1)).lookup i = if k ≤ i then vs[i - k]? else none
  | [], k, i => by simp
  | v :: vs, k, i => by
    rw [List.zipIdx_cons, List.map_cons, List.lookup_cons, args_lookup vs (k + 1) i]
    by_cases e : i = k
    · subst e; simp
    · have e' : (i == k) = false := by simpa using e
      simp only [e']
      by_cases h : k ≤ i
      · have h1 : k + 1 ≤ i := by omega
        have h2 : i - k = (i - (k + 1)) + 1 := by omega
        simp [h, h1, h2]
      · have h1 : ¬ k + 1 ≤ i := by omega
        simp [h, h1]

/-- The same, a row that was shared meanwhile taken back first. -/
def FPostU (x : X) (fn : Func) (n m : Nat) (Q : AV → List AO → List AO → Prop) (e : Exit) (s : AS) : Prop :=
  FPost x fn n m Q e s ∨ ∃ k ob, m ≤ k ∧ s.H[k]? = some ob ∧ ob.owned = true ∧ FPost x fn n m Q e (s.unshare k)

/-- A function's contract out of a triple over its body. -/
theorem acall_of {x : X} {f : FuncId} {fn : Func} {code : Code} {vs : List AV} {n : Nat} {H : List AO} {Q : AV → List AO → List AO → Prop} (m : Nat) (hf : x.P.funcs[f]? = some fn) (hb : fn.body = some code)
    (hent : ∀ (as : Array Value) (w : World), (callFunc f as).run x.P w = .ok (.enter f as) w) (hc : codeOK fn.ntmps code = true) (ha : vs.length ≤ fn.ntmps) (hm : H.length ≤ m) (hrd : x.rd = none)
    (h : AWP x fn.ntmps code ⟨args vs, [], H⟩ (FPostU x fn n m Q)) : ACall x f vs n H Q := by
  refine ⟨hent, ?_⟩
  intro c ms hM hl hv
  refine (callsIn_wide (n := 0)).1 (callsIn_of_wp_marks (F := Fence.wide) hf hb trivial ?_)
  have hi : Inv x c H fn.ntmps ⟨args vs, [], H⟩ c { tmps := ms.toArray ++ Array.replicate (fn.ntmps - ms.toArray.size) undef, defers := [] } := by
    refine ⟨hM, Ev.refl c _ H ?_ rfl, Nat.le_refl _, ?_, ?_, DefsOK.nil⟩
    · rintro j m ⟨o, a, cap, h1, _⟩
      simp [AS.mem] at h1
    · intro i
      have hlk := args_lookup vs 0 i
      simp only [Nat.zero_le, if_true, Nat.sub_zero] at hlk
      show VR c (((args vs).lookup i).getD .any) _
      unfold args
      rw [hlk]
      cases hvi : vs[i]? with
      | none => trivial
      | some v =>
        have hlt := (List.getElem?_eq_some_iff.1 hvi).1
        have hmi : ms[i]? = some (ms[i]'(by omega)) := List.getElem?_eq_getElem (by omega)
        have := hv i v _ hvi hmi
        simp only [Option.getD_some]
        have hg : (ms.toArray ++ Array.replicate (fn.ntmps - ms.toArray.size) undef).getD i undef = ms[i]'(by omega) := by
          rw [Array.getD_eq_getD_getElem?, Array.getElem?_append_left (by simp; omega)]
          simp [hmi]
        rw [hg]
        exact this
    · simp; omega
  have hfen : fen x.rd = Fence.wide := by rw [hrd]; rfl
  have hwp := h hc c H c _ hi
  rw [hfen] at hwp
  refine wpIn_mono hwp ?_
  rintro e a w ⟨s0, d0, rfl, hq0, hi0⟩
  obtain ⟨s, d, hdw, hq, hi'⟩ : ∃ s d, d.w = d0.w ∧ FPost x fn n m Q e s ∧ Inv x c H fn.ntmps s d a := by
    rcases hq0 with hq | ⟨k, ob, h1, h2, h3, h4⟩
    · exact ⟨s0, d0, rfl, hq, hi0⟩
    · obtain ⟨d, e1, e2⟩ := inv_unshare k (by omega) h2 h3 hi0
      exact ⟨_, d, e1, h4, e2⟩
  rw [← hdw]
  have key : (match retV x fn s with
    | some r0 => m ≤ s.H.length ∧ (r0.locs m).Nodup ∧ (∀ o ∈ s.H.take m, o.ok (pm m) = true) ∧ (match r0.outR (r0.locs m) n m, pickR m s.loc (r0.locs m) with
      | some r, some R => Q r R (s.H.take m)
      | _, _ => False)
    | none => False) → LeavesInM Fence.wide 0 x.P fn a.tmps (fun e w' => ∃ (m : Value) (r : AV) (R H' : List AO) (d : Cx), e = .returned m ∧ d.w = w' ∧ Q r R H' ∧ VR d r m ∧ MemR d (mem (List.replicate n .dead ++ R) H') ∧ Ev c H d (mem (List.replicate n .dead ++ R) H') ∧ (∀ j ver, j < n → d.lam false j ver = none) ∧ H.length ≤ H'.length) a.defers .returning d.w := by
    intro hq
    split at hq
    · rename_i r0 hr0
      obtain ⟨h1, h2, h3, h4⟩ := hq
      split at h4
      · rename_i r R hr hR
        have hall : ∀ (ds : List Deferred) (d : Cx), MemR d s.mem → Ev c H d s.mem → TR d s a → DefsOK c d s.mem ds → LeavesInM Fence.wide 0 x.P fn a.tmps (fun e w' => ∃ (m : Value) (r : AV) (R H' : List AO) (d : Cx), e = .returned m ∧ d.w = w' ∧ Q r R H' ∧ VR d r m ∧ MemR d (mem (List.replicate n .dead ++ R) H') ∧ Ev c H d (mem (List.replicate n .dead ++ R) H') ∧ (∀ j ver, j < n → d.lam false j ver = none) ∧ H.length ≤ H'.length) ds .returning d.w := by
          intro ds
          induction ds with
          | nil =>
            intro d hM hE hT _
            obtain ⟨v, hv1, hv2⟩ := retV_run hM hT hr0
            obtain ⟨g1, g2, g3⟩ := out_mem hM hE hm h1 h2 hR h3 (n := n)
            exact ⟨v, hv1, v, r, R, s.H.take m, ⟨d.w, d.Fz, outLam d.lam (r0.locs m) n m⟩, rfl, rfl, h4, outR_VR hr hv2, g1, g2, g3, by rw [List.length_take]; omega⟩
          | cons q ds ih =>
            intro d hM hE hT hD
            obtain ⟨hnd, hall⟩ := hD
            obtain ⟨D, k⟩ := hall q List.mem_cons_self
            have hle := put_le (o := .deferred none) k.fz
            refine ⟨by simp, .inl ⟨D, d.w.putObj D (.deferred none), by rw [k.eq], run_takeDeferred k.at_, ?_⟩⟩
            refine ih ⟨d.w.putObj D (.deferred none), d.Fz, d.lam⟩ (put_MemR hM k.own k.fz) (put_Ev hE k.lo) (hT.mono hle) ⟨(List.nodup_cons.1 hnd).2, ?_⟩
            intro q' hq'
            obtain ⟨D', k'⟩ := hall q' (List.mem_cons_of_mem _ hq')
            have hne : D' ≠ D := by
              rintro rfl
              have : q' = q := by rw [k.eq, k'.eq]
              rw [this] at hq'
              exact (List.nodup_cons.1 hnd).1 hq'
            exact ⟨D', k'.eq, k'.lo, by simpa using k'.hi, (World.putObj_heap_other hne).trans k'.at_, k'.own, k'.fz⟩
        exact hall a.defers d hi'.mem hi'.ev hi'.tr hi'.defs
      · exact h4.elim
    · exact hq.elim
  cases e with
  | normal => exact key hq
  | ret => exact key hq
  | _ => exact hq.elim

end Go.Abs
/- Evaluation by 'simp': what each operation asks, as equations; contracts from bodies. -/
set_option linter.unusedVariables false
set_option linter.unusedSimpArgs false
namespace Go.Abs
open Go.RowKit

theorem callFunc_enter {P : Program} {f : FuncId} {fn : Func} {code : Code} (hf : P.funcs[f]? = some fn) (hn : (fn.name == "runtime.NumGoroutine") = false) (hb : fn.body = some code) (xs : Array Value) (w : World) : (callFunc f xs).run P w = .ok (.enter f xs) w := by
  unfold callFunc
  simp only [Sem.run_bind, run_program, Result.andThen_ok, hf, hn, hb, Option.isNone_some, Bool.false_eq_true, if_false, Sem.run_pure]

def retVs (x : X) (rs : List ResultVar) (s : AS) : Option AV := (resVs x s rs).map fun vs => match vs with | [v] => v | vs => .tup vs

def FEnd (x : X) (rs : List ResultVar) (n m : Nat) (Q : AV → List AO → List AO → Prop) (s : AS) : Prop := match retVs x rs s with
    | some r0 => m ≤ s.H.length ∧ (r0.locs m).Nodup ∧ (∀ o ∈ s.H.take m, o.ok (pm m) = true) ∧ (match r0.outR (r0.locs m) n m, pickR m s.loc (r0.locs m) with
      | some r, some R => Q r R (s.H.take m)
      | _, _ => False)
    | none => False

def FOut (x : X) (rs : List ResultVar) (n m : Nat) (Q : AV → List AO → List AO → Prop) : Exit → AS → Prop
  | .normal, s | .ret, s => FEnd x rs n m Q s
  | _, _ => False

theorem acallF {x : X} {f : FuncId} (fn : Func) {code : Code} (rs : List ResultVar) (N : Nat) {vs : List AV} {n : Nat} {H : List AO} {Q : AV → List AO → List AO → Prop} (m : Nat) (hf : x.P.funcs[f]? = some fn) (hb : fn.body = some code) (hr : fn.results.toList = rs)
    (hN : fn.ntmps = N) (hn : (fn.name == "runtime.NumGoroutine") = false) (hc : codeOK N code = true) (ha : vs.length ≤ N) (hm : H.length ≤ m) (hrd : x.rd = none)
    (h : AWP x N code ⟨args vs, [], H⟩ (FOut x rs n m Q)) : ACall x f vs n H Q := by
  subst hN
  subst hr
  refine acall_of m hf hb (callFunc_enter hf hn hb) hc ha hm hrd (h.mono ?_)
  intro e s hq
  exact .inl (by cases e <;> exact hq)

/-- As 'FOut', a shared row of one's own taken back first. -/
def FOutU (x : X) (rs : List ResultVar) (n m k : Nat) (Q : AV → List AO → List AO → Prop) (e : Exit) (s : AS) : Prop :=
  m ≤ k ∧ (∃ ob, s.H[k]? = some ob ∧ ob.owned = true) ∧ FOut x rs n m Q e (s.unshare k)
theorem acallFU {x : X} {f : FuncId} (fn : Func) {code : Code} (rs : List ResultVar) (N : Nat) {vs : List AV} {n : Nat} {H : List AO} {Q : AV → List AO → List AO → Prop} (m k : Nat) (hf : x.P.funcs[f]? = some fn) (hb : fn.body = some code) (hr : fn.results.toList = rs)
    (hN : fn.ntmps = N) (hn : (fn.name == "runtime.NumGoroutine") = false) (hc : codeOK N code = true) (ha : vs.length ≤ N) (hm : H.length ≤ m) (hrd : x.rd = none)
    (h : AWP x N code ⟨args vs, [], H⟩ (FOutU x rs n m k Q)) : ACall x f vs n H Q := by
  subst hN
  subst hr
  refine acall_of m hf hb (callFunc_enter hf hn hb) hc ha hm hrd (h.mono ?_)
  rintro e s ⟨h1, ⟨ob, h2, h3⟩, hq⟩
  exact .inr ⟨k, ob, h1, h2, h3, by cases e <;> exact hq⟩

/-- What is there, if it is. -/
def got {α : Type} (o : Option α) (K : α → Prop) : Prop := match o with | some a => K a | none => False
@[congr] theorem got_congr {α : Type} {o o' : Option α} {K : α → Prop} (h : o = o') : got o K = got o' K := by rw [h]
@[simp] theorem got_some {α : Type} (a : α) (K : α → Prop) : got (some a) K = K a := rfl
@[simp] theorem got_none {α : Type} (K : α → Prop) : got none K = False := rfl
def gotE {α : Type} (o : Option α) (K : α → Prop) (Z : Prop) : Prop := match o with | some a => K a | none => Z
@[congr] theorem gotE_congr {α : Type} {o o' : Option α} {K : α → Prop} {Z : Prop} (h : o = o') : gotE o K Z = gotE o' K Z := by rw [h]
@[simp] theorem gotE_some {α : Type} (a : α) (K : α → Prop) (Z : Prop) : gotE (some a) K Z = K a := rfl
@[simp] theorem gotE_none {α : Type} (K : α → Prop) (Z : Prop) : gotE none K Z = Z := rfl
def boolV : AV → Option Bool | .bool b => some b | _ => none
def structV (i : TI) : Option (List FI × List AV) := match i.k, i.zero with | .struct fs, .agg zs => some (fs, zs) | _, _ => none
def arrV (i : TI) : Option (Nat × Nat × List AV) := match i.k, i.zero with | .array _ esz _, .arr sz zs => some (esz, sz, zs) | _, _ => none
def sliceV (i : TI) : Option (Nat × TypeId) := match i.k with | .slice esz e => some (esz, e) | _ => none
def refV : AV → Option AV | .ref sh j ver p off => some (.ref sh j ver p off) | _ => none
def convV (i : TI) (v : AV) : Option AV := match i.k, v with | .int k', .int _ n => some (.int k' (k'.wrap n)) | _, _ => none
def tupV (v : AV) (j : Nat) : Option AV := match v with | .tup vs => vs[j]? | _ => none
def rowV : AO → Option (Nat × List AV) | .row sz vs => some (sz, vs) | _ => none
def mpV : AO → Option (List (Value × Value)) | .mp kvs => some kvs | _ => none
def lenQ (i : TI) (v : AV) : Option Int := match i.k with | .slice _ _ => (match lenV v with | some n => some (n : Int) | none => none) | .string => (match v with | .str b => some (b.size : Int) | _ => none) | _ => none
def minV (a b : AV) : Option AV := match a, b with | .int k a, .int k' b => if k = k' then some (.int k (if b < a then b else a)) else none | _, _ => none
def maxV (a b : AV) : Option AV := match a, b with | .int k a, .int k' b => if k = k' then some (.int k (if b > a then b else a)) else none | _, _ => none

section
variable {x : X} {N : Nat} {s : AS} {K : AV → AS → Prop} {d : Option Tmp} {ty : TypeId} {ps : String} {af : Array Edge} {g : Option (Nat × Bool)}
@[simp] theorem pv_move (y) : Pv x ⟨d, .move y, ty, ps, af, g⟩ s K = K (s.ev y) s := rfl
@[simp] theorem pv_assign (y) : Pv x ⟨d, .assign y, ty, ps, af, g⟩ s K = K (s.ev y) s := rfl
@[simp] theorem pv_alloc (t) : Pv x ⟨d, .alloc t, ty, ps, af, g⟩ s K = asTI x t fun i => K (.ref false s.loc.length 0 [] 0) (s.push (.cell i.zero)) := rfl
@[simp] theorem pv_box (t y) : Pv x ⟨d, .box t y, ty, ps, af, g⟩ s K = ((s.ev y).solid = true ∧ K (.ref false s.loc.length 0 [] 0) (s.push (.cell (s.ev y)))) := rfl
@[simp] theorem pv_pick (q y z) : Pv x ⟨d, .pick q y z, ty, ps, af, g⟩ s K = got (boolV (s.ev q)) fun b => K (if b then s.ev y else s.ev z) s := by
  show (match s.ev q with | .bool b => (b = true → K (s.ev y) s) ∧ (b = false → K (s.ev z) s) | _ => False) = _
  cases s.ev q <;> simp [boolV, got]
  rename_i b
  cases b <;> simp
@[simp] theorem pv_build (t ps') : Pv x ⟨d, .build t ps', ty, ps, af, g⟩ s K = asTI x t fun i => gotE (structV i) (fun q => placesOK q.1 q.2 = true ∧ fits s q.2 ps'.toList ∧ K (.agg (setAll s q.2 ps'.toList)) s) (got (arrV i) fun q => q.2.1 = q.1 ∧ fits s q.2.2 ps'.toList ∧ K (.arr q.2.1 (setAll s q.2.2 ps'.toList)) s) := by
  show (asTI x t fun i => (match i.k, i.zero with
    | .struct fs, .agg zs => placesOK fs zs = true ∧ fits s zs ps'.toList ∧ K (.agg (setAll s zs ps'.toList)) s
    | .array _ esz _, .arr sz zs => sz = esz ∧ fits s zs ps'.toList ∧ K (.arr sz (setAll s zs ps'.toList)) s
    | _, _ => False)) = _
  congr 1
  funext i
  unfold structV arrV got gotE
  cases i.k <;> cases i.zero <;> rfl
@[simp] theorem pv_buildSlice (t n ps') : Pv x ⟨d, .buildSlice t n ps', ty, ps, af, g⟩ s K = asTI x t fun i => got (sliceV i) fun q => asTI x q.2 fun ie => ie.zero.size = q.1 ∧ 0 < q.1 ∧ n * q.1 ≤ 16777216 ∧ fits s (List.replicate n ie.zero) ps'.toList ∧ K (.own false s.loc.length n) (s.push (.row q.1 (setAll s (List.replicate n ie.zero) ps'.toList))) := by
  show (asTI x t fun i => (match i.k with
    | .slice esz e => asTI x e fun ie => ie.zero.size = esz ∧ 0 < esz ∧ n * esz ≤ 16777216 ∧ fits s (List.replicate n ie.zero) ps'.toList ∧ K (.own false s.loc.length n) (s.push (.row esz (setAll s (List.replicate n ie.zero) ps'.toList)))
    | _ => False)) = _
  congr 1
  funext i
  unfold sliceV got
  cases i.k <;> rfl
@[simp] theorem pv_load (t y) : Pv x ⟨d, .load t y, ty, ps, af, g⟩ s K = asTI x t fun i => pLoad s i (s.ev y) K := rfl
@[simp] theorem pv_store (t y z) : Pv x ⟨d, .store t y z, ty, ps, af, g⟩ s K = asTI x t fun i => pStore s i (s.ev y) (s.ev z) K := rfl
@[simp] theorem pv_nilCheck (y) : Pv x ⟨d, .nilCheck y, ty, ps, af, g⟩ s K = got (refV (s.ev y)) fun v => K v s := by
  show (match s.ev y with | .ref sh j ver p off => K (.ref sh j ver p off) s | _ => False) = _
  cases s.ev y <;> rfl
@[simp] theorem pv_binOp (op t y z yt) : Pv x ⟨d, .binOp op t y z yt, ty, ps, af, g⟩ s K = gotE (binV op (s.ev y) (s.ev z)) (fun v => K v s) (pCmp x.P op t (s.ev y) (s.ev z) (fun v => K v s)) := by
  show (match binV op (s.ev y) (s.ev z) with | some v => K v s | none => pCmp x.P op t (s.ev y) (s.ev z) (fun v => K v s)) = _
  cases binV op (s.ev y) (s.ev z) <;> rfl
@[simp] theorem pv_slice (t y lo hi) : Pv x ⟨d, .slice t y lo hi none, ty, ps, af, g⟩ s K = asTI x t fun i => pSlice s i (s.ev y) lo hi (fun v => K v s) := rfl
@[simp] theorem pv_makeMap (t) : Pv x ⟨d, .makeMap t none, ty, ps, af, g⟩ s K = K (.mapr false s.loc.length) (s.push (.mp [])) := rfl
@[simp] theorem pv_lookup (t y z) : Pv x ⟨d, .lookup t y z false, ty, ps, af, g⟩ s K = pLookup x s t (s.ev y) (s.ev z) K := rfl
@[simp] theorem pv_mapUpdate (t y z u) : Pv x ⟨d, .mapUpdate t y z u, ty, ps, af, g⟩ s K = pMapUpd x s t (s.ev y) (s.ev z) (s.ev u) K := rfl
@[simp] theorem pv_unOp (op t y) : Pv x ⟨d, .unOp op t y, ty, ps, af, g⟩ s K = got (unV op (s.ev y)) fun v => K v s := by
  show (match unV op (s.ev y) with | some v => K v s | none => False) = _
  cases unV op (s.ev y) <;> rfl
@[simp] theorem pv_convert (src dst y) : Pv x ⟨d, .convert src dst y, ty, ps, af, g⟩ s K = asTI x src fun _ => asTI x dst fun i => got (convV i (s.ev y)) fun v => K v s := by
  show (asTI x src fun _ => asTI x dst fun i => (match i.k, s.ev y with
    | .int k', .int _ n => K (.int k' (k'.wrap n)) s
    | _, _ => False)) = _
  congr 1
  funext _
  congr 1
  funext i
  unfold convV got
  cases i.k <;> cases s.ev y <;> rfl
@[simp] theorem pv_makeFunc (fn first caps) : Pv x ⟨d, .makeFunc fn first caps, ty, ps, af, g⟩ s K = (first = #[] ∧ (∀ y ∈ caps.toList, (s.ev y).solid = true) ∧ K (.func fn [] (caps.toList.map s.ev)) s) := rfl
@[simp] theorem pv_fieldAddr (t y j) : Pv x ⟨d, .fieldAddr t y j, ty, ps, af, g⟩ s K = asTI x t fun i => pFieldAddr s i j (s.ev y) K := rfl
@[simp] theorem pv_field (t y j) : Pv x ⟨d, .field t y j, ty, ps, af, g⟩ s K = asTI x t fun i => pField s i j (s.ev y) K := rfl
@[simp] theorem pv_indexAddr (t y z) : Pv x ⟨d, .indexAddr t y z, ty, ps, af, g⟩ s K = asTI x t fun i => pIndexAddr s i (s.ev y) (s.ev z) K := rfl
@[simp] theorem pv_index (t y z) : Pv x ⟨d, .index t y z, ty, ps, af, g⟩ s K = asTI x t fun i => pIndex s i (s.ev y) (s.ev z) K := rfl
@[simp] theorem pv_extract (y j) : Pv x ⟨d, .extract y j, ty, ps, af, g⟩ s K = got (tupV (s.ev y) j) fun v => K v s := by
  show (match s.ev y with | .tup vs => (match vs[j]? with | some u => K u s | none => False) | _ => False) = _
  cases s.ev y <;> first | rfl | skip
  rename_i vs
  simp only [tupV, got]
  cases vs[j]? <;> rfl
@[simp] theorem pv_callop (c) : Pv x ⟨d, .call c, ty, ps, af, g⟩ s K = pCall x s c K := rfl

/-! What each asks, by what stands there. -/
@[simp] theorem pLoad_ref (i sh j ver p off) : pLoad s i (.ref sh j ver p off) K = got (s.find sh j ver) fun r => got (r.2.2.sub p) fun q => q.2 = off ∧ i.isAgg = q.1.isAgg ∧ i.size = q.1.size ∧ K q.1 s := by
  show (match s.find sh j ver with | some (_, _, ob) => (match ob.sub p with | some (u, off') => off' = off ∧ i.isAgg = u.isAgg ∧ i.size = u.size ∧ K u s | none => False) | none => False) = _
  unfold got
  cases s.find sh j ver with
  | none => rfl
  | some r =>
    obtain ⟨a, b, ob⟩ := r
    simp only
    cases ob.sub p <;> rfl
@[simp] theorem pLoad_pin (i u) : pLoad s i (.pin u) K = (i.isAgg = u.isAgg ∧ i.size = u.size ∧ K u s) := rfl
@[simp] theorem pStore_ref (i sh j ver p off w) : pStore s i (.ref sh j ver p off) w K = got (s.find sh j ver) fun r => got (r.2.2.sub p) fun q => got (r.2.2.upd p w) fun ob' => q.2 = off ∧ r.2.2.owned = true ∧ w.solid = true ∧ i.size = w.size ∧ K .any (s.setMem r.1 r.2.1 ob') := by
  show (match s.find sh j ver with | some (sh', j', ob) => (match ob.sub p, ob.upd p w with | some (u, off'), some ob' => off' = off ∧ ob.owned = true ∧ w.solid = true ∧ i.size = w.size ∧ K .any (s.setMem sh' j' ob') | _, _ => False) | none => False) = _
  unfold got
  cases s.find sh j ver with
  | none => rfl
  | some r =>
    obtain ⟨a, b, ob⟩ := r
    simp only
    cases ob.sub p <;> cases ob.upd p w <;> rfl
@[simp] theorem pFieldAddr_ref (fs a b z j sh k ver p off) : pFieldAddr s ⟨.struct fs, a, b, z⟩ j (.ref sh k ver p off) K = got fs[j]? fun f => f.size ≠ 0 ∧ K (.ref sh k ver (p ++ [j]) (off + f.off)) s := by
  unfold pFieldAddr got
  simp only
  cases fs[j]? <;> rfl
@[simp] theorem pFieldAddr_pin (fs a b z j v) : pFieldAddr s ⟨.struct fs, a, b, z⟩ j (.pin v) K = got fs[j]? fun f => f.size ≠ 0 ∧ got (v.sub [j]) fun q => q.2 = f.off ∧ K (.pin q.1) s := by
  unfold pFieldAddr got
  simp only
  cases fs[j]? with
  | none => rfl
  | some f => cases v.sub [j] <;> rfl
@[simp] theorem pField_st (fs a b z j v) : pField s ⟨.struct fs, a, b, z⟩ j v K = got fs[j]? fun f => got (v.sub [j]) fun q => v.isAgg = true ∧ q.2 = f.off ∧ f.size = q.1.size ∧ f.agg = q.1.isAgg ∧ K q.1 s := by
  unfold pField got
  simp only
  cases fs[j]? <;> cases v.sub [j] <;> rfl
@[simp] theorem pIx_own (esz e : Nat) (z : AV) (a b : Nat) (sh : Bool) (j ver : Nat) (k : IntKind) (n : Int) : pIndexAddr s ⟨.slice esz e, a, b, z⟩ (.own sh j ver) (.int k n) K = (0 ≤ n ∧ n < ver ∧ K (.ref sh j ver [n.toNat] (n.toNat * esz)) s) := rfl
@[simp] theorem pIx_arr (m esz : Nat) (ea : Bool) (z : AV) (a b : Nat) (sh : Bool) (j ver : Nat) (p : List Nat) (off : Nat) (k : IntKind) (n : Int) : pIndexAddr s ⟨.array m esz ea, a, b, z⟩ (.ref sh j ver p off) (.int k n) K = (0 ≤ n ∧ n < m ∧ K (.ref sh j ver (p ++ [n.toNat]) (off + n.toNat * esz)) s) := rfl
@[simp] theorem pIx_lit (sz esz e : Nat) (z : AV) (a b : Nat) (vs : List AV) (k : IntKind) (n : Int) : pIndexAddr s ⟨.slice esz e, a, b, z⟩ (.lit sz vs) (.int k n) K = (0 ≤ n ∧ sz = esz ∧ got vs[n.toNat]? fun u => K (.pin u) s) := by
  unfold pIndexAddr got
  simp only
  cases vs[n.toNat]? <;> rfl
@[simp] theorem pIndex_arr (m esz : Nat) (ea : Bool) (z : AV) (a b : Nat) (v : AV) (k : IntKind) (n : Int) : pIndex s ⟨.array m esz ea, a, b, z⟩ v (.int k n) K = (0 ≤ n ∧ n < m ∧ v.isAgg = true ∧ got (v.sub [n.toNat]) fun q => q.2 = n.toNat * esz ∧ esz = q.1.size ∧ ea = q.1.isAgg ∧ K q.1 s) := by
  unfold pIndex got
  simp only
  cases v.sub [n.toNat] <;> rfl
@[simp] theorem pIndex_str (z : AV) (a b : Nat) (bs : ByteArray) (k : IntKind) (n : Int) : pIndex s ⟨.string, a, b, z⟩ (.str bs) (.int k n) K = (0 ≤ n ∧ got bs[n.toNat]? fun u => K (.int .u8 u.toNat) s) := by
  unfold pIndex got
  simp only
  cases bs[n.toNat]? <;> rfl
@[simp] theorem pAppend_nil (e esz w) : pAppend x s e esz .nilS w K = asTI x e fun ie => ie.zero.size = esz ∧ 0 < ie.bytes ∧ 0 < esz ∧ got (s.elems esz w) fun ys => ys.length * ie.bytes ≤ 140737488355328 ∧ K (.own false s.loc.length ys.length) (s.push (.row esz ys)) := by
  unfold pAppend got
  congr 1
  funext ie
  cases s.elems esz w <;> rfl
@[simp] theorem pAppend_own (e esz sh j ver w) : pAppend x s e esz (.own sh j ver) w K = asTI x e fun ie => ie.zero.size = esz ∧ 0 < ie.bytes ∧ 0 < esz ∧ got (s.elems esz w) fun ys => got ((s.mem sh)[j]?) fun ob => got (rowV ob) fun q => q.1 = esz ∧ q.2.length = ver ∧ (q.2.length + ys.length) * ie.bytes ≤ 140737488355328 ∧ K (.own sh j (q.2.length + ys.length)) (s.setMem sh j (.row esz (q.2 ++ ys))) := by
  unfold pAppend got
  congr 1
  funext ie
  cases s.elems esz w with
  | none => rfl
  | some ys =>
    show (ie.zero.size = esz ∧ 0 < ie.bytes ∧ 0 < esz ∧ (match (s.mem sh)[j]? with
        | some (.row sz vs) => sz = esz ∧ vs.length = ver ∧ (vs.length + ys.length) * ie.bytes ≤ 140737488355328 ∧ K (.own sh j (vs.length + ys.length)) (s.setMem sh j (.row esz (vs ++ ys)))
        | _ => False)) = _
    cases (s.mem sh)[j]? with
    | none => rfl
    | some ob => cases ob <;> rfl
def pvCall (x : X) (s : AS) (f : AV) (as : List AV) (K : AV → AS → Prop) : Prop :=
  match f with
  | .func (.func fid) [] cap =>
      (∀ v ∈ as ++ cap, v.solid = true) ∧ (∀ v ∈ (s.expos (as ++ cap)).1, v.ok shd = true) ∧ (∀ ob ∈ (s.expos (as ++ cap)).2.H, ob.ok shd = true) ∧
        ACall x fid (s.expos (as ++ cap)).1 (s.expos (as ++ cap)).2.loc.length (s.expos (as ++ cap)).2.H
          (fun r R H' => K r { (s.expos (as ++ cap)).2 with loc := (s.expos (as ++ cap)).2.loc ++ R, H := H' })
  | .yld true j => (∀ v ∈ as, v.solid = true) ∧ (∀ v ∈ as, v.ok shd = true) ∧ (∀ ob ∈ s.H, ob.ok shd = true) ∧ YCall x j as s.H (fun r H' => K r { s with H := H' })
  | _ => False
@[simp] theorem pCall_value (f as ats) : pCall x s ⟨.value f, as, ats⟩ K = pvCall x s (s.ev f) (as.toList.map s.ev) K := rfl
@[simp] theorem pvCall_func (fid : FuncId) (cap as : List AV) : pvCall x s (.func (.func fid) [] cap) as K = ((∀ v ∈ as ++ cap, v.solid = true) ∧ (∀ v ∈ (s.expos (as ++ cap)).1, v.ok shd = true) ∧ (∀ ob ∈ (s.expos (as ++ cap)).2.H, ob.ok shd = true) ∧
        ACall x fid (s.expos (as ++ cap)).1 (s.expos (as ++ cap)).2.loc.length (s.expos (as ++ cap)).2.H
          (fun r R H' => K r { (s.expos (as ++ cap)).2 with loc := (s.expos (as ++ cap)).2.loc ++ R, H := H' })) := rfl
@[simp] theorem pvCall_yld (j : Nat) (as : List AV) : pvCall x s (.yld true j) as K = ((∀ v ∈ as, v.solid = true) ∧ (∀ v ∈ as, v.ok shd = true) ∧ (∀ ob ∈ s.H, ob.ok shd = true) ∧ YCall x j as s.H (fun r H' => K r { s with H := H' })) := rfl
@[simp] theorem pCall_len (y t) : pCall x s ⟨.builtin .len, #[y], #[t]⟩ K = asTI x t fun i => got (lenQ i (s.ev y)) fun n => K (.int .i64 n) s := by
  show (asTI x t fun i => (match i.k with
      | .slice _ _ => (match lenV (s.ev y) with | some n => K (.int .i64 n) s | none => False)
      | .string => (match s.ev y with | .str b => K (.int .i64 b.size) s | _ => False)
      | _ => False)) = _
  congr 1
  funext i
  unfold lenQ got
  cases i.k <;> first | rfl | (cases s.ev y <;> rfl)
@[simp] theorem pCall_append (y z t t2) : pCall x s ⟨.builtin .append, #[y, z], #[t, t2]⟩ K = asTI x t fun i => asTI x t2 fun i2 => got (sliceV i) fun q => got (sliceV i2) fun _ => pAppend x s q.2 q.1 (s.ev y) (s.ev z) K := by
  show (asTI x t fun i => asTI x t2 fun i2 => (match i.k, i2.k with
      | .slice esz e, .slice _ _ => pAppend x s e esz (s.ev y) (s.ev z) K
      | _, _ => False)) = _
  congr 1
  funext i
  congr 1
  funext i2
  unfold sliceV got
  cases i.k <;> cases i2.k <;> rfl
@[simp] theorem pCall_min (y z ats) : pCall x s ⟨.builtin .min, #[y, z], ats⟩ K = got (minV (s.ev y) (s.ev z)) fun v => K v s := by
  show (match s.ev y, s.ev z with | .int k a, .int k' b => k = k' ∧ K (.int k (if b < a then b else a)) s | _, _ => False) = _
  unfold minV got
  cases s.ev y <;> cases s.ev z <;> first | rfl | skip
  rename_i k a k' b
  by_cases e : k = k' <;> simp [e]
@[simp] theorem pCall_max (y z ats) : pCall x s ⟨.builtin .max, #[y, z], ats⟩ K = got (maxV (s.ev y) (s.ev z)) fun v => K v s := by
  show (match s.ev y, s.ev z with | .int k a, .int k' b => k = k' ∧ K (.int k (if b > a then b else a)) s | _, _ => False) = _
  unfold maxV got
  cases s.ev y <;> cases s.ev z <;> first | rfl | skip
  rename_i k a k' b
  by_cases e : k = k' <;> simp [e]
def cmpK (op : BinOp) (b : Bool) (K : AV → Prop) : Prop := match op with | .eql => K (.bool b) | .neq => K (.bool (!b)) | _ => False
@[simp] theorem cmpK_eql (b : Bool) (K : AV → Prop) : cmpK .eql b K = K (.bool b) := rfl
@[simp] theorem cmpK_neq (b : Bool) (K : AV → Prop) : cmpK .neq b K = K (.bool (!b)) := rfl
@[simp] theorem pCmp_bool {P : Program} (op : BinOp) (t : TypeId) (p q : Bool) (K : AV → Prop) : pCmp P op t (.bool p) (.bool q) K = (P.underlying t = some .bool ∧ cmpK op (p == q) K) := rfl
@[simp] theorem pCmp_nil {P : Program} (op : BinOp) (t : TypeId) (K : AV → Prop) : pCmp P op t .nilS .nilS K = ((∃ e, P.underlying t = some (.slice e)) ∧ cmpK op true K) := by cases op <;> rfl
@[simp] theorem pCmp_lit {P : Program} (op : BinOp) (t : TypeId) (z : Nat) (vs : List AV) (K : AV → Prop) : pCmp P op t (.lit z vs) .nilS K = (vs ≠ [] ∧ (∃ e, P.underlying t = some (.slice e)) ∧ cmpK op false K) := by cases op <;> rfl
@[simp] theorem pCmp_flat {P : Program} (op : BinOp) (t : TypeId) (a b : AV) (K : AV → Prop) (h : a.isAgg = true) : pCmp P op t a b K = got a.flatI fun la => got b.flatI fun lb => b.isAgg = true ∧ lb.map (·.1) = la.map (·.1) ∧ EqTy P t (la.map (·.1)) ∧ cmpK op (la.map (·.2) == lb.map (·.2)) K := by
  have e : pCmp P op t a b K = (match a.flatI, b.flatI with
    | some la, some lb => a.isAgg = true ∧ b.isAgg = true ∧ lb.map (·.1) = la.map (·.1) ∧ EqTy P t (la.map (·.1)) ∧ (match op with | .eql => K (.bool (la.map (·.2) == lb.map (·.2))) | .neq => K (.bool (!(la.map (·.2) == lb.map (·.2)))) | _ => False)
    | _, _ => False) := by
    unfold pCmp
    cases a <;> simp [AV.isAgg] at h <;> rfl
  rw [e]
  unfold got
  cases a.flatI <;> cases b.flatI <;> first | rfl | skip
  rename_i la lb
  simp only [h, true_and]
  cases op <;> rfl
@[simp] theorem pSlice_lit (esz e a b z sz vs lo hi) (K : AV → Prop) : pSlice s ⟨.slice esz e, a, b, z⟩ (.lit sz vs) lo hi K = (sz = esz ∧ got (bnd s 0 lo) fun l => got (bnd s vs.length hi) fun h => l ≤ h ∧ h ≤ vs.length ∧ K (.lit sz ((vs.take h).drop l))) := by
  unfold pSlice got
  simp only
  cases bnd s 0 lo <;> cases bnd s vs.length hi <;> rfl
@[simp] theorem pSlice_nil (esz e a b z lo hi) (K : AV → Prop) : pSlice s ⟨.slice esz e, a, b, z⟩ .nilS lo hi K = (got (bnd s 0 lo) fun l => got (bnd s 0 hi) fun h => l = 0 ∧ h = 0 ∧ K .nilS) := by
  unfold pSlice got
  simp only
  cases bnd s 0 lo <;> cases bnd s 0 hi <;> rfl
@[simp] theorem pLookup_mapr (t sh j k n) : pLookup x s t (.mapr sh j) (.int k n) K = got ((s.mem sh)[j]?) fun ob => got (mpV ob) fun kvs => got (mapOf x.P t) fun q => q.1 = k ∧ asTI x q.2 fun i => got (lookV k n kvs) fun r => K (lookR i r) s := by
  show (match (s.mem sh)[j]?, mapOf x.P t with
    | some (.mp kvs), some (k', et) => k' = k ∧ asTI x et fun i => (match lookV k n kvs with
      | some r => K (lookR i r) s
      | none => False)
    | _, _ => False) = _
  unfold got
  cases (s.mem sh)[j]? with
  | none => rfl
  | some ob =>
    cases ob <;> first | rfl | skip
    cases mapOf x.P t with
    | none => rfl
    | some q =>
      obtain ⟨a, b⟩ := q
      simp only [mpV]
      congr 2
      funext i
      cases lookV k n _ <;> rfl
@[simp] theorem pMapUpd_mapr (t sh j k n u) : pMapUpd x s t (.mapr sh j) (.int k n) u K = got ((s.mem sh)[j]?) fun ob => got (mpV ob) fun kvs => got (mapOf x.P t) fun q => got (plainV u) fun v => q.1 = k ∧ (lookV k n kvs).isSome = true ∧ K .any (s.setMem sh j (.mp (updV k n v kvs))) := by
  show (match (s.mem sh)[j]?, mapOf x.P t, plainV u with
    | some (.mp kvs), some (k', et), some v => k' = k ∧ (lookV k n kvs).isSome = true ∧ K .any (s.setMem sh j (.mp (updV k n v kvs)))
    | _, _, _ => False) = _
  unfold got
  cases (s.mem sh)[j]? with
  | none => rfl
  | some ob =>
    cases ob <;> first | rfl | skip
    cases mapOf x.P t with
    | none => rfl
    | some q => cases plainV u <;> rfl

@[simp] theorem pops_nil {ops : List Oper} {K : AS → Prop} : POps x ops K [] s = K s := rfl
@[simp] theorem pops_cons {ops : List Oper} {K : AS → Prop} {rest : List Oper} {o : Op} : POps x ops K (⟨d, o, ty, ps, af, none⟩ :: rest) s = Pv x ⟨d, o, ty, ps, af, none⟩ s (fun v s' => POps x ops K rest (s'.put d v)) := rfl
theorem pops_if {ops : List Oper} {K : AS → Prop} {rest : List Oper} {o : Op} {j : Nat} {b : Bool} : POps x ops K (⟨d, o, ty, ps, af, some (j, b)⟩ :: rest) s = (match (ops[j]?).bind (·.dst) with
      | none => False
      | some e => match s.get e with
        | .bool c => (c = b → Pv x ⟨d, o, ty, ps, af, some (j, b)⟩ s (fun v s' => POps x ops K rest (s'.put d v))) ∧ (c ≠ b → POps x ops K rest (s.put d (.tup [])))
        | .tup _ => POps x ops K rest (s.put d (.tup []))
        | _ => False) := rfl

end

@[simp] theorem put_mk {t l H d v} : (AS.mk t l H).put (some d) v = ⟨(d, v) :: t, l, H⟩ := rfl
@[simp] theorem put_none {s : AS} {v} : s.put none v = s := rfl
@[simp] theorem push_mk {t l H o} : (AS.mk t l H).push o = ⟨t, l ++ [o], H⟩ := rfl
@[simp] theorem get_mk {t l H i} : (AS.mk t l H).get i = (t.lookup i).getD .any := rfl
@[simp] theorem ev_tmp {s : AS} {i} : s.ev (.tmp i) = s.get i := rfl
@[simp] theorem ev_int {s : AS} {k n} : s.ev (.const (.int k n)) = .int k n := rfl
@[simp] theorem ev_bool {s : AS} {b} : s.ev (.const (.bool b)) = .bool b := rfl
@[simp] theorem ev_str {s : AS} {b} : s.ev (.const (.string b)) = .str b := rfl
@[simp] theorem ev_nilS {s : AS} : s.ev (.const (.slice none 0 0)) = .nilS := rfl
@[simp] theorem ev_nilP {s : AS} : s.ev (.const (.pointer none)) = .nilP := rfl
@[simp] theorem ev_nilF {s : AS} : s.ev (.const .nilFunc) = .nilF := rfl
@[simp] theorem ev_nilM {s : AS} : s.ev (.const (.map none)) = .nilM := rfl
@[simp] theorem ev_nilI {s : AS} : s.ev (.const .nilIface) = .nilI := rfl
@[simp] theorem ev_func {s : AS} {f} : s.ev (.func f) = .func (.func f) [] [] := rfl
@[simp] theorem setMem_loc {t l H j o} : (AS.mk t l H).setMem false j o = ⟨t, l.set j o, H⟩ := rfl
@[simp] theorem setMem_H {t l H j o} : (AS.mk t l H).setMem true j o = ⟨t, l, H.set j o⟩ := rfl
@[simp] theorem keep_mk {t l H ks} : (AS.mk t l H).keep ks = ⟨ks.map fun k => (k, (AS.mk t l H).get k), l, H⟩ := rfl
@[simp] theorem aThen_normal {next Q s} : aThen next Q .normal s = next s := rfl
@[simp] theorem aThen_ret {next Q s} : aThen next Q .ret s = Q .ret s := rfl
@[simp] theorem aThen_exit {next Q s i} : aThen next Q (.exit i) s = Q (.exit i) s := rfl
@[simp] theorem aBlock_normal {i Q s} : aBlock i Q .normal s = Q .normal s := rfl
@[simp] theorem aBlock_ret {i Q s} : aBlock i Q .ret s = Q .ret s := rfl
@[simp] theorem aBlock_exit {i Q s j} : aBlock i Q (.exit j) s = if j = i then Q .normal s else Q (.exit j) s := rfl
@[simp] theorem FOut_normal {x rs n m Q s} : FOut x rs n m Q .normal s = FEnd x rs n m Q s := rfl
@[simp] theorem FOut_ret {x rs n m Q s} : FOut x rs n m Q .ret s = FEnd x rs n m Q s := rfl
attribute [simp] plainV lookV updV bnd AV.flatI AV.flatIs
attribute [simp] boolV structV arrV sliceV refV convV tupV rowV mpV lenQ minV maxV intBin unV AS.find AV.sub AV.upd AO.sub AO.upd AS.mem mem AO.ver AO.owned AV.size AV.sizes TI.isAgg TK.isAgg setAll fits FEnd retVs resVs resV args AV.locs AV.outR pickR List.lookup
end Go.Abs
/- Code by place: the text of a function is not shown while it is walked through. -/
set_option linter.unusedVariables false
set_option linter.unusedSimpArgs false
namespace Go.Abs
open Go.RowKit

def child : Code → Nat → Code
  | .seq a b, i => if i = 0 then a else b
  | .cond _ a b, i => if i = 0 then a else b
  | .block _ c, _ => c
  | .loop c, _ => c
  | .scope c, _ => c
  | .rangeFunc _ _ a b, i => if i = 0 then a else b
  | c, _ => c
/-- The part of a code at a place (the way is told from its end). -/
def cat (c : Code) : List Nat → Code
  | [] => c
  | i :: p => child (cat c p) i
def bod (fn : Func) : Code := fn.body.getD .skip
/-- The code of a function at a place. -/
def at' (fn : Func) (p : List Nat) : Code := cat (bod fn) p

def kSeq : Code → Bool | .seq _ _ => true | _ => false
def kRet : Code → Bool | .ret => true | _ => false
def kSkip : Code → Bool | .skip => true | _ => false
def kLoop : Code → Bool | .loop _ => true | _ => false
def kScope : Code → Bool | .scope _ => true | _ => false
def kRange : Code → Option (Operand × List Nat) | .rangeFunc g ps _ _ => some (g, ps.toList) | _ => none
def kExit : Code → Option Nat | .exit i => some i | _ => none
def kBlock : Code → Option Nat | .block i _ => some i | _ => none
def kLabel : Code → Option Nat | .label i => some i | _ => none
def kCond : Code → Option Operand | .cond q _ _ => some q | _ => none
def kReg : Code → Option (List Oper) | .region _ ops false => some ops.toList | _ => none

section
variable {x : X} {N : Nat} {s : AS} {Q : Exit → AS → Prop} {fn : Func} {p : List Nat}
theorem at_seq (hk : kSeq (at' fn p) = true) (h : AWP x N (at' fn (0 :: p)) s (aThen (fun s' => AWP x N (at' fn (1 :: p)) s' Q) Q)) : AWP x N (at' fn p) s Q := by
  unfold at' at *
  simp only [cat] at *
  generalize cat (bod fn) p = c at *
  cases c <;> simp [kSeq] at hk
  exact awp_seq h
theorem at_ret (hk : kRet (at' fn p) = true) (h : Q .ret s) : AWP x N (at' fn p) s Q := by
  unfold at' at *
  generalize cat (bod fn) p = c at *
  cases c <;> simp [kRet] at hk
  exact awp_ret h
theorem at_skip (hk : kSkip (at' fn p) = true) (h : Q .normal s) : AWP x N (at' fn p) s Q := by
  unfold at' at *
  generalize cat (bod fn) p = c at *
  cases c <;> simp [kSkip] at hk
  exact awp_skip h
theorem at_exit {i : Nat} (hk : kExit (at' fn p) = some i) (h : Q (.exit i) s) : AWP x N (at' fn p) s Q := by
  unfold at' at *
  generalize cat (bod fn) p = c at *
  cases c <;> simp [kExit] at hk
  subst hk
  exact awp_exit h
theorem at_label {i : Nat} (hk : kLabel (at' fn p) = some i) (h : Q .normal s) : AWP x N (at' fn p) s Q := by
  unfold at' at *
  generalize cat (bod fn) p = c at *
  cases c <;> simp [kLabel] at hk
  exact awp_label h
theorem at_block {i : Nat} (hk : kBlock (at' fn p) = some i) (h : AWP x N (at' fn (0 :: p)) s (aBlock i Q)) : AWP x N (at' fn p) s Q := by
  unfold at' at *
  simp only [cat] at *
  generalize cat (bod fn) p = c at *
  cases c <;> simp [kBlock] at hk
  subst hk
  exact awp_block h
theorem at_cond {q : Operand} {b : Bool} (hk : kCond (at' fn p) = some q) (hq : s.ev q = .bool b) (h1 : b = true → AWP x N (at' fn (0 :: p)) s Q) (h2 : b = false → AWP x N (at' fn (1 :: p)) s Q) : AWP x N (at' fn p) s Q := by
  unfold at' at *
  simp only [cat] at *
  generalize cat (bod fn) p = c at *
  cases c <;> simp [kCond] at hk
  subst hk
  exact awp_cond hq h1 h2
theorem at_loop (n : Nat) (hk : kLoop (at' fn p) = true) (h : ARounds x N (at' fn (0 :: p)) Q n s) : AWP x N (at' fn p) s Q := by
  unfold at' at *
  simp only [cat] at *
  generalize cat (bod fn) p = c at *
  cases c <;> simp [kLoop] at hk
  exact awp_loop n h
theorem at_regK (ks : List Nat) {ops : List Oper} (hk : kReg (at' fn p) = some ops) (h : POps x ops (fun s' => Q .normal (s'.keep ks)) ops s) : AWP x N (at' fn p) s Q := by
  unfold at' at *
  generalize cat (bod fn) p = c at *
  cases c <;> simp [kReg] at hk
  rename_i id o dr
  split at hk
  · rename_i h1
    cases h1
    cases hk
    exact awp_regionK ks h
  · cases hk
def aNoGoto (Q : Exit → AS → Prop) : Exit → AS → Prop
  | .goto _, _ => False
  | e, s => Q e s
theorem awp_scope {c : Code} (hrd : x.rd = none) (h : AWP x N c s (aNoGoto Q)) : AWP x N (.scope c) s Q := by
  intro hc c0 H0 cx a hi
  have hfen : fen x.rd = Fence.wide := by rw [hrd]; rfl
  have hw := h hc c0 H0 cx a hi
  rw [hfen] at hw ⊢
  refine (wpIn_wide (n := 0)).2 (wp_scope_straight ((wpIn_wide (n := 0)).1 (wpIn_mono hw ?_)))
  rintro e a' w' ⟨s', d, h1, h2, h3⟩
  cases e with
  | goto l => exact h2
  | _ => exact ⟨s', d, h1, h2, h3⟩
theorem at_scope (hk : kScope (at' fn p) = true) (h : AWP x N (at' fn (0 :: p)) s (aNoGoto Q)) (hrd : x.rd = none := by rfl) : AWP x N (at' fn p) s Q := by
  unfold at' at *
  simp only [cat] at *
  generalize cat (bod fn) p = c at *
  cases c <;> simp [kScope] at hk
  exact awp_scope hrd h
@[simp] theorem aNoGoto_normal {Q : Exit → AS → Prop} {s : AS} : aNoGoto Q .normal s = Q .normal s := rfl
@[simp] theorem aNoGoto_ret {Q : Exit → AS → Prop} {s : AS} : aNoGoto Q .ret s = Q .ret s := rfl
@[simp] theorem aNoGoto_exit {Q : Exit → AS → Prop} {s : AS} {i : Nat} : aNoGoto Q (.exit i) s = Q (.exit i) s := rfl

theorem at_range {g : Operand} {ps : List Nat} {gf : FuncId} {cap : List AV} (hk : kRange (at' fn p) = some (g, ps)) (hg : s.ev g = .func (.func gf) [] cap) (hcs : ∀ v ∈ cap, v.solid = true) (hco : ∀ v ∈ cap, v.ok shd = true) (ht : ∀ q ∈ s.t, q.2.ok shd = true) (hH : ∀ ob ∈ s.H, ob.ok shd = true)
    (h : ∀ f', ACall x gf (.yld true s.H.length :: cap) s.loc.length (s.H ++ [.lrec ⟨f', N, s.t, ps, at' fn (0 :: p), at' fn (1 :: p), .ready, none⟩]) (fun _ R H' => rangeEnd s.H.length s Q R H')) (hrd : x.rd = none := by rfl) : AWP x N (at' fn p) s Q := by
  unfold at' at *
  simp only [cat] at *
  generalize cat (bod fn) p = c at *
  cases c <;> simp [kRange] at hk
  rename_i g' ps' a b
  obtain ⟨rfl, rfl⟩ := hk
  exact awp_range hrd hg hcs hco ht hH h

/-- A turn of view ahead of a code. -/
theorem at_leads {s' : AS} (hl : Leads s s') (h : AWP x N (at' fn p) s' Q) : AWP x N (at' fn p) s Q := AWP.leads hl h

theorem at_startU {f : FuncId} (rs : List ResultVar) (N : Nat) {vs : List AV} {n : Nat} {H : List AO} {Q : AV → List AO → List AO → Prop} (m k : Nat) (hf : x.P.funcs[f]? = some fn) (hb : fn.body.isSome = true) (hr : fn.results.toList = rs)
    (hN : fn.ntmps = N) (hn : (fn.name == "runtime.NumGoroutine") = false) (hc : codeOK N (at' fn []) = true) (ha : vs.length ≤ N) (hm : H.length ≤ m)
    (h : AWP x N (at' fn []) ⟨args vs, [], H⟩ (FOutU x rs n m k Q)) (hrd : x.rd = none := by rfl) : ACall x f vs n H Q := by
  obtain ⟨code, hcode⟩ := Option.isSome_iff_exists.1 hb
  have e : at' fn [] = code := by simp [at', cat, bod, hcode]
  rw [e] at hc h
  exact acallFU fn rs N m k hf hcode hr hN hn hc ha hm hrd h
theorem at_start {f : FuncId} (rs : List ResultVar) (N : Nat) {vs : List AV} {n : Nat} {H : List AO} {Q : AV → List AO → List AO → Prop} (m : Nat) (hf : x.P.funcs[f]? = some fn) (hb : fn.body.isSome = true) (hr : fn.results.toList = rs)
    (hN : fn.ntmps = N) (hn : (fn.name == "runtime.NumGoroutine") = false) (hc : codeOK N (at' fn []) = true) (ha : vs.length ≤ N) (hm : H.length ≤ m)
    (h : AWP x N (at' fn []) ⟨args vs, [], H⟩ (FOut x rs n m Q)) (hrd : x.rd = none := by rfl) : ACall x f vs n H Q := by
  obtain ⟨code, hcode⟩ := Option.isSome_iff_exists.1 hb
  have e : at' fn [] = code := by simp [at', cat, bod, hcode]
  rw [e] at hc h
  exact acallF fn rs N m hf hcode hr hN hn hc ha hm hrd h
end
end Go.Abs
/- Contracts in their plain form; what 'simp' is not to look into; branches within a region. -/
set_option linter.unusedVariables false
set_option linter.unusedSimpArgs false
namespace Go.Abs
open Go.RowKit

/-- Just this is returned. -/
def Is (r : AV) (R H : List AO) : AV → List AO → List AO → Prop := fun r' R' H' => r' = r ∧ R' = R ∧ H' = H
theorem Is.mk {r : AV} {R H : List AO} {r' R' H'} (h1 : r' = r) (h2 : R' = R) (h3 : H' = H) : Is r R H r' R' H' := ⟨h1, h2, h3⟩
theorem ACall.use {x : X} {f : FuncId} {vs : List AV} {n : Nat} {H : List AO} {r : AV} {R H' : List AO} {Q : AV → List AO → List AO → Prop} (h : ACall x f vs n H (Is r R H')) (hq : Q r R H') : ACall x f vs n H Q :=
  h.mono fun _ _ _ ⟨h1, h2, h3⟩ => by rw [h1, h2, h3]; exact hq

@[congr] theorem acall_congr {x : X} {f : FuncId} {vs vs' : List AV} {n n' : Nat} {H H' : List AO} {Q : AV → List AO → List AO → Prop} (h1 : vs = vs') (h2 : n = n') (h3 : H = H') : ACall x f vs n H Q = ACall x f vs' n' H' Q := by rw [h1, h2, h3]
@[congr] theorem awp_congr {x : X} {N : Nat} {c : Code} {s s' : AS} {Q : Exit → AS → Prop} (h : s = s') : AWP x N c s Q = AWP x N c s' Q := by rw [h]
@[congr] theorem arounds_congr {x : X} {N : Nat} {c : Code} {n : Nat} {s s' : AS} {Q : Exit → AS → Prop} (h : s = s') : ARounds x N c Q n s = ARounds x N c Q n s' := by rw [h]

/-! 'simp' does not look into what comes behind an operation. -/
section
variable {x : X} {P : Program}
@[congr] theorem pv_congr {o o' : Oper} {s s' : AS} {K : AV → AS → Prop} (h0 : o = o') (h : s = s') : Pv x o s K = Pv x o' s' K := by rw [h0, h]
@[congr] theorem asTI_congr {t t' : TypeId} {K : TI → Prop} (h : t = t') : asTI x t K = asTI x t' K := by rw [h]
@[congr] theorem pLoad_congr {s s' : AS} {i i' : TI} {v v' : AV} {K : AV → AS → Prop} (h1 : s = s') (h2 : i = i') (h3 : v = v') : pLoad s i v K = pLoad s' i' v' K := by rw [h1, h2, h3]
@[congr] theorem pStore_congr {s s' : AS} {i i' : TI} {v v' w w' : AV} {K : AV → AS → Prop} (h1 : s = s') (h2 : i = i') (h3 : v = v') (h4 : w = w') : pStore s i v w K = pStore s' i' v' w' K := by rw [h1, h2, h3, h4]
@[congr] theorem pFieldAddr_congr {s s' : AS} {i i' : TI} {j : Nat} {v v' : AV} {K : AV → AS → Prop} (h1 : s = s') (h2 : i = i') (h3 : v = v') : pFieldAddr s i j v K = pFieldAddr s' i' j v' K := by rw [h1, h2, h3]
@[congr] theorem pField_congr {s s' : AS} {i i' : TI} {j : Nat} {v v' : AV} {K : AV → AS → Prop} (h1 : s = s') (h2 : i = i') (h3 : v = v') : pField s i j v K = pField s' i' j v' K := by rw [h1, h2, h3]
@[congr] theorem pIndexAddr_congr {s s' : AS} {i i' : TI} {v v' w w' : AV} {K : AV → AS → Prop} (h1 : s = s') (h2 : i = i') (h3 : v = v') (h4 : w = w') : pIndexAddr s i v w K = pIndexAddr s' i' v' w' K := by rw [h1, h2, h3, h4]
@[congr] theorem pIndex_congr {s s' : AS} {i i' : TI} {v v' w w' : AV} {K : AV → AS → Prop} (h1 : s = s') (h2 : i = i') (h3 : v = v') (h4 : w = w') : pIndex s i v w K = pIndex s' i' v' w' K := by rw [h1, h2, h3, h4]
@[congr] theorem pAppend_congr {s s' : AS} {e : TypeId} {z : Nat} {v v' w w' : AV} {K : AV → AS → Prop} (h1 : s = s') (h3 : v = v') (h4 : w = w') : pAppend x s e z v w K = pAppend x s' e z v' w' K := by rw [h1, h3, h4]
@[congr] theorem pCall_congr {s s' : AS} {c c' : Call} {K : AV → AS → Prop} (h1 : s = s') (h2 : c = c') : pCall x s c K = pCall x s' c' K := by rw [h1, h2]
@[congr] theorem pvCall_congr {s s' : AS} {f f' : AV} {as as' : List AV} {K : AV → AS → Prop} (h0 : s = s') (h1 : f = f') (h2 : as = as') : pvCall x s f as K = pvCall x s' f' as' K := by rw [h0, h1, h2]
@[congr] theorem cmpK_congr {op : BinOp} {b b' : Bool} {K : AV → Prop} (h : b = b') : cmpK op b K = cmpK op b' K := by rw [h]
@[congr] theorem pCmp_congr {op : BinOp} {t : TypeId} {a a' b b' : AV} {K : AV → Prop} (h1 : a = a') (h2 : b = b') : pCmp P op t a b K = pCmp P op t a' b' K := by rw [h1, h2]
@[congr] theorem pSlice_congr {s s' : AS} {i i' : TI} {v v' : AV} {lo hi : Option Operand} {K : AV → Prop} (h1 : s = s') (h2 : i = i') (h3 : v = v') : pSlice s i v lo hi K = pSlice s' i' v' lo hi K := by rw [h1, h2, h3]
@[congr] theorem pLookup_congr {s s' : AS} {t : TypeId} {a a' b b' : AV} {K : AV → AS → Prop} (h0 : s = s') (h1 : a = a') (h2 : b = b') : pLookup x s t a b K = pLookup x s' t a' b' K := by rw [h0, h1, h2]
@[congr] theorem pMapUpd_congr {s s' : AS} {t : TypeId} {a a' b b' c c' : AV} {K : AV → AS → Prop} (h0 : s = s') (h1 : a = a') (h2 : b = b') (h3 : c = c') : pMapUpd x s t a b c K = pMapUpd x s' t a' b' c' K := by rw [h0, h1, h2, h3]
end

/-- What is called returns its value, makes and changes nothing: whatever the shared objects. -/
def okH (H : List AO) : Prop := ∀ o ∈ H, o.ok (pm H.length) = true
theorem okH_nil : okH [] := by intro o ho; simp at ho
theorem okH_shd {H : List AO} (h : okH H) : ∀ o ∈ H, o.ok shd = true := by
  intro o ho
  have := h o ho
  cases o with
  | dead => rfl
  | fwd j => rfl
  | mp kvs => rfl
  | lrec r =>
    simp only [AO.ok, LRec.ok, List.all_eq_true] at this ⊢
    exact fun q hq => ok_mono (fun sh j h => by simp only [pm, Bool.and_eq_true] at h; exact h.1) _ (this q hq)
  | cell v => exact ok_mono (fun sh j h => by simp only [pm, Bool.and_eq_true] at h; exact h.1) v this
  | row sz vs => exact oks_mono (fun sh j h => by simp only [pm, Bool.and_eq_true] at h; exact h.1) vs this
  | frow sz vs => exact oks_mono (fun sh j h => by simp only [pm, Bool.and_eq_true] at h; exact h.1) vs this
  | xrow sz vs => exact oks_mono (fun sh j h => by simp only [pm, Bool.and_eq_true] at h; exact h.1) vs this
def Con (x : X) (f : FuncId) (vs : List AV) (r : AV) : Prop := ∀ (n : Nat) (H : List AO), okH H → ACall x f vs n H (Is r [] H)
/-- One whose result holds new objects. -/
def ConR (x : X) (f : FuncId) (vs : List AV) (r : Nat → AV) (R : List AO) : Prop := ∀ (n : Nat) (H : List AO), okH H → ACall x f vs n H (Is (r n) R H)
theorem Con.use {x : X} {f : FuncId} {vs : List AV} {n : Nat} {H : List AO} {r : AV} {Q : AV → List AO → List AO → Prop} (h : Con x f vs r) (hH : okH H) (hq : Q r [] H) : ACall x f vs n H Q := (h n H hH).use hq
theorem ConR.use {x : X} {f : FuncId} {vs : List AV} {n : Nat} {H : List AO} {r : Nat → AV} {R : List AO} {Q : AV → List AO → List AO → Prop} (h : ConR x f vs r R) (hH : okH H) (hq : Q (r n) R H) : ACall x f vs n H Q := (h n H hH).use hq

section
variable {x : X} {s : AS} {ops : List Oper} {K : AS → Prop} {rest : List Oper} {o : Op} {d : Option Tmp} {ty : TypeId} {ps : String} {af : Array Edge} {j : Nat} {b : Bool}
@[simp] theorem pops_if_yes (h : ((ops[j]?).bind (·.dst)).isSome = true) (hg : s.get (((ops[j]?).bind (·.dst)).getD 0) = .bool b) : POps x ops K (⟨d, o, ty, ps, af, some (j, b)⟩ :: rest) s = Pv x ⟨d, o, ty, ps, af, some (j, b)⟩ s (fun v s' => POps x ops K rest (s'.put d v)) := by
  obtain ⟨e, he⟩ := Option.isSome_iff_exists.1 h
  rw [he] at hg
  simp only [Option.getD_some] at hg
  rw [pops_if]
  simp [he, hg]
@[simp] theorem pops_if_no (h : ((ops[j]?).bind (·.dst)).isSome = true) (hg : s.get (((ops[j]?).bind (·.dst)).getD 0) = .bool (!b)) : POps x ops K (⟨d, o, ty, ps, af, some (j, b)⟩ :: rest) s = POps x ops K rest (s.put d (.tup [])) := by
  obtain ⟨e, he⟩ := Option.isSome_iff_exists.1 h
  rw [he] at hg
  simp only [Option.getD_some] at hg
  rw [pops_if]
  simp [he, hg]
@[simp] theorem pops_if_tup (h : ((ops[j]?).bind (·.dst)).isSome = true) (hg : s.get (((ops[j]?).bind (·.dst)).getD 0) = .tup []) : POps x ops K (⟨d, o, ty, ps, af, some (j, b)⟩ :: rest) s = POps x ops K rest (s.put d (.tup [])) := by
  obtain ⟨e, he⟩ := Option.isSome_iff_exists.1 h
  rw [he] at hg
  simp only [Option.getD_some] at hg
  rw [pops_if]
  simp [he, hg]
theorem pops_split {l : List Oper} {c : Bool} (e : Nat) (h : s.get e = .bool c) (h1 : c = true → POps x ops K l s) (h0 : c = false → POps x ops K l s) : POps x ops K l s := by
  cases c with
  | true => exact h1 rfl
  | false => exact h0 rfl
end
end Go.Abs
/- Operations whose order is not the text's: what each does wherever it comes. -/
set_option linter.unusedVariables false
set_option linter.unusedSimpArgs false
namespace Go.Abs
open Go.RowKit

/-- It reads, or calls what changes nothing: whatever private objects stand behind. -/
def QSem (x : X) (o : Oper) (s : AS) (v : AV) : Prop := ∀ L, s.loc <+: L → OpW x o ⟨s.t, L, s.H⟩ (fun v' s' => v' = v ∧ s' = ⟨s.t, L, s.H⟩)
/-- It makes one object. -/
def ASem (x : X) (o : Oper) (s : AS) (vi : Nat → AV) (ob : AO) : Prop := ∀ L, s.loc <+: L → SimA x.P o ⟨s.t, L, s.H⟩ (vi L.length) ob
def isVi (vi : Nat → AV) (ob : AO) : Prop := (vi = (fun i => .ref false i 0 [] 0) ∧ ob.ver = 0) ∨ (vi = fun i => .own false i ob.ver)

theorem isVi_VR {vi : Nat → AV} {ob : AO} (hvi : isVi vi ob) {d e : Cx} {n j : Nat} {m : Value} (h : VR d (vi n) m) (hl : d.lam false n ob.ver = e.lam false j ob.ver) : VR e (vi j) m := by
  rcases hvi with ⟨rfl, hv⟩ | rfl
  · obtain ⟨cs, hc, rfl⟩ := h
    rw [CR] at hc
    obtain ⟨a, cap, h1, rfl⟩ := hc
    rw [hv] at hl
    refine ⟨_, ?_, rfl⟩
    rw [CR]
    exact ⟨a, cap, by rw [← hl]; exact h1, rfl⟩
  · obtain ⟨cs, hc, rfl⟩ := h
    rw [CR] at hc
    obtain ⟨a, cap, h1, h2, rfl⟩ := hc
    refine ⟨_, ?_, rfl⟩
    rw [CR]
    exact ⟨a, cap, by rw [← hl]; exact h1, h2, rfl⟩

theorem slot {x : X} {o : Oper} {s : AS} {vi : Nat → AV} {ob : AO} (h : ASem x o s vi ob) (hvi : isVi vi ob) (hok : ob.ok (pl s.loc.length) = true) {L : List AO} {c : Cx} {ρ : Operand → Value} (hL : s.loc ++ [ob] <+: L) (hM : MemR c (mem L s.H)) (hu : ∀ ver, c.lam false s.loc.length ver = none)
    (ho : ∀ y ∈ o.op.operands, VR c (s.ev y) (ρ y)) :
    ∃ m e, (execOp ρ o).run x.P c.w = .ok (.value m) e.w ∧ VR e (vi s.loc.length) m ∧ MemR e (mem L s.H) ∧ c.le e ∧ (∀ c0 H0, Ev c0 H0 c (mem L s.H) → Ev c0 H0 e (mem L s.H)) ∧ (∀ c0 ds, DefsOK c0 c (mem L s.H) ds → DefsOK c0 e (mem L s.H) ds) ∧ (∀ i, i ≠ s.loc.length → (∀ ver, c.lam false i ver = none) → ∀ ver, e.lam false i ver = none) := by
  have hpre : s.loc <+: L := (List.prefix_append s.loc [ob]).trans hL
  obtain ⟨m, d, pla, hr, hv, hMd, hSt, hlam, hfz, htu⟩ := h L hpre c ρ hM (fun y hy => ho y hy)
  generalize hj : s.loc.length = j at *
  have hLj : L[j]? = some ob := by
    obtain ⟨t, rfl⟩ := hL
    rw [List.append_assoc, List.getElem?_append_right (by omega), ← hj]
    simp
  have hjn : j < L.length := (List.getElem?_eq_some_iff.1 hLj).1
  have hlam' : d.lam = updL c.lam false L.length ob.ver pla := hlam
  have hobn : ((AS.mk s.t L s.H).push ob).mem false = L ++ [ob] := rfl
  have hdn : d.lam false L.length ob.ver = some pla := by rw [hlam']; exact updL_same _ _ _ _ _
  have hdc : ∀ sh i ver, ¬ (sh = false ∧ i = L.length) → d.lam sh i ver = c.lam sh i ver := by
    intro sh i ver hne
    rw [hlam']
    exact updL_ne (fun e => hne ⟨e.1, e.2.1⟩)
  have hdo : ∀ sh i o', (mem L s.H sh)[i]? = some o' → (((AS.mk s.t L s.H).push ob).mem sh)[i]? = some o' ∧ ¬ (sh = false ∧ i = L.length) := by
    intro sh i o' hx
    cases sh with
    | true => exact ⟨hx, by simp⟩
    | false =>
      simp only [mem_false] at hx
      have hlt := (List.getElem?_eq_some_iff.1 hx).1
      rw [hobn]
      exact ⟨by rw [List.getElem?_append_left hlt]; exact hx, by rintro ⟨_, e⟩; omega⟩
  have hec : ∀ sh i ver, ¬ (sh = false ∧ i = j ∧ ver = ob.ver) → updL c.lam false j ob.ver pla sh i ver = c.lam sh i ver := fun sh i ver hne => updL_ne hne
  have hle : c.le ⟨d.w, c.Fz, updL c.lam false j ob.ver pla⟩ := ⟨fun _ h => h, fun m hm => htu.same m (hM.fzl m hm) (fun h => h), fun sh i ver q hq => updL_le (fun p hp => by rw [hu] at hp; cases hp) hq⟩
  have hnew : ∀ m, Owns d.lam (((AS.mk s.t L s.H).push ob).mem) false L.length m → c.w.heap.size ≤ m := by
    intro m hm
    rcases hSt.own _ _ _ hm with h1 | ⟨sh, i, o', a, cap, h1, h2, h3, h4⟩
    · exact h1
    · obtain ⟨h5, h6⟩ := hdo sh i o' h1
      have := hMd.sep _ _ _ _ _ hm ⟨o', a, cap, h5, h2, by rw [hdc _ _ _ h6]; exact h3, h4⟩
      exact (h6 ⟨this.1.symm, this.2.symm⟩).elim
  have hown : ∀ sh i m, Owns (updL c.lam false j ob.ver pla) (mem L s.H) sh i m → Owns c.lam (mem L s.H) sh i m ∨ (sh = false ∧ i = j ∧ c.w.heap.size ≤ m) := by
    rintro sh i m ⟨o', a, cap, h1, h2, h3, rfl⟩
    by_cases e : sh = false ∧ i = j ∧ o'.ver = ob.ver
    · obtain ⟨rfl, rfl, ev⟩ := e
      rw [mem_false, hLj] at h1
      cases h1
      rw [updL_same] at h3
      cases h3
      exact .inr ⟨rfl, rfl, hnew _ ⟨ob, a, cap, by rw [hobn]; simp, h2, hdn, rfl⟩⟩
    · rw [hec _ _ _ e] at h3
      exact .inl ⟨o', a, cap, h1, h2, h3, rfl⟩
  refine ⟨m, ⟨d.w, c.Fz, updL c.lam false j ob.ver pla⟩, hr, ?_, ⟨?_, ?_, ?_, ?_, ?_⟩, hle, ?_, ?_, ?_⟩
  · exact isVi_VR hvi hv (by rw [hdn]; exact (updL_same _ _ _ _ _).symm)
  · intro sh i o' p hx hl
    obtain ⟨h5, h6⟩ := hdo sh i o' hx
    by_cases e : sh = false ∧ i = j ∧ o'.ver = ob.ver
    · obtain ⟨rfl, rfl, ev⟩ := e
      rw [mem_false, hLj] at hx
      cases hx
      have hl2 : updL c.lam false i ob.ver pla false i ob.ver = some p := hl
      rw [updL_same] at hl2
      cases hl2
      have hob := hMd.obj false L.length ob pla (by rw [hobn]; simp) hdn
      refine ObjAt_ok (p := pl i) hob rfl hfz.symm ?_ hok
      intro sh' i' ver' q hp hq
      simp only [pl, Bool.or_eq_true, decide_eq_true_eq] at hp
      rw [hdc _ _ _ (by rintro ⟨rfl, rfl⟩; simp at hp; omega)] at hq
      show updL c.lam false i ob.ver pla sh' i' ver' = some q
      rw [hec _ _ _ (by rintro ⟨rfl, rfl, _⟩; simp at hp)]
      exact hq
    · have hl' : c.lam sh i o'.ver = some p := by rw [← hec _ _ _ e]; exact hl
      refine ObjAt_keep (hM.obj sh i o' p hx hl') hle ?_
      intro hoo a ha
      obtain ⟨pa, pc⟩ := p
      simp only at ha
      subst ha
      exact htu.same _ (Owns.lt hM ⟨o', a, pc, hx, hoo, hl', rfl⟩) (fun h => h)
  · intro sh i ver p hl
    by_cases e : sh = false ∧ i = j ∧ ver = ob.ver
    · obtain ⟨rfl, rfl, rfl⟩ := e
      exact ⟨ob, hLj, fun _ => Nat.le_refl _⟩
    · have hl' : c.lam sh i ver = some p := by rw [← hec _ _ _ e]; exact hl
      exact hM.dom sh i ver p hl'
  · intro sh i sh' i' m h1 h2
    rcases hown sh i m h1 with h1 | ⟨e1, e2, h1⟩ <;> rcases hown sh' i' m h2 with h2 | ⟨e1', e2', h2⟩
    · exact hM.sep sh i sh' i' m h1 h2
    · have := h1.lt hM; omega
    · have := h2.lt hM; omega
    · exact ⟨e1.trans e1'.symm, e2.trans e2'.symm⟩
  · intro sh i m h1
    rcases hown sh i m h1 with h1 | ⟨_, _, h1⟩
    · exact hM.unf sh i m h1
    · intro hf
      have := hM.fzl m hf
      omega
  · exact fun m hm => Nat.lt_of_lt_of_le (hM.fzl m hm) htu.size
  · intro c0 H0 hE
    refine ⟨Nat.le_trans hE.size htu.size, htu.os.trans hE.os, htu.tape.trans hE.tape, htu.output.trans hE.output, ?_, hE.fz, hE.fzn, ?_, ?_⟩
    · intro m hm hn
      exact (htu.same m (Nat.lt_of_lt_of_le hm hE.size) (fun h => h)).trans (hE.same m hm hn)
    · intro i ver p hi hp
      show updL c.lam false j ob.ver pla true i ver = some p
      rw [hec _ _ _ (by simp)]
      exact hE.lam i ver p hi hp
    · intro sh i m h1
      rcases hown sh i m h1 with h1 | ⟨_, _, h1⟩
      · exact hE.own sh i m h1
      · exact .inl (Nat.le_trans hE.size h1)
  · intro c0 ds hD
    refine ⟨hD.1, fun q hq => ?_⟩
    obtain ⟨D, k⟩ := hD.2 q hq
    refine ⟨D, k.move htu.size (htu.same D k.hi (fun h => h)) ?_ (fun hf => .inl hf)⟩
    intro sh i ho
    rcases hown sh i D ho with h1 | ⟨_, _, h1⟩
    · exact .inr ⟨sh, i, h1⟩
    · exact .inl h1
  · intro i hne hn ver
    exact (hec _ _ _ (by rintro ⟨_, e, _⟩; exact hne e)).trans (hn ver)

end Go.Abs
/- Regions whose order is not the text's: one order is as good as another. -/
set_option linter.unusedVariables false
set_option linter.unusedSimpArgs false
namespace Go.Abs
open Go.RowKit

def preds (o : Oper) : List Nat := (o.after.toList.filter (fun e => Region.binds .any e)).map (·.on)
def maskOf (acc : List Nat) (ps : List Nat) : Nat := ps.foldr (fun j m => m ||| (2 ^ j ||| acc.getD j 0)) 0
def befM : List Oper → List Nat → List Nat
  | [], acc => acc
  | o :: rest, acc => befM rest (acc ++ [maskOf acc (preds o)])

theorem maskOf_spec {acc : List Nat} : ∀ {ps : List Nat} {j : Nat}, (maskOf acc ps).testBit j = true → ∃ p ∈ ps, j = p ∨ (acc.getD p 0).testBit j = true
  | [], j, h => by simp [maskOf] at h
  | p :: ps, j, h => by
    simp only [maskOf, List.foldr_cons, Nat.testBit_or, Bool.or_eq_true, Nat.testBit_two_pow] at h
    rcases h with h | h | h
    · obtain ⟨q, hq, e⟩ := maskOf_spec (acc := acc) (ps := ps) h
      exact ⟨q, List.mem_cons_of_mem _ hq, e⟩
    · exact ⟨p, List.mem_cons_self, .inl (by have h' := h; simp at h'; omega)⟩
    · exact ⟨p, List.mem_cons_self, .inr h⟩

/-- What is listed goes with all that binds it. -/
def Closed (ops : List Oper) (D : Nat → Prop) : Prop := ∀ k o, ops[k]? = some o → D k → ∀ p ∈ preds o, D p

theorem befM_spec {ops : List Oper} {D : Nat → Prop} (hc : Closed ops D) : ∀ (rest : List Oper) (acc : List Nat), ops.drop acc.length = rest → acc.length ≤ ops.length → (∀ i j o, i < acc.length → ops[i]? = some o → (acc.getD i 0).testBit j = true → (∀ p ∈ preds o, D p) → D j) →
    (befM rest acc).length = ops.length ∧ (∀ i j o, ops[i]? = some o → ((befM rest acc).getD i 0).testBit j = true → (∀ p ∈ preds o, D p) → D j)
  | [], acc, hd, hl, h => by
    have : ops.length ≤ acc.length := by simpa using hd
    exact ⟨by simp [befM]; omega, fun i j o ho => h i j o (by have := (List.getElem?_eq_some_iff.1 ho).1; omega) ho⟩
  | o :: rest, acc, hd, hl, h => by
    rw [befM]
    have hlt : acc.length < ops.length := by
      rcases Nat.lt_or_ge acc.length ops.length with h | h
      · exact h
      · rw [List.drop_eq_nil_of_le h] at hd; cases hd
    have hdr := List.drop_eq_getElem_cons hlt
    rw [hdr] at hd
    obtain ⟨ho, hr⟩ := List.cons.inj hd
    refine befM_spec hc rest _ (by simpa using hr) (by simp; omega) ?_
    intro i j o' hi ho' ht hp
    simp only [List.length_append, List.length_cons, List.length_nil] at hi
    rcases Nat.lt_or_ge i acc.length with hl' | hl'
    · have e : (acc ++ [maskOf acc (preds o)]).getD i 0 = acc.getD i 0 := by
        rw [List.getD_eq_getElem?_getD, List.getD_eq_getElem?_getD, List.getElem?_append_left hl']
      rw [e] at ht
      exact h i j o' hl' ho' ht hp
    · have hi' : i = acc.length := by omega
      subst hi'
      have e : (acc ++ [maskOf acc (preds o)]).getD acc.length 0 = maskOf acc (preds o) := by simp
      rw [e] at ht
      have ho2 : o' = o := by
        rw [List.getElem?_eq_getElem hlt] at ho'
        rw [← ho]; exact (Option.some.inj ho').symm
      subst ho2
      obtain ⟨p, hpm, e⟩ := maskOf_spec ht
      rcases e with rfl | e
      · exact hp _ hpm
      · rcases Nat.lt_or_ge p acc.length with hp' | hp'
        · have hop : ops[p]? = some (ops[p]'(by omega)) := List.getElem?_eq_getElem (by omega)
          exact h p j _ hp' hop e (hc p _ hop (hp p hpm))
        · rw [List.getD_eq_getElem?_getD, List.getElem?_eq_none (by omega)] at e
          simp at e

def ahead (ops : List Oper) (j i : Nat) : Bool := ((befM ops []).getD i 0).testBit j
theorem ahead_spec {ops : List Oper} {D : Nat → Prop} (hc : Closed ops D) {i j : Nat} {o : Oper} (ho : ops[i]? = some o) (h : ahead ops j i = true) (hp : ∀ p ∈ preds o, D p) : D j :=
  (befM_spec hc ops [] rfl (by simp) (fun i j o hi => by simp at hi)).2 i j o ho h hp

/-- The temporaries that an operation looks at. -/
def touch (ops : List Oper) (o : Oper) : List Nat :=
  (o.op.operands.toList.filterMap fun | .tmp t => some t | _ => none) ++ (match o.guard with | some (g, _) => ((ops[g]?).bind (·.dst)).toList | none => [])

def pairOK (ops : List Oper) (b : List Nat) (cls : List Nat) (N : Nat) (i j : Nat) : Bool :=
  i == j || match ops[i]?, ops[j]? with
  | some oi, some oj =>
    (match oj.dst with
     | some t => oi.dst != some t && (!(touch ops oi).contains t || (if j < i then (b.getD i 0).testBit j else (b.getD j 0).testBit i))
     | none => true) &&
    (!(cls.getD j 0 == 3 && decide (1 ≤ cls.getD i 0) && cls.getD i 0 != 4) || (if j < i then (b.getD i 0).testBit j else (b.getD j 0).testBit i))
  | _, _ => true
def drawOK (ops : List Oper) (cls : List Nat) (N : Nat) : Bool :=
  (ops.zipIdx.all fun p => (preds p.1).all (· < p.2)) &&
  (List.range ops.length).all fun i => (List.range ops.length).all fun j => pairOK ops (befM ops []) cls N i j

structure DOK (ops : List Oper) (cls : List Nat) : Prop where
  back : ∀ (k : Nat) (o : Oper), ops[k]? = some o → ∀ p ∈ preds o, p < k
  one : ∀ (i j : Nat) (oi oj : Oper) (t : Nat), ops[i]? = some oi → ops[j]? = some oj → i ≠ j → oj.dst = some t → oi.dst ≠ some t
  tl : ∀ (i j : Nat) (oi oj : Oper) (t : Nat), ops[i]? = some oi → ops[j]? = some oj → oj.dst = some t → t ∈ touch ops oi → j < i → ahead ops j i = true
  tr : ∀ (i j : Nat) (oi oj : Oper) (t : Nat), ops[i]? = some oi → ops[j]? = some oj → oj.dst = some t → t ∈ touch ops oi → i < j → ahead ops i j = true
  wl : ∀ i j, i < ops.length → j < ops.length → cls.getD j 0 = 3 → 1 ≤ cls.getD i 0 → cls.getD i 0 ≠ 4 → j < i → ahead ops j i = true
  wr : ∀ i j, i < ops.length → j < ops.length → cls.getD j 0 = 3 → 1 ≤ cls.getD i 0 → cls.getD i 0 ≠ 4 → i < j → ahead ops i j = true

theorem drawOK_spec {ops : List Oper} {cls : List Nat} {N : Nat} (h : drawOK ops cls N = true) : DOK ops cls := by
  simp only [drawOK, Bool.and_eq_true, List.all_eq_true, List.mem_range] at h
  obtain ⟨h1, h2⟩ := h
  have hp : ∀ i j oi oj, ops[i]? = some oi → ops[j]? = some oj → i ≠ j → _ := fun i j oi oj hi hj hne => by
    have := h2 i (List.getElem?_eq_some_iff.1 hi).1 j (List.getElem?_eq_some_iff.1 hj).1
    simp only [pairOK, hi, hj, Bool.or_eq_true, beq_iff_eq, hne, false_or, Bool.and_eq_true] at this
    exact this
  refine ⟨?_, ?_, ?_, ?_, ?_, ?_⟩
  · intro k o ho p hpm
    have := h1 (o, k) (by rw [List.mem_zipIdx_iff_getElem?]; exact ho) p hpm
    simpa using this
  · intro i j oi oj t hi hj hne hd
    have := (hp i j oi oj hi hj hne).1
    simp only [hd, Bool.and_eq_true, bne_iff_ne] at this
    exact this.1
  · intro i j oi oj t hi hj hd ht hlt
    have := (hp i j oi oj hi hj (by omega)).1
    simp only [hd, Bool.and_eq_true, Bool.or_eq_true, hlt, if_true] at this
    rcases this.2 with h | h
    · simp at h; exact (h ht).elim
    · exact h
  · intro i j oi oj t hi hj hd ht hlt
    have := (hp i j oi oj hi hj (by omega)).1
    have hn : ¬ j < i := by omega
    simp only [hd, Bool.and_eq_true, Bool.or_eq_true, hn, if_false] at this
    rcases this.2 with h | h
    · simp at h; exact (h ht).elim
    · exact h
  · intro i j hi hj h3 h4 h5 hlt
    have := (hp i j _ _ (List.getElem?_eq_getElem hi) (List.getElem?_eq_getElem hj) (by omega)).2
    simp only [hlt, if_true, Bool.or_eq_true] at this
    rcases this with h | h
    · have e1 : (cls.getD j 0 == 3) = true := by rw [h3]; rfl
      have e2 : (cls.getD i 0 != 4) = true := by simpa using h5
      simp only [e1, e2, h4, decide_true, Bool.and_self, Bool.not_true, Bool.false_eq_true] at h
    · exact h
  · intro i j hi hj h3 h4 h5 hlt
    have := (hp i j _ _ (List.getElem?_eq_getElem hi) (List.getElem?_eq_getElem hj) (by omega)).2
    have hn : ¬ j < i := by omega
    simp only [hn, if_false, Bool.or_eq_true] at this
    rcases this with h | h
    · have e1 : (cls.getD j 0 == 3) = true := by rw [h3]; rfl
      have e2 : (cls.getD i 0 != 4) = true := by simpa using h5
      simp only [e1, e2, h4, decide_true, Bool.and_self, Bool.not_true, Bool.false_eq_true] at h
    · exact h
end Go.Abs
/- Regions whose order is not the text's: the text's order as a trace, and what holds of it. -/
set_option linter.unusedVariables false
set_option linter.unusedSimpArgs false
namespace Go.Abs
open Go.RowKit

def wantA (ops : List Oper) (o : Oper) (s : AS) : Option Bool :=
  match o.guard with
  | none => some true
  | some (j, want) => match (ops[j]?).bind (·.dst) with
    | none => none
    | some d => match s.get d with
      | .bool b => some (b == want)
      | .tup _ => some false
      | _ => none

/-- It reads an object that nobody in the region turns. -/
def RSem (x : X) (o : Oper) (s : AS) (v : AV) (j : Nat) (ob : AO) : Prop :=
  ∀ (M : Mem) (c : Cx) (ρ : Operand → Value), MemR c M → (M false)[j]? = some ob → (∀ y ∈ o.op.operands, VR c (s.ev y) (ρ y)) → ∃ m, (execOp ρ o).run x.P c.w = .ok (.value m) c.w ∧ VR c v m

inductive StepOK (x : X) (ops : List Oper) (J : List Nat) (o : Oper) (c : Nat) (s : AS) (v : AV) (s' : AS) : Prop
  | out (hw : wantA ops o s = some false) (hv : v = .tup []) (hs : s' = s.put o.dst v)
  | pure (hw : wantA ops o s = some true) (hc : c = 0) (h : Pure x.P o s v) (hs : s' = s.put o.dst v)
  | quiet (hw : wantA ops o s = some true) (hc : c = 1) (h : QSem x o s v) (hs : s' = s.put o.dst v)
  | make (hw : wantA ops o s = some true) (hc : c = 2) (vi : Nat → AV) (ob : AO) (hv : v = vi s.loc.length) (h : ASem x o s vi ob) (hvi : isVi vi ob) (hok : ob.ok (pl s.loc.length) = true) (hs : s' = (s.push ob).put o.dst v)
  | turn (hw : wantA ops o s = some true) (hc : c = 3) (s1 : AS) (h : OpW x o s (fun v' s'' => v' = v ∧ s'' = s1)) (ht : s1.t = s.t) (hJ : ∀ j ∈ J, s1.loc[j]? = s.loc[j]?) (hl : s.loc.length ≤ s1.loc.length) (hH : s.H.length ≤ s1.H.length) (hs : s' = s1.put o.dst v)
  | read (hw : wantA ops o s = some true) (hc : c = 4) (j : Nat) (ob : AO) (hj : j ∈ J) (hob : s.loc[j]? = some ob) (h : RSem x o s v j ob) (hs : s' = s.put o.dst v)

theorem put_get (s : AS) (d : Option Tmp) (v : AV) (i : Nat) : (s.put d v).get i = if d = some i then v else s.get i := by
  cases d with
  | none => simp [AS.put]
  | some d =>
    simp only [AS.put, AS.get, List.lookup_cons]
    by_cases e : i = d
    · subst e; simp
    · have e' : (i == d) = false := by simpa using e
      have e2 : ¬ (some d = some i) := by simpa using (Ne.symm e)
      simp only [e', e2, if_false]
theorem put_loc (s : AS) (d : Option Tmp) (v : AV) : (s.put d v).loc = s.loc := by cases d <;> rfl
theorem put_H (s : AS) (d : Option Tmp) (v : AV) : (s.put d v).H = s.H := by cases d <;> rfl
theorem put_mem (s : AS) (d : Option Tmp) (v : AV) : (s.put d v).mem = s.mem := by cases d <;> rfl
theorem get_of_t {s s' : AS} (h : s'.t = s.t) (i : Nat) : s'.get i = s.get i := by simp [AS.get, h]

structure Trc (x : X) (ops : List Oper) (cls J : List Nat) (S : Nat → AS) (V : Nat → AV) : Prop where
  st : ∀ k o, ops[k]? = some o → StepOK x ops J o (cls.getD k 0) (S k) (V k) (S (k + 1))
  dok : DOK ops cls
  hJ : ∀ j ∈ J, j < (S 0).loc.length

section
variable {x : X} {ops : List Oper} {cls J : List Nat} {S : Nat → AS} {V : Nat → AV} (T : Trc x ops cls J S V)
include T
theorem Trc.get {k : Nat} {o : Oper} (ho : ops[k]? = some o) (i : Nat) : (S (k + 1)).get i = if o.dst = some i then V k else (S k).get i := by
  cases T.st k o ho with
  | out hw hv hs => rw [hs, put_get]
  | pure hw hc h hs => rw [hs, put_get]
  | quiet hw hc h hs => rw [hs, put_get]
  | make hw hc vi ob hv h hvi hok hs => rw [hs, put_get]; rfl
  | turn hw hc s1 h ht hJ hl hH hs => rw [hs, put_get, get_of_t ht]
  | read hw hc j ob hj hob h hs => rw [hs, put_get]

theorem Trc.w2 {i : Nat} : ∀ {k : Nat}, k ≤ ops.length → (∀ j o, j < k → ops[j]? = some o → o.dst ≠ some i) → (S k).get i = (S 0).get i
  | 0, _, _ => rfl
  | k + 1, hk, h => by
    have hlt : k < ops.length := by omega
    have ho : ops[k]? = some ops[k] := List.getElem?_eq_getElem hlt
    rw [T.get ho, if_neg (h k _ (by omega) ho)]
    exact Trc.w2 (by omega) (fun j o hj => h j o (by omega))
theorem Trc.w1 {i j : Nat} {o : Oper} (ho : ops[j]? = some o) (hd : o.dst = some i) : ∀ {k : Nat}, k ≤ ops.length → j < k → (S k).get i = V j
  | 0, _, h => by omega
  | k + 1, hk, h => by
    have hlt : k < ops.length := by omega
    have ho' : ops[k]? = some ops[k] := List.getElem?_eq_getElem hlt
    rw [T.get ho']
    by_cases e : j = k
    · subst e
      rw [ho] at ho'
      have := Option.some.inj ho'
      rw [← this, if_pos hd]
    · rw [if_neg (T.dok.one k j _ o i ho' ho (Ne.symm e) hd)]
      exact Trc.w1 ho hd (by omega) (by omega)

theorem Trc.loc {k : Nat} {o : Oper} (ho : ops[k]? = some o) (hc3 : cls.getD k 0 ≠ 3) : (S k).loc <+: (S (k + 1)).loc ∧ (S (k + 1)).H = (S k).H := by
  cases T.st k o ho with
  | out hw hv hs => rw [hs, put_loc, put_H]; exact ⟨List.prefix_refl _, rfl⟩
  | pure hw hc h hs => rw [hs, put_loc, put_H]; exact ⟨List.prefix_refl _, rfl⟩
  | quiet hw hc h hs => rw [hs, put_loc, put_H]; exact ⟨List.prefix_refl _, rfl⟩
  | make hw hc vi ob hv h hvi hok hs => rw [hs, put_loc, put_H]; exact ⟨List.prefix_append _ _, rfl⟩
  | turn hw hc s1 h ht hJ hl hH hs => exact (hc3 hc).elim
  | read hw hc j ob hj hob h hs => rw [hs, put_loc, put_H]; exact ⟨List.prefix_refl _, rfl⟩
theorem Trc.len {k : Nat} {o : Oper} (ho : ops[k]? = some o) : (S k).loc.length ≤ (S (k + 1)).loc.length ∧ (S k).H.length ≤ (S (k + 1)).H.length ∧ ∀ j ∈ J, (S (k + 1)).loc[j]? = (S k).loc[j]? ∨ (S k).loc.length ≤ j := by
  by_cases hc3 : cls.getD k 0 = 3
  · cases T.st k o ho with
    | out hw hv hs => rw [hs, put_loc, put_H]; exact ⟨Nat.le_refl _, Nat.le_refl _, fun _ _ => .inl rfl⟩
    | pure hw hc h hs => rw [hs, put_loc, put_H]; exact ⟨Nat.le_refl _, Nat.le_refl _, fun _ _ => .inl rfl⟩
    | quiet hw hc h hs => rw [hs, put_loc, put_H]; exact ⟨Nat.le_refl _, Nat.le_refl _, fun _ _ => .inl rfl⟩
    | make hw hc vi ob hv h hvi hok hs => rw [hc3] at hc; cases hc
    | turn hw hc s1 h ht hJ hl hH hs => rw [hs, put_loc, put_H]; exact ⟨hl, hH, fun j hj => .inl (hJ j hj)⟩
    | read hw hc j ob hj hob h hs => rw [hc3] at hc; cases hc
  · obtain ⟨⟨t, h1⟩, h2⟩ := T.loc ho hc3
    rw [h2, ← h1]
    refine ⟨by simp, Nat.le_refl _, fun j _ => ?_⟩
    rcases Nat.lt_or_ge j (S k).loc.length with h | h
    · exact .inl (List.getElem?_append_left h)
    · exact .inr h
theorem Trc.pre {k : Nat} : ∀ {e : Nat}, k ≤ e → e ≤ ops.length → (∀ j, k ≤ j → j < e → cls.getD j 0 ≠ 3) → (S k).loc <+: (S e).loc ∧ (S e).H = (S k).H
  | 0, hk, _, _ => by have : k = 0 := by omega
                      subst this; exact ⟨List.prefix_refl _, rfl⟩
  | e + 1, hk, he, h => by
    rcases Nat.eq_or_lt_of_le hk with h1 | h1
    · subst h1; exact ⟨List.prefix_refl _, rfl⟩
    · obtain ⟨h2, h3⟩ := Trc.pre (k := k) (e := e) (by omega) (by omega) (fun j hj hj' => h j hj (by omega))
      have hlt : e < ops.length := by omega
      obtain ⟨h4, h5⟩ := T.loc (List.getElem?_eq_getElem hlt) (h e (by omega) (by omega))
      exact ⟨h2.trans h4, h5.trans h3⟩
theorem Trc.mono {k : Nat} : ∀ {e : Nat}, k ≤ e → e ≤ ops.length → (S k).loc.length ≤ (S e).loc.length ∧ (S k).H.length ≤ (S e).H.length
  | 0, hk, _ => by have : k = 0 := by omega
                   subst this; exact ⟨Nat.le_refl _, Nat.le_refl _⟩
  | e + 1, hk, he => by
    rcases Nat.eq_or_lt_of_le hk with h1 | h1
    · subst h1; exact ⟨Nat.le_refl _, Nat.le_refl _⟩
    · obtain ⟨h2, h3⟩ := Trc.mono (k := k) (e := e) (by omega) (by omega)
      have hlt : e < ops.length := by omega
      obtain ⟨h4, h5, _⟩ := T.len (List.getElem?_eq_getElem hlt)
      exact ⟨Nat.le_trans h2 h4, Nat.le_trans h3 h5⟩
theorem Trc.keepJ {j : Nat} (hj : j ∈ J) : ∀ {e : Nat}, e ≤ ops.length → (S e).loc[j]? = (S 0).loc[j]?
  | 0, _ => rfl
  | e + 1, he => by
    have hlt : e < ops.length := by omega
    rw [← Trc.keepJ hj (e := e) (by omega)]
    obtain ⟨_, _, h⟩ := T.len (List.getElem?_eq_getElem hlt)
    rcases h j hj with h | h
    · exact h
    · have h1 := (T.mono (k := 0) (e := e) (Nat.zero_le _) (Nat.le_of_lt hlt)).1
      have h2 := T.hJ j hj
      omega
omit T in
theorem nextW (k : Nat) (hk : k ≤ ops.length) : ∃ e, k ≤ e ∧ e ≤ ops.length ∧ (∀ j, k ≤ j → j < e → cls.getD j 0 ≠ 3) ∧ (e = ops.length ∨ (e < ops.length ∧ cls.getD e 0 = 3)) := by
  have key : ∀ m k, k + m = ops.length → ∃ e, k ≤ e ∧ e ≤ ops.length ∧ (∀ j, k ≤ j → j < e → cls.getD j 0 ≠ 3) ∧ (e = ops.length ∨ (e < ops.length ∧ cls.getD e 0 = 3)) := by
    intro m
    induction m with
    | zero => intro k hk; exact ⟨k, Nat.le_refl _, by omega, fun j h1 h2 => by omega, .inl (by omega)⟩
    | succ m ih =>
      intro k hk
      by_cases h : cls.getD k 0 = 3
      · exact ⟨k, Nat.le_refl _, by omega, fun j h1 h2 => by omega, .inr ⟨by omega, h⟩⟩
      · obtain ⟨e, h1, h2, h3, h4⟩ := ih (k + 1) (by omega)
        refine ⟨e, by omega, h2, fun j hj hj' => ?_, h4⟩
        rcases Nat.eq_or_lt_of_le hj with e' | e'
        · subst e'; exact h
        · exact h3 j e' hj'
  exact key (ops.length - k) k (by omega)
end
end Go.Abs
/- Regions whose order is not the text's: whichever order. -/
set_option linter.unusedVariables false
set_option linter.unusedSimpArgs false
namespace Go.Abs
open Go.RowKit

def Don (listed : Array Bool) (k : Nat) : Prop := listed.getD k false = true

structure DInv (x : X) (c0 : Cx) (H0 : List AO) (N : Nat) (ops : List Oper) (cls : List Nat) (S : Nat → AS) (V : Nat → AV) (listed : Array Bool) (e : Nat) (c : Cx) (a : Act) : Prop where
  le : e ≤ ops.length
  wd : ∀ k, k < e → cls.getD k 0 = 3 → Don listed k
  we : e = ops.length ∨ (e < ops.length ∧ cls.getD e 0 = 3 ∧ ¬ Don listed e)
  mem : MemR c (S e).mem
  ev : Ev c0 H0 c (S e).mem
  len : H0.length ≤ (S e).H.length
  und : ∀ k o, ops[k]? = some o → k < e → cls.getD k 0 = 2 → wantA ops o (S k) = some true → ¬ Don listed k → ∀ ver, c.lam false (S k).loc.length ver = none
  t1 : ∀ j o i, ops[j]? = some o → Don listed j → o.dst = some i → VR c (V j) (a.tmps.getD i undef)
  t2 : ∀ i, (∀ j o, ops[j]? = some o → Don listed j → o.dst ≠ some i) → VR c ((S 0).get i) (a.tmps.getD i undef)
  size : a.tmps.size = N
  defs : DefsOK c0 c (S e).mem a.defers
  lsz : listed.size = ops.length
  cl : Closed ops (Don listed)

section
variable {x : X} {c0 : Cx} {H0 : List AO} {N : Nat} {ops : List Oper} {cls J : List Nat} {S : Nat → AS} {V : Nat → AV} (T : Trc x ops cls J S V) {listed : Array Bool} {e : Nat} {c : Cx} {a : Act}
include T

theorem DInv.temp (I : DInv x c0 H0 N ops cls S V listed e c a) {k : Nat} {o : Oper} (ho : ops[k]? = some o) (hk : ¬ Don listed k) (hr : ∀ p ∈ preds o, Don listed p) {t : Nat} (ht : t ∈ touch ops o) : VR c ((S k).get t) (a.tmps.getD t undef) := by
  have hkl := (List.getElem?_eq_some_iff.1 ho).1
  by_cases hex : ∃ (j : Nat) (oj : Oper), ops[j]? = some oj ∧ oj.dst = some t
  · obtain ⟨j, oj, hj, hd⟩ := hex
    rcases Nat.lt_trichotomy j k with h | h | h
    · have hdj := ahead_spec I.cl ho (T.dok.tl k j o oj t ho hj hd ht h) hr
      rw [T.w1 hj hd (by omega) h]
      exact I.t1 j oj t hj hdj hd
    · subst h
      have hne : ∀ (j' : Nat) (o' : Oper), ops[j']? = some o' → j' ≠ j → o'.dst ≠ some t := fun j' o' hj' hne => T.dok.one j' j o' oj t hj' hj hne hd
      rw [T.w2 (by omega) (fun j' o' hlt hj' => hne j' o' hj' (by omega))]
      refine I.t2 t (fun j' o' hj' hdn => ?_)
      by_cases e' : j' = j
      · subst e'; exact (hk hdn).elim
      · exact hne j' o' hj' e'
    · have hndj : ¬ Don listed j := fun hdj => hk (ahead_spec I.cl hj (T.dok.tr k j o oj t ho hj hd ht h) (I.cl j oj hj hdj))
      have hne : ∀ (j' : Nat) (o' : Oper), ops[j']? = some o' → j' ≠ j → o'.dst ≠ some t := fun j' o' hj' hne => T.dok.one j' j o' oj t hj' hj hne hd
      rw [T.w2 (by omega) (fun j' o' hlt hj' => hne j' o' hj' (by omega))]
      refine I.t2 t (fun j' o' hj' hdn => ?_)
      by_cases e' : j' = j
      · subst e'; exact (hndj hdn).elim
      · exact hne j' o' hj' e'
  · have hno : ∀ (j' : Nat) (o' : Oper), ops[j']? = some o' → o'.dst ≠ some t := fun j' o' h1 h2 => hex ⟨j', o', h1, h2⟩
    rw [T.w2 (by omega) (fun j' o' hlt hj' => hno j' o' hj')]
    exact I.t2 t (fun j' o' hj' _ => hno j' o' hj')

theorem DInv.oper (I : DInv x c0 H0 N ops cls S V listed e c a) {k : Nat} {o : Oper} (ho : ops[k]? = some o) (hk : ¬ Don listed k) (hr : ∀ p ∈ preds o, Don listed p) : ∀ y ∈ o.op.operands, VR c ((S k).ev y) (a.eval y) := by
  intro y hy
  cases y with
  | tmp t =>
    refine I.temp T ho hk hr ?_
    unfold touch
    rw [List.mem_append]
    left
    rw [List.mem_filterMap]
    exact ⟨.tmp t, by simpa using hy, rfl⟩
  | const v => exact VR_ofV c v
  | global g => trivial
  | func f => exact VR_func c f

omit T in
theorem don_set {listed : Array Bool} {k j : Nat} (hk : k < listed.size) : Don (listed.setIfInBounds k true) j ↔ j = k ∨ Don listed j := by
  unfold Don
  simp only [Array.getD_eq_getD_getElem?]
  by_cases e : k = j
  · subst e; simp [hk]
  · rw [Array.getElem?_setIfInBounds_ne e]
    simp [Ne.symm e]

omit T in
/-- What is put. -/
theorem tmps_put {a : Act} {d : Option Tmp} {m : Value} {i : Nat} (hd : ∀ t, d = some t → t < a.tmps.size) : (a.put d m).tmps.getD i undef = if d = some i then m else a.tmps.getD i undef := by
  cases d with
  | none => simp [Act.put]
  | some t =>
    simp only [Act.put, Array.getD_eq_getD_getElem?]
    by_cases e : t = i
    · subst e
      have := hd t rfl
      simp [this]
    · rw [Array.getElem?_setIfInBounds_ne e]
      have : ¬ (some t = some i) := by simpa using e
      rw [if_neg this]

/-- One more is done. -/
theorem DInv.step (I : DInv x c0 H0 N ops cls S V listed e c a) {k : Nat} {o : Oper} (ho : ops[k]? = some o) (hk : ¬ Don listed k) (hr : ∀ p ∈ preds o, Don listed p) (hN : ∀ t, o.dst = some t → t < N) {e' : Nat} {d : Cx} {m : Value}
    (hle : c.le d) (he : e ≤ e') (hle' : e' ≤ ops.length) (hwd : ∀ j, j < e' → cls.getD j 0 = 3 → j = k ∨ Don listed j) (hwe : e' = ops.length ∨ (e' < ops.length ∧ cls.getD e' 0 = 3 ∧ e' ≠ k ∧ ¬ Don listed e'))
    (hM : MemR d (S e').mem) (hE : Ev c0 H0 d (S e').mem) (hD : DefsOK c0 d (S e').mem a.defers) (hv : VR d (V k) m)
    (hund : ∀ j o, ops[j]? = some o → j < e' → cls.getD j 0 = 2 → wantA ops o (S j) = some true → ¬ Don listed j → j ≠ k → ∀ ver, d.lam false (S j).loc.length ver = none) :
    DInv x c0 H0 N ops cls S V (listed.setIfInBounds k true) e' d (a.put o.dst m) := by
  have hkl : k < listed.size := by rw [I.lsz]; exact (List.getElem?_eq_some_iff.1 ho).1
  have hds : ∀ t, o.dst = some t → t < a.tmps.size := fun t ht => by rw [I.size]; exact hN t ht
  refine ⟨hle', ?_, ?_, hM, hE, Nat.le_trans I.len (T.mono he hle').2, ?_, ?_, ?_, ?_, ?_, ?_, ?_⟩
  · intro j hj h3
    rw [don_set hkl]
    exact hwd j hj h3
  · rcases hwe with h | ⟨h1, h2, h3, h4⟩
    · exact .inl h
    · refine .inr ⟨h1, h2, ?_⟩
      rw [don_set hkl]
      rintro (h | h)
      · exact h3 h
      · exact h4 h
  · intro j oj hj hlt h2 hw hnd
    rw [don_set hkl] at hnd
    exact hund j oj hj hlt h2 hw (fun h => hnd (.inr h)) (fun h => hnd (.inl h))
  · intro j oj i hj hdj hd
    rw [don_set hkl] at hdj
    rw [tmps_put hds]
    by_cases ejk : j = k
    · subst ejk
      rw [ho] at hj
      cases hj
      rw [if_pos hd]; exact hv
    · rw [if_neg (T.dok.one k j o oj i ho hj (Ne.symm ejk) hd)]
      exact VR_mono hle (I.t1 j oj i hj (hdj.resolve_left ejk) hd)
  · intro i hi
    rw [tmps_put hds, if_neg (hi k o ho ((don_set hkl).2 (.inl rfl)))]
    exact VR_mono hle (I.t2 i (fun j oj hj hdj => hi j oj hj ((don_set hkl).2 (.inr hdj))))
  · rw [put_size]; exact I.size
  · rw [put_defers]; exact hD
  · simpa using I.lsz
  · intro j oj hj hdj p hp
    rw [don_set hkl] at hdj ⊢
    rcases hdj with rfl | hdj
    · rw [ho] at hj
      cases hj
      exact .inr (hr p hp)
    · exact .inr (I.cl j oj hj hdj p hp)

/-- Ahead of 'e' when it is no turning one. -/
theorem DInv.before (I : DInv x c0 H0 N ops cls S V listed e c a) {k : Nat} {o : Oper} (ho : ops[k]? = some o) (hk : ¬ Don listed k) (hr : ∀ p ∈ preds o, Don listed p) (h1 : 1 ≤ cls.getD k 0) (h3 : cls.getD k 0 ≠ 3) (h4 : cls.getD k 0 ≠ 4) :
    k < e ∧ ∀ j, k ≤ j → j < e → cls.getD j 0 ≠ 3 := by
  have hkl := (List.getElem?_eq_some_iff.1 ho).1
  refine ⟨?_, ?_⟩
  · rcases Nat.lt_or_ge k e with h | h
    · exact h
    · rcases I.we with he | ⟨he, h5, h6⟩
      · omega
      · rcases Nat.eq_or_lt_of_le h with h7 | h7
        · subst h7; exact (h3 h5).elim
        · exact (h6 (ahead_spec I.cl ho (T.dok.wl k e hkl he h5 h1 h4 h7) hr)).elim
  · intro j hj hje hc
    have hjd := I.wd j hje hc
    have hjl : j < ops.length := Nat.lt_of_lt_of_le hje I.le
    have hoj : ops[j]? = some ops[j] := List.getElem?_eq_getElem hjl
    rcases Nat.eq_or_lt_of_le hj with h7 | h7
    · subst h7; exact h3 hc
    · exact hk (ahead_spec I.cl hoj (T.dok.wr k j hkl hjl hc h1 h4 h7) (I.cl j _ hoj hjd))

/-- A turning one comes just when it is its turn. -/
theorem DInv.turn (I : DInv x c0 H0 N ops cls S V listed e c a) {k : Nat} {o : Oper} (ho : ops[k]? = some o) (hk : ¬ Don listed k) (hr : ∀ p ∈ preds o, Don listed p) (h3 : cls.getD k 0 = 3) : k = e := by
  have hkl := (List.getElem?_eq_some_iff.1 ho).1
  rcases Nat.lt_trichotomy k e with h | h | h
  · exact (hk (I.wd k h h3)).elim
  · exact h
  · rcases I.we with he | ⟨he, h5, h6⟩
    · omega
    · exact (h6 (ahead_spec I.cl ho (T.dok.wl k e hkl he h5 (by omega) (by omega) h) hr)).elim

end
end Go.Abs
/- Regions whose order is not the text's: the law. -/
set_option linter.unusedVariables false
set_option linter.unusedSimpArgs false
namespace Go.Abs
open Go.RowKit

def cnt (listed : Array Bool) : Nat → Nat
  | 0 => 0
  | m + 1 => cnt listed m + (if listed.getD m false then 0 else 1)

theorem cnt_zero {listed : Array Bool} : ∀ {n : Nat}, cnt listed n = 0 → ∀ k, k < n → Don listed k
  | 0, _, k, hk => by omega
  | n + 1, h, k, hk => by
    simp only [cnt] at h
    rcases Nat.eq_or_lt_of_le (Nat.le_of_lt_succ hk) with e | e
    · subst e
      unfold Don
      by_cases hc : listed.getD k false = true
      · exact hc
      · rw [if_neg hc] at h; omega
    · exact cnt_zero (n := n) (by omega) k e
theorem cnt_set {listed : Array Bool} {k : Nat} (hk : k < listed.size) (hn : ¬ Don listed k) : ∀ n, cnt (listed.setIfInBounds k true) n + (if k < n then 1 else 0) = cnt listed n
  | 0 => by simp [cnt]
  | n + 1 => by
    have ih := cnt_set hk hn n
    simp only [cnt]
    by_cases e : k = n
    · subst e
      have h1 : (listed.setIfInBounds k true).getD k false = true := (don_set hk).2 (.inl rfl)
      have h2 : ¬ (listed.getD k false = true) := hn
      rw [if_pos h1, if_neg h2]
      simp at ih ⊢
      omega
    · have h1 : ((listed.setIfInBounds k true).getD n false = true) ↔ (listed.getD n false = true) := by
        have := don_set (listed := listed) (j := n) hk
        unfold Don at this
        rw [this]
        constructor
        · rintro (h | h)
          · exact (e h.symm).elim
          · exact h
        · exact .inr
      have h3 : (k < n + 1) ↔ (k < n) := by omega
      simp only [h1, h3]
      omega

theorem want_sound {arr : Array Oper} {o : Oper} {s : AS} {b : Bool} {c : Cx} {a : Act} (h : wantA arr.toList o s = some b) (ht : ∀ t ∈ touch arr.toList o, VR c (s.get t) (a.tmps.getD t undef)) (hs : ∀ t ∈ touch arr.toList o, o.guard.isSome = true → (∃ j w, o.guard = some (j, w) ∧ (arr.toList[j]?).bind (·.dst) = some t) → t < a.tmps.size) : Region.wanted o (yielded arr a.tmps) = b := by
  unfold wantA at h
  unfold Region.wanted
  cases hg : o.guard with
  | none => rw [hg] at h; simpa using h
  | some p =>
    obtain ⟨j, want⟩ := p
    rw [hg] at h
    simp only at h ⊢
    cases hd : (arr.toList[j]?).bind (·.dst) with
    | none => rw [hd] at h; cases h
    | some d =>
      rw [hd] at h
      simp only at h
      have hm : d ∈ touch arr.toList o := by
        unfold touch
        rw [hg, List.mem_append]
        right
        show d ∈ ((arr.toList[j]?).bind (·.dst)).toList
        rw [hd]; simp
      have hv := ht d hm
      have hlt := hs d hm (by rw [hg]; rfl) ⟨j, want, hg, hd⟩
      have hd' : (arr[j]?).bind (·.dst) = some d := by
          have e1 : arr.toList[j]? = arr[j]? := Array.getElem?_toList
          rw [e1] at hd
          exact hd
      split at h
      · rename_i b' hb
        rw [hb] at hv
        have hv := VR_bool hv
        have hy : yielded arr a.tmps j = some b' := by
          have h1 : a.tmps[d]? = some (.bool b') := by
            rw [Array.getD_eq_getD_getElem?] at hv
            rw [Array.getElem?_eq_getElem hlt] at hv ⊢
            simpa using hv
          simp only [yielded, hd', Option.bind_some, h1]
        rw [hy]
        cases h
        cases b' <;> cases want <;> rfl
      · rename_i vs hb
        rw [hb] at hv
        simp only [VR] at hv
        obtain ⟨ms, hms, _⟩ := hv
        have hy : yielded arr a.tmps j = none := by
          rw [Array.getD_eq_getD_getElem?] at hms
          rw [Array.getElem?_eq_getElem hlt] at hms
          simp only [Option.getD_some] at hms
          simp only [yielded, hd', Option.bind_some, Array.getElem?_eq_getElem hlt, hms]
        rw [hy]
        cases h
        rfl
      · cases h

section
variable {x : X} {c0 : Cx} {H0 : List AO} {N : Nat} {arr : Array Oper} {cls J : List Nat} {S : Nat → AS} {V : Nat → AV} (T : Trc x arr.toList cls J S V) {listed : Array Bool} {e : Nat} {c : Cx} {a : Act}
include T

theorem Trc.made {k : Nat} {o : Oper} (ho : arr.toList[k]? = some o) (h2 : cls.getD k 0 = 2) (hw : wantA arr.toList o (S k) = some true) : (S (k + 1)).loc.length = (S k).loc.length + 1 := by
  cases T.st k o ho with
  | out hw' hv hs => rw [hw] at hw'; cases hw'
  | pure hw' hc h hs => rw [h2] at hc; cases hc
  | quiet hw' hc h hs => rw [h2] at hc; cases hc
  | make hw' hc vi ob hv h hvi hok hs => rw [hs, put_loc]; simp [AS.push]
  | turn hw' hc s1 h ht hJ hl hH hs => rw [h2] at hc; cases hc
  | read hw' hc j ob hj hob h hs => rw [h2] at hc; cases hc

/-- One that turns nothing. -/
theorem DInv.still (I : DInv x c0 H0 N arr.toList cls S V listed e c a) {k : Nat} {o : Oper} (ho : arr.toList[k]? = some o) (hk : ¬ Don listed k) (hr : ∀ p ∈ preds o, Don listed p) (hN : ∀ t, o.dst = some t → t < N) {d : Cx} {m : Value} (h3 : cls.getD k 0 ≠ 3)
    (hle : c.le d) (hM : MemR d (S e).mem) (hE : Ev c0 H0 d (S e).mem) (hD : DefsOK c0 d (S e).mem a.defers) (hv : VR d (V k) m)
    (hund : ∀ j o, arr.toList[j]? = some o → j < e → cls.getD j 0 = 2 → wantA arr.toList o (S j) = some true → ¬ Don listed j → j ≠ k → ∀ ver, d.lam false (S j).loc.length ver = none) :
    DInv x c0 H0 N arr.toList cls S V (listed.setIfInBounds k true) e d (a.put o.dst m) := by
  refine I.step T ho hk hr hN hle (Nat.le_refl _) I.le (fun j hj h => .inr (I.wd j hj h)) ?_ hM hE hD hv hund
  rcases I.we with h | ⟨h1, h2, h4⟩
  · exact .inl h
  · exact .inr ⟨h1, h2, fun ek => h3 (by rw [← ek]; exact h2), h4⟩

/-- A turning one. -/
theorem DInv.turned (I : DInv x c0 H0 N arr.toList cls S V listed e c a) {k : Nat} {o : Oper} (ho : arr.toList[k]? = some o) (hk : ¬ Don listed k) (hr : ∀ p ∈ preds o, Don listed p) (hN : ∀ t, o.dst = some t → t < N) {d : Cx} {m : Value} (h3 : cls.getD k 0 = 3) (hke : k = e)
    (hle : c.le d) (hM : MemR d (S (k + 1)).mem) (hE : Ev c0 H0 d (S (k + 1)).mem) (hD : DefsOK c0 d (S (k + 1)).mem a.defers) (hv : VR d (V k) m) :
    ∃ e', DInv x c0 H0 N arr.toList cls S V (listed.setIfInBounds k true) e' d (a.put o.dst m) := by
  have hkl := (List.getElem?_eq_some_iff.1 ho).1
  obtain ⟨e', g1, g2, g3, g4⟩ := nextW (ops := arr.toList) (cls := cls) (k + 1) hkl
  obtain ⟨p1, p2⟩ := T.pre g1 g2 g3
  have hmem : (S e').mem = Abs.mem (S e').loc (S (k + 1)).H := by rw [← p2]; rfl
  have hM' : MemR d (S e').mem := by rw [hmem]; exact MemR_ext hM p1
  have hE' : Ev c0 H0 d (S e').mem := by rw [hmem]; exact Ev_ext hM hE p1
  have hD' : DefsOK c0 d (S e').mem a.defers := by rw [hmem]; exact Defs_ext hM hD p1
  refine ⟨e', I.step T ho hk hr hN hle (by omega) g2 ?_ ?_ hM' hE' hD' hv ?_⟩
  · intro j hj h
    rcases Nat.lt_trichotomy j k with hlt | hlt | hlt
    · exact .inr (I.wd j (by omega) h)
    · exact .inl hlt
    · exact (g3 j (by omega) hj h).elim
  · rcases g4 with h | ⟨h1, h2⟩
    · exact .inl h
    · refine .inr ⟨h1, h2, by omega, ?_⟩
      intro hd
      have hoe : arr.toList[e']? = some arr.toList[e'] := List.getElem?_eq_getElem h1
      exact hk (ahead_spec I.cl hoe (T.dok.wr k e' hkl h1 h2 (by omega) (by omega) (by omega)) (I.cl e' _ hoe hd))
  · intro j oj hj hje h2 hw hnd hne ver
    have hjl := (List.getElem?_eq_some_iff.1 hj).1
    rcases Nat.lt_or_ge j k with hlt | hlt
    · exact (hnd (ahead_spec I.cl ho (T.dok.wr j k hjl hkl h3 (by omega) (by omega) hlt) hr)).elim
    · have hmono := (T.mono (k := k + 1) (e := j) (by omega) (by omega)).1
      cases hl : d.lam false (S j).loc.length ver with
      | none => rfl
      | some q =>
        obtain ⟨u, hu, _⟩ := hM.dom _ _ _ _ hl
        have := getlt hu
        rw [mem_len_false] at this
        omega
end
end Go.Abs
/- Regions whose order is not the text's: soundness. -/
set_option linter.unusedVariables false
set_option linter.unusedSimpArgs false
namespace Go.Abs
open Go.RowKit

theorem mem_ready {ops : Array Oper} {listed : Array Bool} (hl : listed.size = ops.size) {i : Nat} : i ∈ Region.ready .any ops listed ↔ ∃ o, ops.toList[i]? = some o ∧ ¬ Don listed i ∧ ∀ p ∈ preds o, Don listed p := by
  unfold Region.ready
  rw [List.mem_filter, List.mem_range]
  constructor
  · rintro ⟨h1, h2⟩
    rw [Bool.and_eq_true] at h2
    obtain ⟨h2, h3⟩ := h2
    have ho : ops[i]? = some ops[i] := Array.getElem?_eq_getElem h1
    refine ⟨ops[i], by rw [Array.getElem?_toList]; exact ho, ?_, ?_⟩
    · unfold Don
      have hli : i < listed.size := by omega
      simp only [Array.getD_eq_getD_getElem?, Array.getElem?_eq_getElem hli, Option.getD_some, Bool.not_eq_true', Bool.not_eq_true] at h2 ⊢
      exact h2
    · intro p hp
      rw [ho] at h3
      simp only [Option.map_some, Option.getD_some] at h3
      unfold preds at hp
      rw [List.mem_map] at hp
      obtain ⟨e, he, rfl⟩ := hp
      rw [List.mem_filter] at he
      obtain ⟨he, hb⟩ := he
      rw [Array.all_eq_true'] at h3
      have := h3 e (by simpa using he)
      rw [hb] at this
      simpa [Don] using this
  · rintro ⟨o, ho, hn, hp⟩
    rw [Array.getElem?_toList] at ho
    have hi := (Array.getElem?_eq_some_iff.1 ho).1
    have hli : i < listed.size := by omega
    refine ⟨hi, ?_⟩
    rw [Bool.and_eq_true]
    constructor
    · unfold Don at hn
      simp only [Array.getD_eq_getD_getElem?, Array.getElem?_eq_getElem hli, Option.getD_some, Bool.not_eq_true', Bool.not_eq_true] at hn ⊢
      exact hn
    · rw [ho]
      simp only [Option.map_some, Option.getD_some]
      rw [Array.all_eq_true']
      intro e he
      cases hb : Region.binds .any e with
      | false => simp
      | true =>
        have : Don listed e.on := hp e.on (by
          unfold preds
          rw [List.mem_map]
          exact ⟨e, by rw [List.mem_filter]; exact ⟨by simpa using he, hb⟩, rfl⟩)
        simpa [Don] using this

theorem MemR_w {c : Cx} {M : Mem} (hM : MemR c M) {w : World} (hh : w.heap = c.w.heap) : MemR ⟨w, c.Fz, c.lam⟩ M := by
  have hle : c.le ⟨w, c.Fz, c.lam⟩ := ⟨fun _ h => h, fun m _ => by simp [hh], fun _ _ _ _ h => h⟩
  exact ⟨fun sh j o pl h1 h2 => ObjAt_keep (hM.obj sh j o pl h1 h2) hle (fun _ a _ => by simp [hh]), hM.dom, hM.sep, hM.unf, fun m h => by simp only [hh]; exact hM.fzl m h⟩

section
variable {x : X} {c0 : Cx} {H0 : List AO} {N : Nat} {arr : Array Oper} {cls J : List Nat} {S : Nat → AS} {V : Nat → AV} (T : Trc x arr.toList cls J S V)
include T

theorem DInv.all {listed : Array Bool} {e : Nat} {c : Cx} {a : Act} (I : DInv x c0 H0 N arr.toList cls S V listed e c a) (hr : Region.ready .any arr listed = []) : ∀ k, k < arr.toList.length → Don listed k := by
  intro k
  induction k using Nat.strongRecOn with
  | ind k ih =>
    intro hk
    have ho : arr.toList[k]? = some arr.toList[k] := List.getElem?_eq_getElem hk
    by_cases hd : Don listed k
    · exact hd
    · have hm : k ∈ Region.ready .any arr listed := (mem_ready (by simpa using I.lsz)).2 ⟨_, ho, hd, fun p hp => by
        have := T.dok.back k _ ho p hp
        exact ih p this (by omega)⟩
      rw [hr] at hm
      simp at hm

theorem DInv.fin {listed : Array Bool} {e : Nat} {c : Cx} {a : Act} (I : DInv x c0 H0 N arr.toList cls S V listed e c a) (hall : ∀ k, k < arr.toList.length → Don listed k) : Inv x c0 H0 N (S arr.toList.length) c a := by
  have he : e = arr.toList.length := by
    rcases I.we with h | ⟨h1, _, h3⟩
    · exact h
    · exact (h3 (hall e h1)).elim
  subst he
  refine ⟨I.mem, I.ev, I.len, ?_, I.size, I.defs⟩
  intro i
  by_cases hex : ∃ (j : Nat) (o : Oper), arr.toList[j]? = some o ∧ o.dst = some i
  · obtain ⟨j, o, hj, hd⟩ := hex
    have hjl := (List.getElem?_eq_some_iff.1 hj).1
    rw [T.w1 hj hd (Nat.le_refl _) hjl]
    exact I.t1 j o i hj (hall j hjl) hd
  · have hno : ∀ (j' : Nat) (o' : Oper), arr.toList[j']? = some o' → o'.dst ≠ some i := fun j' o' h1 h2 => hex ⟨j', o', h1, h2⟩
    rw [T.w2 (Nat.le_refl _) (fun j' o' _ hj' => hno j' o' hj')]
    exact I.t2 i (fun j' o' hj' _ => hno j' o' hj')

/-- One that is ready. -/
theorem DInv.next {listed : Array Bool} {e : Nat} {c : Cx} {a : Act} {Q : Exit → Act → World → Prop} {K : Act → World → Prop} (I : DInv x c0 H0 N arr.toList cls S V listed e c a) (hN : ∀ o ∈ arr.toList, ∀ d, o.dst = some d → d < N) (hdf : ∀ o ∈ arr.toList, isDefer o.op = false)
    {k : Nat} {o : Oper} (ho : arr.toList[k]? = some o) (hk : ¬ Don listed k) (hr : ∀ p ∈ preds o, Don listed p)
    (hK : ∀ e' d a', DInv x c0 H0 N arr.toList cls S V (listed.setIfInBounds k true) e' d a' → K a' d.w) : wpOpIn (fen x.rd) 0 x.P arr Q k K a c.w := by
  have hkl := (List.getElem?_eq_some_iff.1 ho).1
  have hNo : ∀ t, o.dst = some t → t < N := fun t ht => hN o (List.mem_of_getElem? ho) t ht
  have hops := I.oper T ho hk hr
  have hwant : ∀ b, wantA arr.toList o (S k) = some b → Region.wanted o (yielded arr a.tmps) = b := by
    intro b hb
    refine want_sound hb (fun t ht => I.temp T ho hk hr ht) ?_
    rintro t _ _ ⟨j, w, _, hj⟩
    rw [I.size]
    rw [Option.bind_eq_some_iff] at hj
    obtain ⟨oj, h1, h2⟩ := hj
    exact hN oj (List.mem_of_getElem? h1) t h2
  unfold wpOpIn
  have ho' : arr[k]? = some o := by rw [← Array.getElem?_toList]; exact ho
  simp only [ho']
  have eset : ∀ j oj, arr.toList[j]? = some oj → j < e → cls.getD j 0 = 2 → wantA arr.toList oj (S j) = some true → (S j).loc.length < (S e).loc.length := by
    intro j oj hj hje h2 hw
    have h1 := T.made hj h2 hw
    have h3 := (T.mono (k := j + 1) (e := e) (by omega) I.le).1
    omega
  cases T.st k o ho with
  | out hw hv hs =>
    rw [hwant _ hw]
    simp only [Bool.false_eq_true, if_false]
    refine ⟨fun _ _ => trivial, ?_⟩
    have hvr : VR c (V k) undef := by rw [hv]; exact VR_undef c
    by_cases h3 : cls.getD k 0 = 3
    · have hke := I.turn T ho hk hr h3
      have hm : (S (k + 1)).mem = (S e).mem := by rw [hs, put_mem, hke]
      obtain ⟨e', I'⟩ := I.turned T ho hk hr hNo h3 hke (Cx.le.refl c) (by rw [hm]; exact I.mem) (by rw [hm]; exact I.ev) (by rw [hm]; exact I.defs) hvr
      exact hK e' c _ I'
    · exact hK e c _ (I.still T ho hk hr hNo h3 (Cx.le.refl c) I.mem I.ev I.defs hvr (fun j oj hj hje h2 hw' hnd _ => I.und j oj hj hje h2 hw' hnd))
  | pure hw hc h hs =>
    rw [hwant _ hw]
    simp only [if_true]
    refine wpX_in (hdf o (List.mem_of_getElem? ho)) ?_
    obtain ⟨m, hrun, hv⟩ := h c a.eval hops
    unfold Oper.wpX
    rw [hrun]
    exact hK e c _ (I.still T ho hk hr hNo (by omega) (Cx.le.refl c) I.mem I.ev I.defs hv (fun j oj hj hje h2 hw' hnd _ => I.und j oj hj hje h2 hw' hnd))
  | quiet hw hc h hs =>
    rw [hwant _ hw]
    simp only [if_true]
    refine wpX_in (hdf o (List.mem_of_getElem? ho)) ?_
    obtain ⟨hke, hno3⟩ := I.before T ho hk hr (by omega) (by omega) (by omega)
    obtain ⟨p1, p2⟩ := T.pre (Nat.le_of_lt hke) I.le hno3
    have hmem : (S e).mem = Abs.mem (S e).loc (S k).H := by rw [← p2]; rfl
    have hM := I.mem
    have hE := I.ev
    have hD := I.defs
    rw [hmem] at hM hE hD
    refine wpX_mono ?_ (h (S e).loc p1 c a Q hM hops)
    rintro a' w' ⟨v, s', d, m, rfl, rfl, ⟨rfl, rfl⟩, h2, h3, h4, h5⟩
    refine hK e d _ (I.still T ho hk hr hNo (by omega) (h4.le hM) (by rw [hmem]; exact h3) (by rw [hmem]; exact hE.step h4) (by rw [hmem]; exact hD.step h4) h2 ?_)
    intro j oj hj hje h2' hw' hnd _
    exact h4.und _ (eset j oj hj hje h2' hw') (I.und j oj hj hje h2' hw' hnd)
  | make hw hc vi ob hv h hvi hok hs =>
    rw [hwant _ hw]
    simp only [if_true]
    refine wpX_in (hdf o (List.mem_of_getElem? ho)) ?_
    obtain ⟨hke, hno3⟩ := I.before T ho hk hr (by omega) (by omega) (by omega)
    obtain ⟨p1, p2⟩ := T.pre (k := k + 1) hke I.le (fun j hj hj' => hno3 j (by omega) hj')
    have e1 : (S (k + 1)).loc = (S k).loc ++ [ob] := by rw [hs, put_loc]; rfl
    have e2 : (S (k + 1)).H = (S k).H := by rw [hs, put_H]; rfl
    rw [e1] at p1
    rw [e2] at p2
    have hmem : (S e).mem = Abs.mem (S e).loc (S k).H := by rw [← p2]; rfl
    have hM := I.mem
    have hE := I.ev
    have hD := I.defs
    rw [hmem] at hM hE hD
    obtain ⟨m, d, hrun, g1, g2, g3, g4, g6, g5⟩ := slot h hvi hok p1 hM (I.und k o ho hke hc hw hk) hops
    unfold Oper.wpX
    rw [hrun]
    refine hK e d _ (I.still T ho hk hr hNo (by omega) g3 (by rw [hmem]; exact g2) (by rw [hmem]; exact g4 _ _ hE) (by rw [hmem]; exact g6 _ _ hD) (by rw [hv]; exact g1) ?_)
    intro j oj hj hje h2' hw' hnd hne
    refine g5 _ ?_ (I.und j oj hj hje h2' hw' hnd)
    have hm1 := T.made hj h2' hw'
    have hm2 := T.made ho hc hw
    have hjl := (List.getElem?_eq_some_iff.1 hj).1
    rcases Nat.lt_or_ge j k with hlt | hlt
    · have := (T.mono (k := j + 1) (e := k) (by omega) (by omega)).1
      omega
    · have := (T.mono (k := k + 1) (e := j) (by omega) (by omega)).1
      omega
  | turn hw hc s1 h ht hJ hl hH hs =>
    rw [hwant _ hw]
    simp only [if_true]
    refine wpX_in (hdf o (List.mem_of_getElem? ho)) ?_
    have hke := I.turn T ho hk hr hc
    have hM := I.mem
    have hE := I.ev
    have hD := I.defs
    rw [← hke] at hM hE hD
    refine wpX_mono ?_ (h c a Q hM hops)
    rintro a' w' ⟨v, s', d, m, rfl, rfl, ⟨rfl, rfl⟩, h2, h3, h4, h5⟩
    have hm : (S (k + 1)).mem = s'.mem := by rw [hs, put_mem]
    obtain ⟨e', I'⟩ := I.turned T ho hk hr hNo hc hke (h4.le hM) (by rw [hm]; exact h3) (by rw [hm]; exact hE.step h4) (by rw [hm]; exact hD.step h4) h2
    exact hK e' d _ I'
  | read hw hc j ob hj hob h hs =>
    rw [hwant _ hw]
    simp only [if_true]
    refine wpX_in (hdf o (List.mem_of_getElem? ho)) ?_
    have hje : ((S e).mem false)[j]? = some ob := by
      show (S e).loc[j]? = some ob
      rw [T.keepJ hj I.le, ← T.keepJ hj (Nat.le_of_lt hkl)]
      exact hob
    obtain ⟨m, hrun, hv⟩ := h (S e).mem c a.eval I.mem hje hops
    unfold Oper.wpX
    rw [hrun]
    exact hK e c _ (I.still T ho hk hr hNo (by omega) (Cx.le.refl c) I.mem I.ev I.defs hv (fun j oj hj hje h2 hw' hnd _ => I.und j oj hj hje h2 hw' hnd))

theorem draw_any {Q : Exit → Act → World → Prop} (hN : ∀ o ∈ arr.toList, ∀ d, o.dst = some d → d < N) (hdf : ∀ o ∈ arr.toList, isDefer o.op = false) (hQ : ∀ c a, Inv x c0 H0 N (S arr.toList.length) c a → Q .normal a c.w) :
    ∀ (fuel : Nat) (listed : Array Bool) (e : Nat) (c : Cx) (a : Act), cnt listed arr.toList.length ≤ fuel → DInv x c0 H0 N arr.toList cls S V listed e c a → wpAnyIn (fen x.rd) 0 x.P .any arr Q fuel listed a c.w
  | 0, listed, e, c, a, hf, I => by
    have hall := cnt_zero (n := arr.toList.length) (listed := listed) (by omega)
    refine ⟨?_, hQ c a (I.fin T hall)⟩
    rw [List.eq_nil_iff_forall_not_mem]
    intro i hi
    obtain ⟨o, ho, hn, _⟩ := (mem_ready (by simpa using I.lsz)).1 hi
    exact hn (hall i (List.getElem?_eq_some_iff.1 ho).1)
  | fuel + 1, listed, e, c, a, hf, I => by
    refine ⟨fun hr => hQ c a (I.fin T (I.all T hr)), ?_⟩
    intro k hk
    obtain ⟨o, ho, hn, hp⟩ := (mem_ready (by simpa using I.lsz)).1 hk
    refine I.next T hN hdf ho hn hp ?_
    intro e' d a' I'
    refine draw_any hN hdf hQ fuel _ e' d a' ?_ I'
    have hkl := (List.getElem?_eq_some_iff.1 ho).1
    have := cnt_set (k := k) (listed := listed) (by rw [I.lsz]; exact hkl) hn arr.toList.length
    rw [if_pos hkl] at this
    omega

theorem DInv.zero {c : Cx} {a : Act} (hi : Inv x c0 H0 N (S 0) c a) : ∃ e, DInv x c0 H0 N arr.toList cls S V (Array.replicate arr.size false) e c a := by
  have hnd : ∀ k, ¬ Don (Array.replicate arr.size false) k := by
    intro k h
    unfold Don at h
    rw [Array.getD_eq_getD_getElem?, Array.getElem?_replicate] at h
    split at h <;> simp at h
  obtain ⟨e, g1, g2, g3, g4⟩ := nextW (ops := arr.toList) (cls := cls) 0 (Nat.zero_le _)
  obtain ⟨p1, p2⟩ := T.pre g1 g2 g3
  have hmem : (S e).mem = Abs.mem (S e).loc (S 0).H := by rw [← p2]; rfl
  refine ⟨e, g2, fun j hj h => (g3 j (Nat.zero_le _) hj h).elim, ?_, ?_, ?_, ?_, ?_, ?_, ?_, hi.size, ?_, by simp, ?_⟩
  · rcases g4 with h | ⟨h1, h2⟩
    · exact .inl h
    · exact .inr ⟨h1, h2, hnd e⟩
  · rw [hmem]; exact MemR_ext hi.mem p1
  · rw [hmem]; exact Ev_ext hi.mem hi.ev p1
  · rw [p2]; exact hi.len
  · intro k o ho hke h2 hw _ ver
    have hkl := (List.getElem?_eq_some_iff.1 ho).1
    have hmono := (T.mono (k := 0) (e := k) (Nat.zero_le _) (Nat.le_of_lt hkl)).1
    cases hl : c.lam false (S k).loc.length ver with
    | none => rfl
    | some q =>
      obtain ⟨u, hu, _⟩ := hi.mem.dom _ _ _ _ hl
      have := getlt hu
      rw [mem_len_false] at this
      omega
  · intro j o i hj hd; exact (hnd j hd).elim
  · intro i _; exact hi.tr i
  · rw [hmem]; exact Defs_ext hi.mem hi.defs p1
  · intro k o ho hd; exact (hnd k hd).elim

theorem awp_draw {s : AS} {id : Nat} {Q : Exit → AS → Prop} (hf : x.P.follows .mixedOrders = true) (h0 : S 0 = s) (hQ : Q .normal (S arr.toList.length)) : AWP x N (.region id arr true) s Q := by
  intro hc c0 H0 c a hi
  subst h0
  simp only [codeOK, Array.all_eq_true'] at hc
  refine wpIn_region_any hf ?_
  have hi' : Inv x c0 H0 N (S 0) ⟨{ c.w with drawn := c.w.drawn + 1 }, c.Fz, c.lam⟩ a := by
    have hle : c.le ⟨{ c.w with drawn := c.w.drawn + 1 }, c.Fz, c.lam⟩ := ⟨fun _ h => h, fun m _ => rfl, fun _ _ _ _ h => h⟩
    have hst : Step c (S 0).mem ⟨{ c.w with drawn := c.w.drawn + 1 }, c.Fz, c.lam⟩ (S 0).mem := ⟨⟨Nat.le_refl _, rfl, rfl, rfl, fun _ _ _ => rfl⟩, fun _ h => h, fun _ h => .inl h, fun _ _ _ _ h => h, fun sh j m h => .inr ⟨sh, j, h⟩, Nat.le_refl _, Nat.le_refl _, fun _ _ h => h⟩
    exact ⟨MemR_w hi.mem rfl, hi.ev.step hst, hi.len, hi.tr.mono hle, hi.size, hi.defs.step hst⟩
  obtain ⟨e, I⟩ := DInv.zero T hi'
  have hsz : arr.size = arr.toList.length := by simp
  refine draw_any T ?_ ?_ (fun c' a' h => ⟨_, c', rfl, hQ, h⟩) arr.size _ e _ a ?_ I
  · intro o ho d hd
    have := hc o (by simpa using ho)
    rw [hd] at this
    simp only [Bool.and_eq_true, decide_eq_true_eq] at this
    exact this.2
  · intro o ho
    have := hc o (by simpa using ho)
    simp only [Bool.and_eq_true, Bool.not_eq_true'] at this
    exact this.1
  · rw [hsz]
    have : ∀ (l : Array Bool) n, cnt l n ≤ n := by
      intro l n
      induction n with
      | zero => simp [cnt]
      | succ n ih => simp only [cnt]; split <;> omega
    exact this _ _
end
end Go.Abs
/- Regions whose order is not the text's: what each operation asks there. -/
set_option linter.unusedVariables false
set_option linter.unusedSimpArgs false
namespace Go.Abs
open Go.RowKit

def pureK : Op → Bool
  | .alloc _ | .box _ _ | .buildSlice _ _ _ | .load _ _ | .store _ _ _ | .makeMap _ _ | .lookup _ _ _ _ | .mapUpdate _ _ _ _ | .makeSlice _ _ _ => false
  | .call c => match c.callee with
    | .builtin .len | .builtin .min | .builtin .max => true
    | _ => false
  | _ => true
def fnK : Op → Bool
  | .call c => match c.callee with
    | .value _ => true
    | _ => false
  | _ => false

def Det (x : X) (o : Oper) (s : AS) (K : AV → AS → Prop) : Prop := ∃ v s', ((Pure x.P o s v ∧ s' = s) ∨ (Sim x.P o s v s' ∧ s'.t = s.t ∧ pureK o.op = false)) ∧ K v s'
theorem Det.of_pure {x : X} {o : Oper} {s : AS} {v : AV} {K : AV → AS → Prop} (h : Pure x.P o s v) (hk : K v s) : Det x o s K := ⟨v, s, .inl ⟨h, rfl⟩, hk⟩
theorem Det.of_sim {x : X} {o : Oper} {s s' : AS} {v : AV} {K : AV → AS → Prop} (h : Sim x.P o s v s') (ht : s'.t = s.t) (hp : pureK o.op = false) (hk : K v s') : Det x o s K := ⟨v, s', .inr ⟨h, ht, hp⟩, hk⟩

theorem det_call {x : X} {o : Oper} {s : AS} {K : AV → AS → Prop} {c : Call} (ho : o.op = .call c) (hf : fnK (.call c) = false) (h : pCall x s c K) : Det x o s K := by
  obtain ⟨callee, args, ats⟩ := c
  unfold pCall at h
  simp only at h
  split at h
  · simp [fnK] at hf
  · split at h
    · rename_i y t e1 e2
      have e1' : args = #[y] := by rw [← Array.toList_inj]; exact e1
      have e2' : ats = #[t] := by rw [← Array.toList_inj]; exact e2
      subst e1' e2'
      obtain ⟨i, hi, h⟩ := asTI_iff h
      have hk := (tok x hi).k
      split at h
      · rename_i hkk
        rw [hkk] at hk
        split at h
        · rename_i n hn; exact Det.of_pure (pure_len ho hn hk) h
        · exact h.elim
      · rename_i hkk
        rw [hkk] at hk
        split at h
        · rename_i b hb; exact Det.of_pure (pure_lenStr ho hb (k_string hk)) h
        · exact h.elim
      · exact h.elim
    · exact h.elim
  · split at h
    · rename_i y z t t2 e1 e2
      have e1' : args = #[y, z] := by rw [← Array.toList_inj]; exact e1
      have e2' : ats = #[t, t2] := by rw [← Array.toList_inj]; exact e2
      subst e1' e2'
      obtain ⟨i, hi, h⟩ := asTI_iff h
      obtain ⟨i2, hi2, h⟩ := asTI_iff h
      split at h
      · rename_i esz e esz2 e2 hk hk2
        obtain ⟨ie, he, h1, h2, h3, h⟩ := asTI_iff h
        split at h
        · exact h.elim
        · rename_i ys hys
          split at h
          · rename_i hy
            exact Det.of_sim (sim_appendNil ho hi hk hi2 hk2 he h3 h1 h2 hy hys h.1) rfl (by rw [ho]; rfl) h.2
          · rename_i sh j ver hy
            split at h
            · rename_i sz vs hrow
              obtain ⟨rfl, hv, hfit, h⟩ := h
              exact Det.of_sim (sim_appendOwn ho hi hk hi2 hk2 he h1 h2 hy hrow hv hys hfit) (setMem_t _ _ _ _) (by rw [ho]; rfl) h
            · exact h.elim
          · exact h.elim
      · exact h.elim
    · exact h.elim
  · split at h
    · rename_i y z e1
      have e1' : args = #[y, z] := by rw [← Array.toList_inj]; exact e1
      subst e1'
      split at h
      · rename_i k a k' b hy hz
        obtain ⟨rfl, h⟩ := h
        exact Det.of_pure (pure_min ho hy hz) h
      · exact h.elim
    · exact h.elim
  · split at h
    · rename_i y z e1
      have e1' : args = #[y, z] := by rw [← Array.toList_inj]; exact e1
      subst e1'
      split at h
      · rename_i k a k' b hy hz
        obtain ⟨rfl, h⟩ := h
        exact Det.of_pure (pure_max ho hy hz) h
      · exact h.elim
    · exact h.elim
  · split at h
    · rename_i y z t t2 e1 e2
      have e1' : args = #[y, z] := by rw [← Array.toList_inj]; exact e1
      have e2' : ats = #[t, t2] := by rw [← Array.toList_inj]; exact e2
      subst e1' e2'
      obtain ⟨i, hi, h⟩ := asTI_iff h
      split at h
      · rename_i esz e hk
        split at h
        · rename_i j ver off len ys hd hq
          obtain ⟨h0, h⟩ := h
          split at h
          · rename_i sz vs hrow
            obtain ⟨rfl, hv, h⟩ := h
            exact Det.of_sim (sim_copy ho hi hk hd h0 hrow hv hq) (setMem_t _ _ _ _) (by rw [ho]; rfl) h
          · exact h.elim
        · exact h.elim
      · exact h.elim
    · exact h.elim
  · split at h
    · rename_i y t e1 e2
      have e1' : args = #[y] := by rw [← Array.toList_inj]; exact e1
      have e2' : ats = #[t] := by rw [← Array.toList_inj]; exact e2
      subst e1' e2'
      obtain ⟨i, hi, h⟩ := asTI_iff h
      split at h
      · rename_i esz e hk
        obtain ⟨ie, he, hz, h⟩ := asTI_iff h
        split at h
        · rename_i j ver off len hd
          obtain ⟨h0, h⟩ := h
          split at h
          · rename_i sz vs hrow
            obtain ⟨rfl, hv, h⟩ := h
            exact Det.of_sim (sim_clear ho hi hk he hz hd h0 hrow hv) (setMem_t _ _ _ _) (by rw [ho]; rfl) h
          · exact h.elim
        · exact h.elim
      · exact h.elim
    · exact h.elim
  · exact h.elim

theorem det_of_pv {x : X} {o : Oper} {s : AS} {K : AV → AS → Prop} (hf : fnK o.op = false) (h : Pv x o s K) : Det x o s K := by
  unfold Pv at h
  split at h
  · rename_i y ho; exact Det.of_pure (pure_move ho) h
  · rename_i y ho; exact Det.of_pure (pure_assign ho) h
  · rename_i q y z ho
    split at h
    · rename_i b hb
      refine Det.of_pure (pure_pick ho hb) ?_
      cases b with
      | true => exact h.1 rfl
      | false => exact h.2 rfl
    · exact h.elim
  · rename_i t ho
    obtain ⟨i, hi, h⟩ := asTI_iff h
    exact Det.of_sim (sim_alloc ho hi) rfl (by rw [ho]; rfl) h
  · rename_i t y ho; exact Det.of_sim (sim_box ho h.1) rfl (by rw [ho]; rfl) h.2
  · rename_i t ps ho
    obtain ⟨i, hi, h⟩ := asTI_iff h
    split at h
    · rename_i fs zs hk hz
      exact Det.of_pure (pure_build ho hi hk hz h.1 h.2.1) h.2.2
    · rename_i m esz ea sz zs hk hz
      obtain ⟨rfl, h1, h2⟩ := h
      exact Det.of_pure (pure_buildArr ho hi hk hz h1) h2
    · exact h.elim
  · rename_i t n ps ho
    obtain ⟨i, hi, h⟩ := asTI_iff h
    split at h
    · rename_i esz e hk
      obtain ⟨ie, he, h1, h2, h3, h4, h⟩ := asTI_iff h
      exact Det.of_sim (sim_buildSlice ho hi hk he h1 h2 h3 h4) rfl (by rw [ho]; rfl) h
    · exact h.elim
  · rename_i t y ho
    obtain ⟨i, hi, h⟩ := asTI_iff h
    have ht := tok x hi
    unfold pLoad at h
    split at h
    · rename_i sh j ver p off hy
      split at h
      · rename_i sh' j' ob hf
        split at h
        · rename_i u off' hs
          obtain ⟨rfl, h1, h2, h⟩ := h
          exact Det.of_sim (sim_load ho hy hf hs (by rw [ht.agg, h1]) (by rw [ht.size, h2])) rfl (by rw [ho]; rfl) h
        · exact h.elim
      · exact h.elim
    · rename_i u hy
      obtain ⟨h1, h2, h⟩ := h
      exact Det.of_pure (sim_loadPin ho hy (by rw [ht.agg, h1]) (by rw [ht.size, h2])) h
    · exact h.elim
  · rename_i t y z ho
    obtain ⟨i, hi, h⟩ := asTI_iff h
    have ht := tok x hi
    unfold pStore at h
    split at h
    · rename_i sh j ver p off hy
      split at h
      · rename_i sh' j' ob hf
        split at h
        · rename_i u off' ob' hs hu
          obtain ⟨rfl, h1, h2, h3, h⟩ := h
          exact Det.of_sim (sim_store ho hy hf h1 hs hu h2 (by rw [ht.size, h3])) (setMem_t _ _ _ _) (by rw [ho]; rfl) h
        · exact h.elim
      · exact h.elim
    · exact h.elim
  · rename_i y ho
    split at h
    · rename_i hy; exact Det.of_pure (pure_nilCheck ho hy) h
    · exact h.elim
  · rename_i op t y z yt ho
    split at h
    · rename_i v hv; exact Det.of_pure (pure_bin ho hv) h
    · obtain ⟨v, h1, h2⟩ := pure_cmp ho h
      exact Det.of_pure h1 h2
  · rename_i t y lo hi mx ho
    split at h
    · obtain ⟨i, hi, h⟩ := asTI_iff h
      obtain ⟨v, h1, h2⟩ := pure_slice ho hi h
      exact Det.of_pure h1 h2
    · exact h.elim
  · rename_i t r ho
    split at h
    · exact Det.of_sim (sima_makeMap ho).sim rfl (by rw [ho]; rfl) h
    · exact h.elim
  · rename_i t y z ok ho
    split at h
    · unfold pLookup at h
      split at h
      · rename_i sh j k n hy hz
        split at h
        · rename_i kvs k' et hob hmo
          obtain ⟨rfl, h⟩ := h
          obtain ⟨i, hi, h⟩ := asTI_iff h
          split at h
          · rename_i r hr
            exact Det.of_sim (sim_lookup ho (mapOf_ty hmo) hi hy hz hob hr) rfl (by rw [ho]; rfl) h
          · exact h.elim
        · exact h.elim
      · exact h.elim
    · exact h.elim
  · rename_i t y z u ho
    unfold pMapUpd at h
    split at h
    · rename_i sh j k n hy hz
      split at h
      · rename_i kvs k' et v hob hmo hv
        obtain ⟨rfl, h1, h⟩ := h
        obtain ⟨r, hr⟩ := Option.isSome_iff_exists.1 h1
        exact Det.of_sim (sim_mapUpdate ho (mapOf_ty hmo) hy hz (plainV_VR hv) hob hr) (setMem_t _ _ _ _) (by rw [ho]; rfl) h
      · exact h.elim
    · exact h.elim
  · rename_i op t y ho
    split at h
    · rename_i v hv; exact Det.of_pure (pure_un ho hv) h
    · exact h.elim
  · rename_i src dst y ho
    obtain ⟨i0, hi0, h⟩ := asTI_iff h
    obtain ⟨i, hi, h⟩ := asTI_iff h
    have ht := tok x hi
    have ht0 := (tok x hi0).agg
    split at h
    · rename_i k' k n hk hy
      have hkc := ht.k
      rw [hk] at hkc
      have h0 : ∃ d, x.P.underlying src = some d := by
        unfold aggT at ht0
        rw [Option.map_eq_some_iff] at ht0
        obtain ⟨d, hd, _⟩ := ht0
        exact ⟨d, hd⟩
      exact Det.of_pure (pure_conv ho hy h0 (k_int hkc)) h
    · exact h.elim
  · rename_i fn first caps ho
    obtain ⟨rfl, h1, h⟩ := h
    exact Det.of_pure (pure_func ho (fun y hy => h1 y (by simpa using hy))) h
  · rename_i t y j ho
    obtain ⟨i, hi, h⟩ := asTI_iff h
    have hk := (tok x hi).k
    unfold pFieldAddr at h
    split at h
    · rename_i fs hkk
      rw [hkk] at hk
      split at h
      · rename_i f hf
        obtain ⟨h0, h⟩ := h
        split at h
        · rename_i hy; exact Det.of_pure (pure_fieldAddr ho hk hy hf h0) h
        · rename_i v hy
          split at h
          · rename_i u o' hs
            obtain ⟨rfl, h⟩ := h
            exact Det.of_pure (pure_fieldPin ho hk hy hf h0 hs) h
          · exact h.elim
        · exact h.elim
      · exact h.elim
    · exact h.elim
  · rename_i t y j ho
    obtain ⟨i, hi, h⟩ := asTI_iff h
    have hk := (tok x hi).k
    unfold pField at h
    split at h
    · rename_i fs hkk
      rw [hkk] at hk
      split at h
      · rename_i f u o' hf hs
        obtain ⟨h0, rfl, h1, h2, h⟩ := h
        exact Det.of_pure (pure_field ho hk h0 hs hf h1 h2) h
      · exact h.elim
    · exact h.elim
  · rename_i t y z ho
    obtain ⟨i, hi, h⟩ := asTI_iff h
    have hk := (tok x hi).k
    unfold pIndexAddr at h
    split at h
    · rename_i k n hz
      obtain ⟨h0, h⟩ := h
      split at h
      · rename_i esz e sz vs hkk hy
        rw [hkk] at hk
        obtain ⟨rfl, h⟩ := h
        split at h
        · rename_i u hu; exact Det.of_pure (pure_indexLit ho hk hy hz h0 hu) h
        · exact h.elim
      · rename_i esz e sh j ver hkk hy
        rw [hkk] at hk
        exact Det.of_pure (pure_indexOwn ho hk hy hz h0 h.1) h.2
      · rename_i m esz ea sh j ver p off hkk hy
        rw [hkk] at hk
        exact Det.of_pure (pure_indexArr ho hk hy hz h0 h.1) h.2
      · exact h.elim
    · exact h.elim
  · rename_i t y z ho
    obtain ⟨i, hi, h⟩ := asTI_iff h
    have hk := (tok x hi).k
    unfold pIndex at h
    split at h
    · rename_i k n hz
      obtain ⟨h0, h⟩ := h
      split at h
      · rename_i m esz ea hkk
        rw [hkk] at hk
        obtain ⟨h1, h2, h⟩ := h
        split at h
        · rename_i u o' hs
          obtain ⟨rfl, h3, h4, h⟩ := h
          exact Det.of_pure (pure_index ho hk h2 hz h0 h1 hs h3 h4) h
        · exact h.elim
      · rename_i hkk
        rw [hkk] at hk
        split at h
        · rename_i b hy
          split at h
          · rename_i u hu
            exact Det.of_pure (pure_indexStr ho hk hy hz h0 hu) h
          · exact h.elim
        · exact h.elim
      · exact h.elim
    · exact h.elim
  · rename_i y j ho
    split at h
    · rename_i vs hy
      split at h
      · rename_i u hu; exact Det.of_pure (pure_extract ho hy hu) h
      · exact h.elim
    · exact h.elim
  · rename_i c ho; exact det_call ho (by rw [ho] at hf; exact hf) h
  · rename_i t y z ho
    obtain ⟨i, hi, h⟩ := asTI_iff h
    split at h
    · rename_i esz e hk
      obtain ⟨ie, he, h1, h2, h⟩ := asTI_iff h
      split at h
      · rename_i kl n kc n' hy hz
        obtain ⟨rfl, h0, h3, h4, h⟩ := h
        obtain ⟨m, rfl⟩ := Int.eq_ofNat_of_zero_le h0
        simp only [Int.toNat_natCast] at h4 h
        exact Det.of_sim (sima_makeSlice ho hi hk he h1 h2 hy hz h4 (by omega)).sim rfl (by rw [ho]; rfl) h
      · exact h.elim
    · exact h.elim
  · exact h.elim


theorem detp_of_pv {x : X} {o : Oper} {s : AS} {K : AV → AS → Prop} (hp : pureK o.op = true) (h : Pv x o s K) : ∃ v, Pure x.P o s v ∧ K v s := by
  have hf : fnK o.op = false := by
    unfold fnK
    unfold pureK at hp
    split
    · rename_i c hc
      rw [hc] at hp
      simp only at hp
      split
      · rename_i f hcl; rw [hcl] at hp; simp at hp
      · rfl
    · rfl
  obtain ⟨v, s', h | h, hk⟩ := det_of_pv hf h
  · obtain ⟨h, rfl⟩ := h
    exact ⟨v, h, hk⟩
  · rw [h.2.2] at hp; cases hp

/-! ### Reading; calls that change nothing -/
/-- It returns something, and changes nothing. -/
def DCall (x : X) (f : FuncId) (vs : List AV) (H : List AO) (K : AV → Prop) : Prop := ∃ r, (∀ n, ACall x f vs n H (Is r [] H)) ∧ K r
@[congr] theorem dcall_congr {x : X} {f : FuncId} {vs vs' : List AV} {H H' : List AO} {K : AV → Prop} (h1 : vs = vs') (h3 : H = H') : DCall x f vs H K = DCall x f vs' H' K := by rw [h1, h3]
theorem Con.draw {x : X} {f : FuncId} {vs : List AV} {H : List AO} {r : AV} {K : AV → Prop} (h : Con x f vs r) (hH : okH H) (hq : K r) : DCall x f vs H K := ⟨r, fun n => h n H hH, hq⟩
/-- It returns this. -/
def TCall (x : X) (f : FuncId) (vs : List AV) (n : Nat) (H : List AO) (K : AV → List AO → List AO → Prop) : Prop := ∃ r R H', ACall x f vs n H (Is r R H') ∧ K r R H'
@[congr] theorem tcall_congr {x : X} {f : FuncId} {vs vs' : List AV} {n n' : Nat} {H H' : List AO} {K : AV → List AO → List AO → Prop} (h1 : vs = vs') (h2 : n = n') (h3 : H = H') : TCall x f vs n H K = TCall x f vs' n' H' K := by rw [h1, h2, h3]
theorem Con.turn {x : X} {f : FuncId} {vs : List AV} {n : Nat} {H : List AO} {r : AV} {K : AV → List AO → List AO → Prop} (h : Con x f vs r) (hH : okH H) (hq : K r [] H) : TCall x f vs n H K := ⟨r, [], H, h n H hH, hq⟩
theorem ConR.turn {x : X} {f : FuncId} {vs : List AV} {n : Nat} {H : List AO} {r : Nat → AV} {R : List AO} {K : AV → List AO → List AO → Prop} (h : ConR x f vs r R) (hH : okH H) (hq : K (r n) R H) : TCall x f vs n H K := ⟨r n, R, H, h n H hH, hq⟩

def DQ (x : X) (o : Oper) (s : AS) (K : AV → AS → Prop) : Prop :=
  match o.op with
  | .load t y => asTI x t fun i => pLoad s i (s.ev y) K
  | .call c => match c.callee with
    | .value f => match s.ev f with
      | .func (.func fid) [] cap => (∀ v ∈ c.args.toList.map s.ev ++ cap, v.solid = true) ∧ (∀ v ∈ c.args.toList.map s.ev ++ cap, v.ok shd = true) ∧ (∀ ob ∈ s.H, ob.ok shd = true) ∧ DCall x fid (c.args.toList.map s.ev ++ cap) s.H (fun r => K r s)
      | _ => False
    | _ => False
  | _ => False

theorem find_ext {s : AS} {L : List AO} (hp : s.loc <+: L) {sh : Bool} {j ver : Nat} {r : Bool × Nat × AO} (h : s.find sh j ver = some r) : (AS.mk s.t L s.H).find sh j ver = some r := by
  cases sh with
  | true => exact h
  | false =>
    unfold AS.find at *
    have e : ∀ ob, (s.mem false)[j]? = some ob → ((AS.mk s.t L s.H).mem false)[j]? = some ob := by
      intro ob hob
      obtain ⟨T, rfl⟩ := hp
      have hob' : s.loc[j]? = some ob := hob
      show (s.loc ++ T)[j]? = some ob
      rw [List.getElem?_append_left (List.getElem?_eq_some_iff.1 hob').1]
      exact hob'
    cases hm : (s.mem false)[j]? with
    | none => rw [hm] at h; cases h
    | some ob =>
      rw [e ob hm]
      rw [hm] at h
      exact h

theorem expos_ok {s : AS} : ∀ {vs : List AV}, (∀ v ∈ vs, v.ok shd = true) → s.expos vs = (vs, s)
  | [], _ => by rw [AS.expos]
  | v :: vs, h => by
    rw [AS.expos, if_pos (h v List.mem_cons_self), expos_ok (fun u hu => h u (List.mem_cons_of_mem _ hu))]

theorem dq_sound {x : X} {o : Oper} {s : AS} {K : AV → AS → Prop} (h : DQ x o s K) : ∃ v, QSem x o s v ∧ K v s := by
  unfold DQ at h
  split at h
  · rename_i t y ho
    obtain ⟨i, hi, h⟩ := asTI_iff h
    have ht := tok x hi
    unfold pLoad at h
    split at h
    · rename_i sh j ver p off hy
      split at h
      · rename_i sh' j' ob hf
        split at h
        · rename_i u off' hs
          obtain ⟨rfl, h1, h2, h⟩ := h
          exact ⟨u, fun L hL => OpW.of_sim (sim_load (s := ⟨s.t, L, s.H⟩) ho hy (find_ext hL hf) hs (by rw [ht.agg, h1]) (by rw [ht.size, h2])) rfl ⟨rfl, rfl⟩, h⟩
        · exact h.elim
      · exact h.elim
    · rename_i u hy
      obtain ⟨h1, h2, h⟩ := h
      exact ⟨u, fun L hL => OpW.of_pure (sim_loadPin (s := ⟨s.t, L, s.H⟩) ho hy (by rw [ht.agg, h1]) (by rw [ht.size, h2])) ⟨rfl, rfl⟩, h⟩
    · exact h.elim
  · rename_i c ho
    obtain ⟨callee, args, ats⟩ := c
    simp only at h
    split at h
    · rename_i f
      split at h
      · rename_i fid cap hf
        obtain ⟨h1, h2, h3, r, h4, hk⟩ := h
        refine ⟨r, fun L hL => ?_, hk⟩
        have he : (AS.mk s.t L s.H).expos (args.toList.map s.ev ++ cap) = (args.toList.map s.ev ++ cap, AS.mk s.t L s.H) := expos_ok h2
        refine opw_call (s := ⟨s.t, L, s.H⟩) ho rfl hf h1 ?_ ?_ ?_
        · intro v hv
          have hv' : v ∈ ((AS.mk s.t L s.H).expos (args.toList.map s.ev ++ cap)).1 := hv
          rw [he] at hv'
          exact h2 v hv'
        · intro ob hob
          have hv' : ob ∈ ((AS.mk s.t L s.H).expos (args.toList.map s.ev ++ cap)).2.H := hob
          rw [he] at hv'
          exact h3 ob hv'
        · show ACall x fid ((AS.mk s.t L s.H).expos (args.toList.map s.ev ++ cap)).1 ((AS.mk s.t L s.H).expos (args.toList.map s.ev ++ cap)).2.loc.length ((AS.mk s.t L s.H).expos (args.toList.map s.ev ++ cap)).2.H (fun r' R H' => r' = r ∧ { ((AS.mk s.t L s.H).expos (args.toList.map s.ev ++ cap)).2 with loc := ((AS.mk s.t L s.H).expos (args.toList.map s.ev ++ cap)).2.loc ++ R, H := H' } = AS.mk s.t L s.H)
          rw [he]
          refine (h4 L.length).mono ?_
          rintro r' R H' ⟨rfl, rfl, rfl⟩
          exact ⟨rfl, by simp⟩
      · exact h.elim
    · exact h.elim
  · exact h.elim

/-! ### Making -/
def makeK (s : AS) (o : Op) : Bool :=
  match o with
  | .alloc _ | .box _ _ | .buildSlice _ _ _ => true
  | .call c => match c.callee, c.args.toList with
    | .builtin .append, [y, _] => match s.ev y with | .nilS => true | _ => false
    | _, _ => false
  | _ => false
def DA (x : X) (o : Oper) (s : AS) (K : AV → AS → Prop) : Prop :=
  makeK s o.op = true ∧ Pv x o s (fun v s' => (match s'.loc.getLast? with | some ob => ob.ok (pl s.loc.length) = true | none => False) ∧ K v s')

theorem fits_t {s : AS} {L H : List AO} : ∀ {ps : List (Nat × Operand)} {vs : List AV}, fits s vs ps → fits ⟨s.t, L, H⟩ vs ps
  | [], vs, h => trivial
  | (i, y) :: ps, vs, h => ⟨h.1, h.2.1, fits_t h.2.2⟩
theorem setAll_t {s : AS} {L H : List AO} : ∀ {ps : List (Nat × Operand)} {vs : List AV}, setAll ⟨s.t, L, H⟩ vs ps = setAll s vs ps
  | [], vs => rfl
  | (i, y) :: ps, vs => setAll_t (ps := ps)
theorem elems_ext {s : AS} {L : List AO} (hp : s.loc <+: L) {sz : Nat} {v : AV} {ys : List AV} (h : s.elems sz v = some ys) : (AS.mk s.t L s.H).elems sz v = some ys := by
  unfold AS.elems at *
  cases v with
  | own sh j ver =>
    cases sh with
    | true => exact h
    | false =>
      simp only at h ⊢
      cases hm : (s.mem false)[j]? with
      | none => rw [hm] at h; cases h
      | some ob =>
        have e : ((AS.mk s.t L s.H).mem false)[j]? = some ob := by
          obtain ⟨T, rfl⟩ := hp
          have hob' : s.loc[j]? = some ob := hm
          show (s.loc ++ T)[j]? = some ob
          rw [List.getElem?_append_left (List.getElem?_eq_some_iff.1 hob').1]
          exact hob'
        rw [e]; rw [hm] at h; exact h
  | win j ver esz off len =>
    simp only at h ⊢
    cases hm : s.loc[j]? with
    | none => rw [hm] at h; cases h
    | some ob =>
      have e : L[j]? = some ob := by
        obtain ⟨T, rfl⟩ := hp
        rw [List.getElem?_append_left (List.getElem?_eq_some_iff.1 hm).1]
        exact hm
      rw [e]; rw [hm] at h; exact h
  | _ => exact h

theorem da_sound {x : X} {o : Oper} {s : AS} {K : AV → AS → Prop} (h : DA x o s K) : ∃ vi ob, ASem x o s vi ob ∧ isVi vi ob ∧ ob.ok (pl s.loc.length) = true ∧ K (vi s.loc.length) (s.push ob) := by
  obtain ⟨hm, h⟩ := h
  have hlast : ∀ ob, (s.push ob).loc.getLast? = some ob := fun ob => by simp [AS.push]
  unfold Pv at h
  split at h
  case h_4 t ho =>
    obtain ⟨i, hi, h⟩ := asTI_iff h
    rw [hlast] at h
    exact ⟨_, _, fun L hL => sima_alloc (s := ⟨s.t, L, s.H⟩) ho hi, .inl ⟨rfl, rfl⟩, h.1, h.2⟩
  case h_5 t y ho =>
    have h' : (s.ev y).solid = true ∧ ((match (s.push (.cell (s.ev y))).loc.getLast? with | some ob => AO.ok (pl s.loc.length) ob = true | none => False) ∧ K (AV.ref false s.loc.length 0 [] 0) (s.push (AO.cell (s.ev y)))) := h
    rw [hlast] at h'
    obtain ⟨h1, h⟩ := h'
    have h : (s.ev y).solid = true ∧ AO.ok (pl s.loc.length) (.cell (s.ev y)) = true ∧ K (AV.ref false s.loc.length 0 [] 0) (s.push (AO.cell (s.ev y))) := ⟨h1, h⟩
    exact ⟨_, _, fun L hL => sima_box (s := ⟨s.t, L, s.H⟩) ho h.1, .inl ⟨rfl, rfl⟩, h.2.1, h.2.2⟩
  case h_7 t n ps ho =>
    obtain ⟨i, hi, h⟩ := asTI_iff h
    split at h
    · rename_i esz e hk
      obtain ⟨ie, he, h1, h2, h3, h4, h⟩ := asTI_iff h
      rw [hlast] at h
      refine ⟨_, _, fun L hL => ?_, .inr rfl, h.1, ?_⟩
      · have := sima_buildSlice (s := ⟨s.t, L, s.H⟩) ho hi hk he h1 h2 h3 (fits_t h4)
        rw [setAll_t] at this
        have e1 : (AO.row esz (setAll s (List.replicate n ie.zero) ps.toList)).ver = n := by
          have h5 : ∀ (ps : List (Nat × Operand)) (vs : List AV), (setAll s vs ps).length = vs.length := by
            intro ps
            induction ps with
            | nil => intro vs; rfl
            | cons p ps ih => intro vs; obtain ⟨i, y⟩ := p; rw [setAll, ih]; simp
          simp [AO.ver, h5]
        simp only [e1]
        exact this
      · have e1 : (AO.row esz (setAll s (List.replicate n ie.zero) ps.toList)).ver = n := by
          have h5 : ∀ (ps : List (Nat × Operand)) (vs : List AV), (setAll s vs ps).length = vs.length := by
            intro ps
            induction ps with
            | nil => intro vs; rfl
            | cons p ps ih => intro vs; obtain ⟨i, y⟩ := p; rw [setAll, ih]; simp
          simp [AO.ver, h5]
        simp only [e1]
        exact h.2
    · exact h.elim
  case h_24 c ho =>
    rw [ho] at hm
    obtain ⟨callee, args, ats⟩ := c
    unfold pCall at h
    simp only [makeK] at hm h
    split at hm
    · rename_i y z e1
      split at hm
      · rename_i hy
        simp only [e1] at h
        have e1' : args = #[y, z] := by rw [← Array.toList_inj]; exact e1
        subst e1'
        split at h
        · rename_i y' z' t t2 e3 e2
          have e2' : ats = #[t, t2] := by rw [← Array.toList_inj]; exact e2
          subst e2'
          simp at e3
          obtain ⟨rfl, rfl⟩ := e3
          obtain ⟨i, hi, h⟩ := asTI_iff h
          obtain ⟨i2, hi2, h⟩ := asTI_iff h
          split at h
          · rename_i esz e esz2 e2 hk hk2
            obtain ⟨ie, he, h1, h2, h3, h⟩ := asTI_iff h
            split at h
            · exact h.elim
            · rename_i ys hys
              rw [hy] at h
              simp only at h
              rw [hlast] at h
              exact ⟨fun i => .own false i ys.length, .row esz ys, fun L hL => sima_appendNil (s := ⟨s.t, L, s.H⟩) ho hi hk hi2 hk2 he h3 h1 h2 hy (elems_ext hL hys) h.1, .inr rfl, h.2.1, h.2.2⟩
          · exact h.elim
        · exact h.elim
      · cases hm
    · cases hm
  all_goals first
    | exact h.elim
    | (rename_i ho; rw [ho] at hm; simp [makeK] at hm)
end Go.Abs
/- Regions whose order is not the text's: the rule by place. -/
set_option linter.unusedVariables false
set_option linter.unusedSimpArgs false
namespace Go.Abs
open Go.RowKit

/-- Yield hands back this. -/
def TYCall (x : X) (j : Nat) (vs : List AV) (H : List AO) (K : AV → List AO → Prop) : Prop := ∃ r H', YCall x j vs H (fun v H'' => v = r ∧ H'' = H') ∧ K r H'
@[congr] theorem tycall_congr {x : X} {j j' : Nat} {vs vs' : List AV} {H H' : List AO} {K : AV → List AO → Prop} (h0 : j = j') (h1 : vs = vs') (h3 : H = H') : TYCall x j vs H K = TYCall x j' vs' H' K := by rw [h0, h1, h3]
def DT (x : X) (o : Oper) (s : AS) (K : AV → AS → Prop) : Prop :=
  match o.op with
  | .call c => match c.callee with
    | .value f => match s.ev f with
      | .func (.func fid) [] cap =>
        (∀ v ∈ c.args.toList.map s.ev ++ cap, v.solid = true) ∧ (∀ v ∈ (s.expos (c.args.toList.map s.ev ++ cap)).1, v.ok shd = true) ∧ (∀ ob ∈ (s.expos (c.args.toList.map s.ev ++ cap)).2.H, ob.ok shd = true) ∧
        TCall x fid (s.expos (c.args.toList.map s.ev ++ cap)).1 (s.expos (c.args.toList.map s.ev ++ cap)).2.loc.length (s.expos (c.args.toList.map s.ev ++ cap)).2.H
          (fun r R H' => K r { (s.expos (c.args.toList.map s.ev ++ cap)).2 with loc := (s.expos (c.args.toList.map s.ev ++ cap)).2.loc ++ R, H := H' })
      | .yld true j => (∀ v ∈ c.args.toList.map s.ev, v.solid = true) ∧ (∀ v ∈ c.args.toList.map s.ev, v.ok shd = true) ∧ (∀ ob ∈ s.H, ob.ok shd = true) ∧ TYCall x j (c.args.toList.map s.ev) s.H (fun r H' => K r { s with H := H' })
      | _ => False
    | _ => Pv x o s K
  | _ => Pv x o s K

theorem Det.opw {x : X} {o : Oper} {s : AS} {K : AV → AS → Prop} (h : Det x o s K) : ∃ v s1, OpW x o s (fun v' s'' => v' = v ∧ s'' = s1) ∧ s1.t = s.t ∧ K v s1 := by
  obtain ⟨v, s', h | h, hk⟩ := h
  · obtain ⟨h, rfl⟩ := h
    exact ⟨v, s', OpW.of_pure h ⟨rfl, rfl⟩, rfl, hk⟩
  · exact ⟨v, s', OpW.of_sim h.1 h.2.1 ⟨rfl, rfl⟩, h.2.1, hk⟩

theorem dt_sound {x : X} {o : Oper} {s : AS} {K : AV → AS → Prop} (h : DT x o s K) : ∃ v s1, OpW x o s (fun v' s'' => v' = v ∧ s'' = s1) ∧ s1.t = s.t ∧ K v s1 := by
  unfold DT at h
  split at h
  · rename_i c ho
    obtain ⟨callee, args, ats⟩ := c
    simp only at h
    split at h
    · rename_i f
      split at h
      · rename_i fid cap hf
        obtain ⟨h1, h2, h3, r, R, H', h4, hk⟩ := h
        refine ⟨_, _, opw_call ho rfl hf h1 h2 h3 (h4.mono ?_), ?_, hk⟩
        · rintro r' R' H'' ⟨rfl, rfl, rfl⟩
          exact ⟨rfl, rfl⟩
        · exact expos_t s _
      · rename_i j hf
        obtain ⟨h1, h2, h3, r, H', h4, hk⟩ := h
        refine ⟨_, _, opw_yield ho rfl hf h1 h2 h3 (h4.mono ?_), ?_, hk⟩
        · rintro r' H'' ⟨rfl, rfl⟩
          exact ⟨rfl, rfl⟩
        · rfl
      · exact h.elim
    · rename_i hne
      refine (det_of_pv ?_ h).opw
      rw [ho]
      cases callee with
      | value f => exact (hne f rfl).elim
      | builtin b => rfl
      | _ => rfl
  · rename_i hne
    refine (det_of_pv ?_ h).opw
    unfold fnK
    split
    · rename_i c hc; exact (hne c hc).elim
    · rfl

def DR (x : X) (J : List Nat) (o : Oper) (s : AS) (K : AV → AS → Prop) : Prop :=
  match o.op with
  | .load t y => asTI x t fun i => (match s.ev y with
    | .ref false j ver p off => j ∈ J ∧ (match s.loc[j]? with
      | some ob => ob.ver = ver ∧ (match ob.sub p with
        | some (u, off') => off' = off ∧ i.isAgg = u.isAgg ∧ i.size = u.size ∧ K u s
        | none => False)
      | none => False)
    | _ => False)
  | _ => False

theorem dr_sound {x : X} {J : List Nat} {o : Oper} {s : AS} {K : AV → AS → Prop} (h : DR x J o s K) : ∃ v j ob, j ∈ J ∧ s.loc[j]? = some ob ∧ RSem x o s v j ob ∧ K v s := by
  unfold DR at h
  split at h
  · rename_i t y ho
    obtain ⟨i, hi, h⟩ := asTI_iff h
    have ht := tok x hi
    split at h
    · rename_i j ver p off hy
      obtain ⟨hj, h⟩ := h
      split at h
      · rename_i ob hob
        obtain ⟨hv, h⟩ := h
        split at h
        · rename_i u off' hs
          obtain ⟨rfl, h1, h2, h⟩ := h
          refine ⟨u, j, ob, hj, hob, ?_, h⟩
          intro M c ρ hM hob' hρ
          have h3 := hρ y (by simp [ho, Op.operands])
          rw [hy] at h3
          obtain ⟨ad, cap, hl, hm⟩ := VR_ref h3
          subst hv
          obtain ⟨xs, hx, hmem⟩ := obj_read hM hob' hl hs
          refine ⟨vOf u xs, ?_, VR_of_CR hx⟩
          simp [execOp, ho, hm, Instr.loadAt, Instr.sureAddr, loadVar_run hx hmem (by rw [ht.agg, h1]) (by rw [ht.size, h2])]
        · exact h.elim
      · exact h.elim
    · exact h.elim
  · exact h.elim

def Dv (x : X) (J : List Nat) (c : Nat) (o : Oper) (s : AS) (K : AV → AS → Prop) : Prop :=
  match c with
  | 0 => pureK o.op = true ∧ Pv x o s K
  | 1 => DQ x o s K
  | 2 => DA x o s K
  | 3 => DT x o s (fun v s' => s.loc.length ≤ s'.loc.length ∧ s.H.length ≤ s'.H.length ∧ (∀ j ∈ J, s'.loc[j]? = s.loc[j]?) ∧ K v s')
  | 4 => DR x J o s K
  | _ => False

/-- The operations in the text's order, each by what its class asks. -/
def DPs (x : X) (ops : List Oper) (J : List Nat) (K : AS → Prop) : List Oper → List Nat → AS → Prop
  | [], _, s => K s
  | o :: rest, cs, s => match o.guard with
    | none => Dv x J (cs.headD 0) o s (fun v s' => DPs x ops J K rest cs.tail (s'.put o.dst v))
    | some (j, want) => match (ops[j]?).bind (·.dst) with
      | none => False
      | some d => match s.get d with
        | .bool b => (b = want → Dv x J (cs.headD 0) o s (fun v s' => DPs x ops J K rest cs.tail (s'.put o.dst v))) ∧ (b ≠ want → DPs x ops J K rest cs.tail (s.put o.dst (.tup [])))
        | .tup _ => DPs x ops J K rest cs.tail (s.put o.dst (.tup []))
        | _ => False

inductive Runs (x : X) (ops : List Oper) (J : List Nat) : List Oper → List Nat → AS → AS → Prop
  | nil {cs : List Nat} {s : AS} : Runs x ops J [] cs s s
  | cons {o : Oper} {rest : List Oper} {cs : List Nat} {s s1 s2 : AS} {v : AV} (h : StepOK x ops J o (cs.headD 0) s v s1) (k : Runs x ops J rest cs.tail s1 s2) : Runs x ops J (o :: rest) cs s s2

theorem dv_step {x : X} {ops : List Oper} {J : List Nat} {c : Nat} {o : Oper} {s : AS} {K : AV → AS → Prop} (hw : wantA ops o s = some true) (h : Dv x J c o s K) : ∃ v s1, StepOK x ops J o c s v (s1.put o.dst v) ∧ K v s1 := by
  unfold Dv at h
  split at h
  · obtain ⟨v, h1, h2⟩ := detp_of_pv h.1 h.2
    exact ⟨v, s, .pure hw rfl h1 rfl, h2⟩
  · obtain ⟨v, h1, h2⟩ := dq_sound h
    exact ⟨v, s, .quiet hw rfl h1 rfl, h2⟩
  · obtain ⟨vi, ob, h1, h2, h3, h4⟩ := da_sound h
    exact ⟨_, _, .make hw rfl vi ob rfl h1 h2 h3 rfl, h4⟩
  · obtain ⟨v, s1, h1, h2, h3, h4, h5, h6⟩ := dt_sound h
    exact ⟨v, s1, .turn hw rfl s1 h1 h2 h5 h3 h4 rfl, h6⟩
  · obtain ⟨v, j, ob, h1, h2, h3, h4⟩ := dr_sound h
    exact ⟨v, s, .read hw rfl j ob h1 h2 h3 rfl, h4⟩
  · exact h.elim

theorem runs_of_dps {x : X} {ops : List Oper} {J : List Nat} {K : AS → Prop} : ∀ {l : List Oper} {cs : List Nat} {s : AS}, DPs x ops J K l cs s → ∃ s', Runs x ops J l cs s s' ∧ K s'
  | [], cs, s, h => ⟨s, .nil, h⟩
  | o :: rest, cs, s, h => by
    unfold DPs at h
    split at h
    · rename_i hg
      obtain ⟨v, s1, h1, h2⟩ := dv_step (ops := ops) (by simp [wantA, hg]) h
      obtain ⟨s', h3, h4⟩ := runs_of_dps h2
      exact ⟨s', .cons h1 h3, h4⟩
    · rename_i j want hg
      split at h
      · exact h.elim
      · rename_i d hd
        split at h
        · rename_i b hb
          by_cases e : b = want
          · obtain ⟨v, s1, h1, h2⟩ := dv_step (ops := ops) (by simp [wantA, hg, hd, hb, e]) (h.1 e)
            obtain ⟨s', h3, h4⟩ := runs_of_dps h2
            exact ⟨s', .cons h1 h3, h4⟩
          · obtain ⟨s', h3, h4⟩ := runs_of_dps (h.2 e)
            exact ⟨s', .cons (.out (by simp [wantA, hg, hd, hb, e]) rfl rfl) h3, h4⟩
        · rename_i hb
          obtain ⟨s', h3, h4⟩ := runs_of_dps h
          exact ⟨s', .cons (.out (by simp [wantA, hg, hd, hb]) rfl rfl) h3, h4⟩
        · exact h.elim

theorem trace_of_runs {x : X} {ops : List Oper} {J : List Nat} : ∀ {l : List Oper} {cs : List Nat} {s s' : AS}, Runs x ops J l cs s s' → ∃ (S : Nat → AS) (V : Nat → AV), S 0 = s ∧ S l.length = s' ∧ ∀ k o, l[k]? = some o → StepOK x ops J o (cs.getD k 0) (S k) (V k) (S (k + 1))
  | [], cs, s, _, .nil => ⟨fun _ => s, fun _ => .any, rfl, rfl, by simp⟩
  | o :: rest, cs, s, s', .cons (s1 := s1) (v := v) h k => by
    obtain ⟨S, V, h0, h1, h2⟩ := trace_of_runs k
    refine ⟨fun i => match i with | 0 => s | i + 1 => S i, fun i => match i with | 0 => v | i + 1 => V i, rfl, h1, ?_⟩
    intro i o' ho'
    cases i with
    | zero =>
      simp at ho'
      subst ho'
      simp only [h0]
      have : cs.getD 0 0 = cs.headD 0 := by cases cs <;> rfl
      rw [this]; exact h
    | succ i =>
      simp at ho'
      have := h2 i o' ho'
      have e : cs.getD (i + 1) 0 = cs.tail.getD i 0 := by cases cs <;> simp
      rw [e]; exact this

section
variable {x : X} {N : Nat} {s : AS} {Q : Exit → AS → Prop} {fn : Func} {p : List Nat}
theorem awp_drawR {id : Nat} {ops : Array Oper} (cls J : List Nat) (hf : x.P.follows .mixedOrders = true) (hd : drawOK ops.toList cls 0 = true) (hJ : ∀ j ∈ J, j < s.loc.length) (h : ∃ s', Runs x ops.toList J ops.toList cls s s' ∧ Q .normal s') : AWP x N (.region id ops true) s Q := by
  obtain ⟨s', h1, h2⟩ := h
  obtain ⟨S, V, h3, h4, h5⟩ := trace_of_runs h1
  have T : Trc x ops.toList cls J S V := ⟨h5, drawOK_spec hd, by rw [h3]; exact hJ⟩
  exact awp_draw T hf h3 (by rw [h4]; exact h2)

def kDraw : Code → Option (List Oper) | .region _ ops true => some ops.toList | _ => none

/-- A region of any order, behind which only some temporaries are kept; each operation's class; the private objects that it leaves alone. -/
theorem at_draw (ks cls J : List Nat) {ops : List Oper} (hk : kDraw (at' fn p) = some ops) (hf : x.P.follows .mixedOrders = true) (hd : drawOK ops cls 0 = true) (hJ : ∀ j ∈ J, j < s.loc.length) (h : DPs x ops J (fun s' => Q .normal (s'.keep ks)) ops cls s) : AWP x N (at' fn p) s Q := by
  unfold at' at *
  generalize cat (bod fn) p = c at *
  cases c <;> simp [kDraw] at hk
  rename_i id o dr
  split at hk
  · rename_i h1
    cases h1
    cases hk
    exact AWP.post (awp_drawR (Q := fun e s' => ∃ s'', Leads s' s'' ∧ Q e s'') cls J hf hd hJ (by
      obtain ⟨s', h1, h2⟩ := runs_of_dps h
      exact ⟨s', h1, _, leads_keep s' ks, h2⟩))
  · cases hk
end
end Go.Abs
/- Loops by their count; forgetting later objects behind a region. -/
set_option linter.unusedVariables false
set_option linter.unusedSimpArgs false
namespace Go.Abs
open Go.RowKit

section
variable {x : X} {N : Nat} {s : AS} {Q : Exit → AS → Prop} {fn : Func} {p : List Nat}

theorem arounds_count (I : Nat → AS → Prop) (n : Nat) {code : Code} (hstep : ∀ i s, i ≤ n → I i s → AWP x N code s (aThen (fun s' => i < n ∧ I (i + 1) s') Q)) :
    ∀ m i s, m + i = n → I i s → ARounds x N code Q (m + 1) s
  | 0, i, s, hm, h => by
    refine (hstep i s (by omega) h).mono ?_
    intro e s' he
    cases e with
    | normal => obtain ⟨h1, _⟩ := he; omega
    | _ => exact he
  | m + 1, i, s, hm, h => by
    refine (hstep i s (by omega) h).mono ?_
    intro e s' he
    cases e with
    | normal => obtain ⟨h1, h2⟩ := he; exact arounds_count I n hstep m (i + 1) s' (by omega) h2
    | _ => exact he

/-- A loop of at most 'n' full rounds: what holds ahead of round 'i'. -/
theorem at_count (n : Nat) (I : Nat → AS → Prop) (hk : kLoop (at' fn p) = true) (h0 : I 0 s) (hstep : ∀ i s, i ≤ n → I i s → AWP x N (at' fn (0 :: p)) s (aThen (fun s' => i < n ∧ I (i + 1) s') Q)) : AWP x N (at' fn p) s Q :=
  at_loop (n + 1) hk (arounds_count I n hstep n 0 s (by omega) h0)

/-- A loop with a measure. -/
theorem at_meas (μ : AS → Nat) (I : AS → Prop) (hk : kLoop (at' fn p) = true) (h0 : I s) (hstep : ∀ s, I s → AWP x N (at' fn (0 :: p)) s (aThen (fun s' => μ s' < μ s ∧ I s') Q)) : AWP x N (at' fn p) s Q := by
  refine at_loop (μ s + 1) hk ?_
  have key : ∀ m s, μ s ≤ m → I s → ARounds x N (at' fn (0 :: p)) Q (m + 1) s := by
    intro m
    induction m with
    | zero =>
      intro s hm h
      refine (hstep s h).mono ?_
      intro e s' he
      cases e with
      | normal => obtain ⟨h1, _⟩ := he; omega
      | _ => exact he
    | succ m ih =>
      intro s hm h
      refine (hstep s h).mono ?_
      intro e s' he
      cases e with
      | normal => obtain ⟨h1, h2⟩ := he; exact ih s' (by omega) h2
      | _ => exact he
  exact key (μ s) s (Nat.le_refl _) h0

/-- Only 'n' private objects are kept, and of the temporaries those named. -/
def AS.cut (s : AS) (n : Nat) (ks : List Nat) : AS := ⟨ks.map fun k => (k, s.get k), s.loc.take n, s.H⟩
def cutOK (s : AS) (n : Nat) (ks : List Nat) : Prop := (∀ k ∈ ks, (s.get k).ok (pl n) = true) ∧ (∀ o ∈ s.loc.take n, o.ok (pl n) = true) ∧ (∀ o ∈ s.H, o.ok (pl n) = true)
theorem leads_cutK {n : Nat} {ks : List Nat} (h : cutOK s n ks) : Leads s (s.cut n ks) := by
  refine leads_cut n rfl rfl ?_ h.2.1 h.2.2
  intro p hp
  right
  simp only [AS.cut, List.mem_map] at hp
  obtain ⟨k, hk, rfl⟩ := hp
  exact ⟨rfl, h.1 k hk⟩

theorem at_regC (n : Nat) (ks : List Nat) {ops : List Oper} (hk : kReg (at' fn p) = some ops) (h : POps x ops (fun s' => cutOK s' n ks ∧ Q .normal (s'.cut n ks)) ops s) : AWP x N (at' fn p) s Q := by
  unfold at' at *
  generalize cat (bod fn) p = c at *
  cases c <;> simp [kReg] at hk
  rename_i id o dr
  split at hk
  · rename_i h1
    cases h1
    cases hk
    exact AWP.post (awp_regionA (Q := fun e s' => ∃ s'', Leads s' s'' ∧ Q e s'') (AOps_mono (fun s' hq => ⟨_, leads_cutK hq.1, hq.2⟩) (AOps_of_POps h)))
  · cases hk
end
end Go.Abs
/- Contracts whose new rows are taken as frozen. -/
set_option linter.unusedVariables false
set_option linter.unusedSimpArgs false
namespace Go.Abs
open Go.RowKit

/-- A result, its rows of one's own frozen. -/
def AS.frzV (s : AS) : AV → AV × AS
  | .tup vs => let q := s.expos vs; (.tup q.1, q.2)
  | v => s.expo v

theorem frzV_VR {s : AS} {v : AV} {c : Cx} {m : Value} (hM : MemR c s.mem) (hs : match v with | .tup vs => ∀ u ∈ vs, u.solid = true | v => v.solid = true) (hv : VR c v m) : ∃ d : Cx, d.w = c.w ∧ MemR d (s.frzV v).2.mem ∧ Step c s.mem d (s.frzV v).2.mem ∧ c.le d ∧ VR d (s.frzV v).1 m := by
  have one : ∀ v : AV, v.solid = true → VR c v m → ∃ d : Cx, d.w = c.w ∧ MemR d (s.expo v).2.mem ∧ Step c s.mem d (s.expo v).2.mem ∧ c.le d ∧ VR d (s.expo v).1 m := by
    intro v hs hv
    obtain ⟨d, h1, h2, h3, h4, h5, h6, h7⟩ := expo_becomes s v c hM
    obtain ⟨cs, hc, rfl⟩ := (VR_solid hs).1 hv
    refine ⟨d, h1, h2, h3, h4, ?_⟩
    have := h7 cs hc
    rw [vOf_same h5 cs]
    exact VR_of_CR this
  cases v with
  | tup vs =>
    obtain ⟨d, h1, h2, h3, h4, h5, h6, h7⟩ := expos_becomes s vs c hM
    obtain ⟨ms, rfl, hl, hi⟩ := hv
    have hcs : ∃ css, CRs c vs css ∧ ms = (vs.zip css).map (fun p => vOf p.1 p.2) := by
      refine CRs_of_VR1 hl ?_
      intro i v m h1 h2
      rcases hi i v m h1 h2 with rfl | h
      · have := hs _ (List.mem_of_getElem? h1); simp [AV.solid] at this
      · exact h
    obtain ⟨css, hc, rfl⟩ := hcs
    refine ⟨d, h1, h2, h3, h4, _, rfl, ?_, ?_⟩
    · have := congrArg List.length h5
      simp at this
      show (s.expos vs).1.length = _
      simp [CRs_length hc, this] at *
      omega
    · have hc' := h7 css hc
      have e : (vs.zip css).map (fun p => vOf p.1 p.2) = ((s.expos vs).1.zip css).map (fun p => vOf p.1 p.2) := by
        have hlen : vs.length = (s.expos vs).1.length := by
          have := congrArg List.length h5
          simpa using this
        apply List.ext_getElem?
        intro i
        simp only [List.getElem?_map, List.zip, List.getElem?_zipWith]
        cases hv1 : vs[i]? with
        | none =>
          have : (s.expos vs).1[i]? = none := by
            rw [List.getElem?_eq_none_iff] at hv1 ⊢
            omega
          simp [this]
        | some v =>
          have hlt : i < (s.expos vs).1.length := by
            have := (List.getElem?_eq_some_iff.1 hv1).1
            omega
          have hu : (s.expos vs).1[i]? = some (s.expos vs).1[i] := List.getElem?_eq_getElem hlt
          rw [hu]
          cases css[i]? with
          | none => rfl
          | some cs =>
            have : v.isAgg = (s.expos vs).1[i].isAgg := by
              have := congrArg (fun l : List Bool => l[i]?) h5
              simp only [List.getElem?_map, hv1, hu, Option.map_some] at this
              exact Option.some.inj this
            simp only [Option.map_some]
            rw [vOf_same this cs]
      rw [e]
      intro i v m hv1 hm1
      exact .inr (VR1_of_CRs hc' rfl i v m hv1 hm1)
  | any => simp [AV.solid] at hs
  | _ => exact one _ hs hv

/-- A contract, its new rows taken as frozen. -/
theorem ACall.frz {x : X} {f : FuncId} {vs : List AV} {n : Nat} {H : List AO} {Q : AV → List AO → List AO → Prop} (h : ACall x f vs n H (fun r R H' =>
    (match r with | .tup us => ∀ u ∈ us, u.solid = true | v => v.solid = true) ∧ ((AS.mk [] (List.replicate n .dead ++ R) H').frzV r).2.H = H' ∧ ((AS.mk [] (List.replicate n .dead ++ R) H').frzV r).1.ok shd = true ∧ (∀ ob ∈ H', ob.ok shd = true) ∧
    Q ((AS.mk [] (List.replicate n .dead ++ R) H').frzV r).1 [] H')) : ACall x f vs n H Q := by
  refine ⟨h.1, fun c ms h1 h2 h3 => (h.2 c ms h1 h2 h3).mono ?_⟩
  rintro e w' ⟨m, r, R, H', d, rfl, rfl, ⟨hsol, hHs, hok, hHok, hq⟩, hv, hM, hE, hn, hlen⟩
  obtain ⟨d1, e1, e2, e3, e4, e5⟩ := frzV_VR (s := AS.mk [] (List.replicate n .dead ++ R) H') (v := r) hM hsol hv
  have hmt : ((AS.mk [] (List.replicate n .dead ++ R) H').frzV r).2.mem true = H' := hHs
  have t1 := toShared e2 (by rw [hmt]; exact hHok)
  have t2 := shOnly_Ev (hE.step e3)
  rw [hmt] at t1 t2
  refine ⟨m, _, [], H', shOnly d1, rfl, e1, hq, shOnly_VR hok e5, ?_, ?_, fun _ _ _ => rfl, hlen⟩
  · exact MemR_ext t1 List.nil_prefix
  · exact Ev_ext t1 t2 List.nil_prefix
end Go.Abs
/- nil as an empty row; values told of less closely. -/
set_option linter.unusedVariables false
set_option linter.unusedSimpArgs false
namespace Go.Abs
open Go.RowKit

/-- A new empty row that nothing refers to. -/
theorem leads_newRow {s : AS} (sz : Nat) (hz : 0 < sz) : ∀ (x : X) (N : Nat) (c0 : Cx) (H0 : List AO) (c : Cx) (a : Act), Inv x c0 H0 N s c a → ∃ d, d.w = c.w ∧ d.lam false s.loc.length 0 = some (none, 0) ∧ Inv x c0 H0 N (s.push (.row sz [])) d a := by
  intro x N c0 H0 c a hi
  have hp := push_obj hi.mem false (o := .row sz []) (pl := (none, 0)) (w' := c.w) (Turn.refl _ _) ⟨by simp, hz, .inl ⟨rfl, rfl⟩⟩ (fun _ a ha => by cases ha)
  have hle := hp.2.le hi.mem
  refine ⟨⟨c.w, c.Fz, updL c.lam false (s.mem false).length (AO.row sz []).ver (none, 0)⟩, rfl, updL_same _ _ _ _ _, ?_, ?_, hi.len, fun i => VR_mono hle (hi.tr i), hi.size, ?_⟩
  · rw [AS.mem_push]; exact hp.1
  · rw [AS.mem_push]; exact hi.ev.step hp.2
  · rw [AS.mem_push]; exact hi.defs.step hp.2

theorem leads_nilT {s : AS} (t sz : Nat) (ht : s.get t = .nilS) (hz : 0 < sz) : Leads s ⟨(t, .own false s.loc.length 0) :: s.t, s.loc ++ [.row sz []], s.H⟩ := by
  intro x N c0 H0 c a _ hi
  obtain ⟨d, h1, h2, h3⟩ := leads_newRow sz hz x N c0 H0 c a hi
  refine ⟨d, h1, h3.mem, h3.ev, h3.len, ?_, h3.size, h3.defs⟩
  intro i
  show VR d (((t, AV.own false s.loc.length 0) :: s.t).lookup i |>.getD .any) _
  rw [List.lookup_cons]
  by_cases e : i = t
  · subst e
    have := h3.tr i
    have hg : (s.push (.row sz [])).get i = .nilS := ht
    rw [hg] at this
    obtain ⟨cs, hc, hm⟩ := this
    rw [CR] at hc
    subst hc
    simp only [BEq.rfl, Option.getD_some]
    rw [hm]
    exact ⟨[_], by rw [CR]; exact ⟨none, 0, h2, ⟨fun _ => rfl, Nat.le_refl _⟩, rfl⟩, rfl⟩
  · have e' : (i == t) = false := by simpa using e
    simp only [e']
    exact h3.tr i

/-- What is said of an object may be turned where it lies. -/
theorem inv_review {x : X} {N : Nat} {c0 : Cx} {H0 : List AO} {s : AS} {c : Cx} {a : Act} (hi : Inv x c0 H0 N s c a) {j : Nat} {o o' : AO} (ho : s.loc[j]? = some o) (hv : o.ver = o'.ver) (hw : o.owned = o'.owned) (hobj : ∀ pl, ObjAt c pl o → ObjAt c pl o') : Inv x c0 H0 N ⟨s.t, s.loc.set j o', s.H⟩ c a := by
  have hM := hi.mem
  have ho' : (s.mem false)[j]? = some o := ho
  have hmem : (AS.mk s.t (s.loc.set j o') s.H).mem = setM s.mem false j o' := by
    funext sh
    cases sh <;> simp [AS.mem, setM]
  have hset : ∀ (sh : Bool) (i : Nat) (q : AO), (setM s.mem false j o' sh)[i]? = some q → ∃ q', (s.mem sh)[i]? = some q' ∧ q'.ver = q.ver ∧ q'.owned = q.owned ∧ ∀ pl, ObjAt c pl q' → ObjAt c pl q := by
    intro sh i q h
    by_cases e : sh = false ∧ i = j
    · obtain ⟨rfl, rfl⟩ := e
      rw [setM_same ho'] at h
      cases h
      exact ⟨o, ho', hv, hw, hobj⟩
    · rw [setM_other e] at h
      exact ⟨q, h, rfl, rfl, fun _ h => h⟩
  have hown : ∀ sh i m, Owns c.lam (setM s.mem false j o') sh i m → Owns c.lam s.mem sh i m := by
    rintro sh i m ⟨q, ad, cap, h1, h2, h3, h4⟩
    obtain ⟨q', g1, g2, g3, g4⟩ := hset sh i q h1
    exact ⟨q', ad, cap, g1, by rw [g3]; exact h2, by rw [g2]; exact h3, h4⟩
  refine ⟨?_, ?_, hi.len, hi.tr, hi.size, ?_⟩
  · rw [hmem]
    refine ⟨?_, ?_, fun sh i sh' i' m h1 h2 => hM.sep _ _ _ _ m (hown _ _ m h1) (hown _ _ m h2), fun sh i m h => hM.unf _ _ m (hown _ _ m h), hM.fzl⟩
    · intro sh i q pl h1 h2
      obtain ⟨q', g1, g2, g3, g4⟩ := hset sh i q h1
      exact g4 pl (hM.obj sh i q' pl g1 (by rw [g2]; exact h2))
    · intro sh i ver pl h
      obtain ⟨q, h1, h2⟩ := hM.dom sh i ver pl h
      by_cases e : sh = false ∧ i = j
      · obtain ⟨rfl, rfl⟩ := e
        rw [ho'] at h1
        cases h1
        exact ⟨_, setM_same ho', fun hq => by rw [← hv]; exact h2 (by rw [hw]; exact hq)⟩
      · exact ⟨q, by rw [setM_other e]; exact h1, h2⟩
  · rw [hmem]
    have := hi.ev
    exact ⟨this.size, this.os, this.tape, this.output, this.same, this.fz, this.fzn, this.lam, fun sh i m h => this.own sh i m (hown _ _ m h)⟩
  · rw [hmem]
    exact hi.defs.less rfl (fun sh i m h => ⟨sh, i, hown _ _ m h⟩) (fun _ h => h)

theorem leads_nilC {s : AS} (j sz : Nat) (p : List Nat) {v v' : AV} {off : Nat} (ho : s.loc[j]? = some (.cell v)) (hs : v.sub p = some (.nilS, off)) (hu : v.upd p (.own false s.loc.length 0) = some v') (hz : 0 < sz) : Leads s ⟨s.t, (s.loc ++ [AO.row sz []]).set j (.cell v'), s.H⟩ := by
  intro x N c0 H0 c a _ hi
  obtain ⟨d, h1, h2, h3⟩ := leads_newRow sz hz x N c0 H0 c a hi
  have hjl := (List.getElem?_eq_some_iff.1 ho).1
  have ho' : (s.push (.row sz [])).loc[j]? = some (.cell v) := by
    show (s.loc ++ [.row sz []])[j]? = _
    rw [List.getElem?_append_left hjl]; exact ho
  refine ⟨d, h1, inv_review h3 ho' rfl rfl ?_⟩
  rintro pl ⟨m, t, cs, e1, e2, e3⟩
  have hown : CR d (.own false s.loc.length 0) [.slice none 0 0] := by rw [CR]; exact ⟨none, 0, h2, ⟨fun _ => rfl, Nat.le_refl _⟩, rfl⟩
  obtain ⟨u', o2, pre, ys, post, hsub, rfl, hlen, hyl, hr⟩ := upd_cells p e2 hu hown
  rw [hs] at hsub
  cases hsub
  obtain ⟨pre2, xs2, post2, k1, k2, k3⟩ := sub_cells p e2 hs
  rw [CR] at k3
  subst k3
  have hys : ys = [.slice none 0 0] := by
    have hl1 : ys.length = 1 := by simpa using hyl
    have := congrArg (fun l : List Value => l[pre.length]?) k1
    simp only [List.append_assoc] at this
    rw [List.getElem?_append_right (Nat.le_refl _)] at this
    rw [show pre.length = pre2.length by omega, List.getElem?_append_right (Nat.le_refl _)] at this
    match ys, hl1 with
    | [y], _ => simp at this; rw [this]
  rw [hys] at e3
  exact ⟨m, t, _, e1, hr, e3⟩

/-! ### Less is said of a value -/
/-- The one may be taken for the other. -/
def Wk (u v : AV) : Prop := u.isAgg = v.isAgg ∧ u.solid = v.solid ∧ ∀ c cs, CR c u cs → CR c v cs
theorem Wk.refl (u : AV) : Wk u u := ⟨rfl, rfl, fun _ _ h => h⟩
theorem Wk.nil (sz : Nat) : Wk .nilS (.lit sz []) := by
  refine ⟨rfl, rfl, ?_⟩
  intro c cs h
  have h : cs = [.slice none 0 0] := by rw [CR] at h; exact h
  rw [CR]
  subst h
  exact ⟨by simp, none, 0, [], rfl, rfl, Nat.le_refl _, by simp [maxLen], fun h => (h rfl).elim⟩
inductive Wks : List AV → List AV → Prop
  | nil : Wks [] []
  | cons {u v us vs} : Wk u v → Wks us vs → Wks (u :: us) (v :: vs)
theorem Wks.CRs {c : Cx} : ∀ {us vs : List AV} {css : List (List Value)}, Wks us vs → Abs.CRs c us css → Abs.CRs c vs css
  | _, _, _, .nil, h => h
  | _, _, _, .cons h1 h2, h => by
    rw [Abs.CRs] at h ⊢
    obtain ⟨x, xs, e, k1, k2⟩ := h
    exact ⟨x, xs, e, h1.2.2 c x k1, h2.CRs k2⟩
theorem Wk.agg {us vs : List AV} (h : Wks us vs) : Wk (.agg us) (.agg vs) := by
  refine ⟨rfl, rfl, ?_⟩
  intro c cs hc
  rw [CR] at hc ⊢
  obtain ⟨css, h1, e⟩ := hc
  exact ⟨css, h.CRs h1, e⟩
theorem Wk.VR {c : Cx} {u v : AV} {m : Value} (h : Wk u v) (hs : u.solid = true) (hv : Abs.VR c u m) : Abs.VR c v m := by
  obtain ⟨cs, hc, rfl⟩ := (VR_solid hs).1 hv
  rw [vOf_same h.1 cs]
  exact VR_of_CR (h.2.2 c cs hc)
theorem Wks.len : ∀ {us vs : List AV}, Wks us vs → us.length = vs.length
  | _, _, .nil => rfl
  | _, _, .cons _ h => by simp [h.len]
theorem Wks.get : ∀ {us vs : List AV}, Wks us vs → ∀ {i : Nat} {u v : AV}, us[i]? = some u → vs[i]? = some v → Wk u v
  | _, _, .cons h1 h2, 0, u, v, hu, hv => by simp at hu hv; subst hu; subst hv; exact h1
  | _, _, .cons h1 h2, i + 1, u, v, hu, hv => h2.get (by simpa using hu) (by simpa using hv)
/-- The arguments are taken for others. -/
theorem ACall.args {x : X} {f : FuncId} {us vs : List AV} {n : Nat} {H : List AO} {Q : AV → List AO → List AO → Prop} (hw : Wks us vs) (hs : ∀ u ∈ us, u.solid = true) (h : ACall x f vs n H Q) : ACall x f us n H Q := by
  refine ⟨h.1, fun c ms h1 h2 h3 => h.2 c ms h1 (hw.len.symm.trans h2) ?_⟩
  intro i v m hv hm
  have hi := (List.getElem?_eq_some_iff.1 hv).1
  have hu : us[i]? = some (us[i]'(by rw [hw.len]; exact hi)) := List.getElem?_eq_getElem (by rw [hw.len]; exact hi)
  exact (hw.get hu hv).VR (hs _ (List.mem_of_getElem? hu)) (h3 i _ m hu hm)
/-- The result is taken for another. -/
theorem ACall.res {x : X} {f : FuncId} {vs : List AV} {n : Nat} {H : List AO} {Q Q' : AV → List AO → List AO → Prop} (h : ACall x f vs n H Q) (hq : ∀ r R H', Q r R H' → ∃ r', (∀ c m, VR c r m → VR c r' m) ∧ Q' r' R H') : ACall x f vs n H Q' := by
  refine ⟨h.1, fun c ms h1 h2 h3 => (h.2 c ms h1 h2 h3).mono ?_⟩
  rintro e w' ⟨m, r, R, H', d, e1, e2, q, hv, rest⟩
  obtain ⟨r', k1, k2⟩ := hq r R H' q
  exact ⟨m, r', R, H', d, e1, e2, k2, k1 d m hv, rest⟩
theorem Wk.tup {us vs : List AV} (h : Wks us vs) (hs : ∀ u ∈ us, u.solid = true) (c : Cx) (m : Value) (hv : Abs.VR c (.tup us) m) : Abs.VR c (.tup vs) m := by
  obtain ⟨ms, e, hl, hi⟩ := hv
  refine ⟨ms, e, h.len.symm.trans hl, ?_⟩
  intro i v y hv' hy
  have hil := (List.getElem?_eq_some_iff.1 hv').1
  have hu : us[i]? = some (us[i]'(by rw [h.len]; exact hil)) := List.getElem?_eq_getElem (by rw [h.len]; exact hil)
  rcases hi i _ y hu hy with e | k
  · have := hs _ (List.mem_of_getElem? hu)
    rw [e] at this; simp [AV.solid] at this
  · right
    obtain ⟨cs, hc, rfl⟩ := k
    have hw := h.get hu hv'
    rw [vOf_same hw.1 cs]
    exact ⟨cs, hw.2.2 c cs hc, rfl⟩
end Go.Abs
/- Evaluation by 'simp' in regions of any order; exposure; small rules. -/
set_option linter.unusedVariables false
set_option linter.unusedSimpArgs false
namespace Go.Abs
open Go.RowKit

section
variable {x : X} {s : AS} {ops : List Oper} {J : List Nat} {K : AS → Prop} {KV : AV → AS → Prop} {rest : List Oper} {o : Op} {d : Option Tmp} {ty : TypeId} {ps : String} {af : Array Edge} {j c : Nat} {cs : List Nat} {b : Bool} {op : Oper}
@[simp] theorem dps_nil : DPs x ops J K [] cs s = K s := rfl
@[simp] theorem dps_cons : DPs x ops J K (⟨d, o, ty, ps, af, none⟩ :: rest) (c :: cs) s = Dv x J c ⟨d, o, ty, ps, af, none⟩ s (fun v s' => DPs x ops J K rest cs (s'.put d v)) := rfl
theorem dps_if : DPs x ops J K (⟨d, o, ty, ps, af, some (j, b)⟩ :: rest) (c :: cs) s = (match (ops[j]?).bind (·.dst) with
      | none => False
      | some e => match s.get e with
        | .bool q => (q = b → Dv x J c ⟨d, o, ty, ps, af, some (j, b)⟩ s (fun v s' => DPs x ops J K rest cs (s'.put d v))) ∧ (q ≠ b → DPs x ops J K rest cs (s.put d (.tup [])))
        | .tup _ => DPs x ops J K rest cs (s.put d (.tup []))
        | _ => False) := rfl
@[simp] theorem dps_if_yes (h : ((ops[j]?).bind (·.dst)).isSome = true) (hg : s.get (((ops[j]?).bind (·.dst)).getD 0) = .bool b) : DPs x ops J K (⟨d, o, ty, ps, af, some (j, b)⟩ :: rest) (c :: cs) s = Dv x J c ⟨d, o, ty, ps, af, some (j, b)⟩ s (fun v s' => DPs x ops J K rest cs (s'.put d v)) := by
  obtain ⟨e, he⟩ := Option.isSome_iff_exists.1 h
  rw [he] at hg
  simp only [Option.getD_some] at hg
  rw [dps_if]
  simp [he, hg]
@[simp] theorem dps_if_no (h : ((ops[j]?).bind (·.dst)).isSome = true) (hg : s.get (((ops[j]?).bind (·.dst)).getD 0) = .bool (!b)) : DPs x ops J K (⟨d, o, ty, ps, af, some (j, b)⟩ :: rest) (c :: cs) s = DPs x ops J K rest cs (s.put d (.tup [])) := by
  obtain ⟨e, he⟩ := Option.isSome_iff_exists.1 h
  rw [he] at hg
  simp only [Option.getD_some] at hg
  rw [dps_if]
  simp [he, hg]
@[simp] theorem dps_if_tup (h : ((ops[j]?).bind (·.dst)).isSome = true) (hg : s.get (((ops[j]?).bind (·.dst)).getD 0) = .tup []) : DPs x ops J K (⟨d, o, ty, ps, af, some (j, b)⟩ :: rest) (c :: cs) s = DPs x ops J K rest cs (s.put d (.tup [])) := by
  obtain ⟨e, he⟩ := Option.isSome_iff_exists.1 h
  rw [he] at hg
  simp only [Option.getD_some] at hg
  rw [dps_if]
  simp [he, hg]
theorem dps_split {l : List Oper} {q : Bool} (e : Nat) (h : s.get e = .bool q) (h1 : q = true → DPs x ops J K l cs s) (h0 : q = false → DPs x ops J K l cs s) : DPs x ops J K l cs s := by
  cases q with
  | true => exact h1 rfl
  | false => exact h0 rfl
@[simp] theorem dv_0 : Dv x J 0 op s KV = (pureK op.op = true ∧ Pv x op s KV) := rfl
@[simp] theorem dv_1 : Dv x J 1 op s KV = DQ x op s KV := rfl
@[simp] theorem dv_2 : Dv x J 2 op s KV = DA x op s KV := rfl
@[simp] theorem dv_3 : Dv x J 3 op s KV = DT x op s (fun v s' => s.loc.length ≤ s'.loc.length ∧ s.H.length ≤ s'.H.length ∧ (∀ j ∈ J, s'.loc[j]? = s.loc[j]?) ∧ KV v s') := rfl
@[simp] theorem dv_4 : Dv x J 4 op s KV = DR x J op s KV := rfl
end
section
variable {x : X} {s : AS} {J : List Nat} {K : AV → AS → Prop} {o : Op} {d : Option Tmp} {ty : TypeId} {ps : String} {af : Array Edge} {g : Option (Nat × Bool)}
@[congr] theorem dv_congr {c c' : Nat} {o o' : Oper} {s s' : AS} {K : AV → AS → Prop} (h0 : c = c') (h1 : o = o') (h : s = s') : Dv x J c o s K = Dv x J c' o' s' K := by rw [h0, h1, h]
@[congr] theorem dq_congr {o o' : Oper} {s s' : AS} {K : AV → AS → Prop} (h1 : o = o') (h : s = s') : DQ x o s K = DQ x o' s' K := by rw [h1, h]
@[congr] theorem da_congr {o o' : Oper} {s s' : AS} {K : AV → AS → Prop} (h1 : o = o') (h : s = s') : DA x o s K = DA x o' s' K := by rw [h1, h]
@[congr] theorem dt_congr {o o' : Oper} {s s' : AS} {K : AV → AS → Prop} (h1 : o = o') (h : s = s') : DT x o s K = DT x o' s' K := by rw [h1, h]
@[congr] theorem dr_congr {o o' : Oper} {s s' : AS} {K : AV → AS → Prop} (h1 : o = o') (h : s = s') : DR x J o s K = DR x J o' s' K := by rw [h1, h]
@[simp] theorem dq_load (t y) : DQ x ⟨d, .load t y, ty, ps, af, g⟩ s K = asTI x t fun i => pLoad s i (s.ev y) K := rfl
def dqCall (x : X) (s : AS) (f : AV) (ags : List AV) (K : AV → AS → Prop) : Prop :=
  match f with
  | .func (.func fid) [] cap => (∀ v ∈ ags ++ cap, v.solid = true) ∧ (∀ v ∈ ags ++ cap, v.ok shd = true) ∧ (∀ ob ∈ s.H, ob.ok shd = true) ∧ DCall x fid (ags ++ cap) s.H (fun r => K r s)
  | _ => False
@[congr] theorem dqCall_congr {s s' : AS} {f f' : AV} {ags ags' : List AV} {K : AV → AS → Prop} (h0 : s = s') (h1 : f = f') (h2 : ags = ags') : dqCall x s f ags K = dqCall x s' f' ags' K := by rw [h0, h1, h2]
@[simp] theorem dq_call (f ags ats) : DQ x ⟨d, .call ⟨.value f, ags, ats⟩, ty, ps, af, g⟩ s K = dqCall x s (s.ev f) (ags.toList.map s.ev) K := rfl
@[simp] theorem dqCall_func (fid : FuncId) (cap ags : List AV) : dqCall x s (.func (.func fid) [] cap) ags K = ((∀ v ∈ ags ++ cap, v.solid = true) ∧ (∀ v ∈ ags ++ cap, v.ok shd = true) ∧ (∀ ob ∈ s.H, ob.ok shd = true) ∧ DCall x fid (ags ++ cap) s.H (fun r => K r s)) := rfl
@[simp] theorem dt_store (t y z) : DT x ⟨d, .store t y z, ty, ps, af, g⟩ s K = asTI x t fun i => pStore s i (s.ev y) (s.ev z) K := rfl
@[simp] theorem dt_load (t y) : DT x ⟨d, .load t y, ty, ps, af, g⟩ s K = asTI x t fun i => pLoad s i (s.ev y) K := rfl
@[simp] theorem dt_builtin (b ags ats) : DT x ⟨d, .call ⟨.builtin b, ags, ats⟩, ty, ps, af, g⟩ s K = pCall x s ⟨.builtin b, ags, ats⟩ K := rfl
def dtCall (x : X) (s : AS) (f : AV) (ags : List AV) (K : AV → AS → Prop) : Prop :=
  match f with
  | .func (.func fid) [] cap =>
        (∀ v ∈ ags ++ cap, v.solid = true) ∧ (∀ v ∈ (s.expos (ags ++ cap)).1, v.ok shd = true) ∧ (∀ ob ∈ (s.expos (ags ++ cap)).2.H, ob.ok shd = true) ∧
        TCall x fid (s.expos (ags ++ cap)).1 (s.expos (ags ++ cap)).2.loc.length (s.expos (ags ++ cap)).2.H
          (fun r R H' => K r { (s.expos (ags ++ cap)).2 with loc := (s.expos (ags ++ cap)).2.loc ++ R, H := H' })
  | .yld true j => (∀ v ∈ ags, v.solid = true) ∧ (∀ v ∈ ags, v.ok shd = true) ∧ (∀ ob ∈ s.H, ob.ok shd = true) ∧ TYCall x j ags s.H (fun r H' => K r { s with H := H' })
  | _ => False
@[congr] theorem dtCall_congr {s s' : AS} {f f' : AV} {ags ags' : List AV} {K : AV → AS → Prop} (h0 : s = s') (h1 : f = f') (h2 : ags = ags') : dtCall x s f ags K = dtCall x s' f' ags' K := by rw [h0, h1, h2]
@[simp] theorem dt_call (f ags ats) : DT x ⟨d, .call ⟨.value f, ags, ats⟩, ty, ps, af, g⟩ s K = dtCall x s (s.ev f) (ags.toList.map s.ev) K := rfl
@[simp] theorem dtCall_func (fid : FuncId) (cap ags : List AV) : dtCall x s (.func (.func fid) [] cap) ags K = (        (∀ v ∈ ags ++ cap, v.solid = true) ∧ (∀ v ∈ (s.expos (ags ++ cap)).1, v.ok shd = true) ∧ (∀ ob ∈ (s.expos (ags ++ cap)).2.H, ob.ok shd = true) ∧
        TCall x fid (s.expos (ags ++ cap)).1 (s.expos (ags ++ cap)).2.loc.length (s.expos (ags ++ cap)).2.H
          (fun r R H' => K r { (s.expos (ags ++ cap)).2 with loc := (s.expos (ags ++ cap)).2.loc ++ R, H := H' })) := rfl
@[simp] theorem dtCall_yld (j : Nat) (ags : List AV) : dtCall x s (.yld true j) ags K = ((∀ v ∈ ags, v.solid = true) ∧ (∀ v ∈ ags, v.ok shd = true) ∧ (∀ ob ∈ s.H, ob.ok shd = true) ∧ TYCall x j ags s.H (fun r H' => K r { s with H := H' })) := rfl
end
attribute [simp] pureK DA DR makeK AS.expos AS.expo
end Go.Abs
/- The books of the shaft in plain Lean: kilns, links, weights. -/
set_option linter.unusedVariables false
namespace Go.Shaft
structure Sp where
  lo : Int
  hi : Int
  deriving DecidableEq, Inhabited
structure Ld where
  id : Int
  hour : Int
  w : Sp
  deriving DecidableEq, Inhabited
structure Wg where
  id : Int
  kind : Int
  frm : Int
  to : Int
  sum : Sp
  deriving DecidableEq, Inhabited
structure Tie where
  frm : Int
  to : Int
  most : Int
  id : Int
  deriving DecidableEq, Inhabited
structure Kn where
  room : Int
  per : Int
  loads : List Ld
  draws : List Ld
  weighs : List Wg
  deriving DecidableEq, Inhabited
structure Tr where
  loads : List Int
  draws : List Int
  deriving DecidableEq, Inhabited
structure Ch where
  most : Int
  path : List Int
  tr : Tr
  deriving DecidableEq, Inhabited
end Go.Shaft
/- Kilns in plain Lean: what the small functions compute. -/
set_option linter.unusedVariables false
namespace Go.Shaft
/-- The place of the one with an ID; -1 if there is none. -/
def find (l : List Ld) (a : Int) : Int := match (l.map (·.id)).idxOf? a with | some i => (i : Int) | none => -1
def inB (n lo hi : Int) : Bool := decide (lo ≤ n ∧ n ≤ hi)
def spanB (s : Sp) (most : Int) : Bool := decide (0 ≤ s.lo ∧ s.lo ≤ s.hi ∧ s.hi ≤ most)
/-- How many there are up to an hour. -/
def byHr (l : List Ld) (h : Int) : Nat := l.countP (fun x => decide (x.hour ≤ h))
def drawnM (k : Kn) (n : Int) : Int := if n = 0 then 0 else k.loads.length + n
def marksM (k : Kn) : Nat := 1 + k.loads.length + k.draws.length
def orderedB (l : List Ld) (a b : Int) : Bool := decide (0 ≤ find l a ∧ find l a ≤ find l b)
/-- Few enough for whatever is reckoned. -/
structure Few (k : Kn) : Prop where
  l : k.loads.length ≤ 100
  d : k.draws.length ≤ 100
  w : k.weighs.length ≤ 100
theorem find_at {l : List Ld} {a : Int} {i : Nat} {x : Ld} (hx : l[i]? = some x) (ha : x.id = a) (hno : ∀ j y, j < i → l[j]? = some y → y.id ≠ a) : find l a = i := by
  unfold find
  have : (l.map (·.id)).idxOf? a = some i := by
    rw [List.idxOf?_eq_some_iff]
    refine ⟨by simpa using (List.getElem?_eq_some_iff.1 hx).1, ?_, ?_⟩
    · have := (List.getElem?_eq_some_iff.1 hx).2
      simp [this, ha]
    · intro j hj
      have hjl : j < l.length := by have := (List.getElem?_eq_some_iff.1 hx).1; omega
      have := hno j l[j] hj (List.getElem?_eq_getElem hjl)
      simpa using this
  rw [this]
theorem find_none {l : List Ld} {a : Int} (hno : ∀ j y, j < l.length → l[j]? = some y → y.id ≠ a) : find l a = -1 := by
  unfold find
  have : (l.map (·.id)).idxOf? a = none := by
    rw [List.idxOf?_eq_none_iff]
    intro h
    rw [List.mem_map] at h
    obtain ⟨y, hy, e⟩ := h
    obtain ⟨j, hj, e2⟩ := List.mem_iff_getElem.1 hy
    exact hno j y hj (by rw [List.getElem?_eq_getElem hj, e2]) e
  rw [this]
theorem find_le (l : List Ld) (a : Int) : -1 ≤ find l a ∧ find l a < l.length := by
  unfold find
  split
  · rename_i i hi
    rw [List.idxOf?_eq_some_iff] at hi
    obtain ⟨h, _⟩ := hi
    simp at h
    omega
  · omega
theorem byHr_step {l : List Ld} {i : Nat} {x : Ld} {h : Int} (hx : l[i]? = some x) : byHr (l.take (i + 1)) h = byHr (l.take i) h + if x.hour ≤ h then 1 else 0 := by
  have hl := (List.getElem?_eq_some_iff.1 hx).1
  have he := (List.getElem?_eq_some_iff.1 hx).2
  unfold byHr
  rw [List.take_add_one, hx, List.countP_append]
  simp
theorem byHr_le (l : List Ld) (h : Int) : byHr l h ≤ l.length := List.countP_le_length
end Go.Shaft
namespace Go.Shaft
/-- The place of the first one for which something is so. -/
def idxP {α : Type} (l : List α) (p : α → Bool) : Int := match l.findIdx? p with | some i => (i : Int) | none => -1
theorem idxP_at {α : Type} {l : List α} {p : α → Bool} {i : Nat} {x : α} (hx : l[i]? = some x) (ha : p x = true) (hno : ∀ j y, j < i → l[j]? = some y → p y = false) : idxP l p = i := by
  unfold idxP
  have hi := (List.getElem?_eq_some_iff.1 hx).1
  have : l.findIdx? p = some i := by
    rw [List.findIdx?_eq_some_iff_getElem]
    refine ⟨hi, ?_, ?_⟩
    · have := (List.getElem?_eq_some_iff.1 hx).2
      rw [this]; exact ha
    · intro j hj
      have := hno j l[j] hj (List.getElem?_eq_getElem (by omega))
      simp [this]
  rw [this]
theorem idxP_none {α : Type} {l : List α} {p : α → Bool} (hno : ∀ j y, j < l.length → l[j]? = some y → p y = false) : idxP l p = -1 := by
  unfold idxP
  have : l.findIdx? p = none := by
    rw [List.findIdx?_eq_none_iff]
    intro x hx
    obtain ⟨j, hj, e⟩ := List.mem_iff_getElem.1 hx
    exact hno j x hj (by rw [List.getElem?_eq_getElem hj, e])
  rw [this]
theorem idxP_find (l : List Ld) (a : Int) : idxP l (fun x => x.id == a) = find l a := by
  unfold idxP find
  have : (l.map (·.id)).idxOf? a = l.findIdx? (fun x => x.id == a) := by
    rw [List.idxOf?, List.findIdx?_map]
    rfl
  rw [this]
end Go.Shaft
/- Kilns in plain Lean: checking. -/
set_option linter.unusedVariables false
namespace Go.Shaft
def recB (x : Ld) (last : Int) : Bool := inB x.id 1 1099511627776 && inB x.hour last 16384 && spanB x.w 1048576
def chk : List Ld → Int → List Int → Int × List Int
  | [], _, sn => (0, sn)
  | x :: l, last, sn => if recB x last then (if x.id ∈ sn then (6, sn) else chk l x.hour (sn ++ [x.id])) else (1, sn)
def weighB (k : Kn) (w : Wg) : Bool :=
  if inB w.id 1 1099511627776 && spanB w.sum 16777216 then
    if w.kind = 1 then orderedB k.loads w.frm w.to
    else if w.kind = 2 then orderedB k.draws w.frm w.to
    else decide (w.kind = 3) && (inB w.frm 0 16384 && decide (w.to = 0))
  else false
def chkW (k : Kn) : List Wg → List Int → Int
  | [], _ => 0
  | w :: l, sn => if weighB k w then (if w.id ∈ sn then 6 else chkW k l (sn ++ [w.id])) else 1
def check (k : Kn) : Int :=
  if inB k.room 0 16777216 && inB k.per 1 65536 then
    if k.loads.length > 20 ∨ k.draws.length > 20 ∨ k.weighs.length > 20 then 2
    else
      let a := chk k.loads 0 []
      if a.1 ≠ 0 then a.1 else
      let b := chk k.draws 0 a.2
      if b.1 ≠ 0 then b.1 else chkW k k.weighs b.2
  else 1
def weighedM (k : Kn) (w : Wg) : Int × Int :=
  if w.kind = 1 then (find k.loads w.frm, find k.loads w.to + 1)
  else if w.kind = 2 then (drawnM k (find k.draws w.frm), drawnM k (find k.draws w.to + 1))
  else (drawnM k (byHr k.draws w.frm), byHr k.loads w.frm)
end Go.Shaft
/- Kilns in plain Lean: ties. -/
set_option linter.unusedVariables false
namespace Go.Shaft
def both (a b : Int) (s : Sp) (id : Int) : List Tie := [⟨a, b, s.hi, id⟩, ⟨b, a, -s.lo, id⟩]
def ties1 (k : Kn) : List Tie := k.loads.zipIdx.flatMap fun q => both q.2 (q.2 + 1) q.1.w q.1.id
def ties2 (k : Kn) : List Tie := k.draws.zipIdx.flatMap fun q => both (drawnM k q.2) (drawnM k (q.2 + 1)) q.1.w q.1.id
def ties3 (k : Kn) : List Tie := k.weighs.flatMap fun w => both (weighedM k w).1 (weighedM k w).2 w.sum w.id
def ties4 (k : Kn) : List Tie := k.draws.zipIdx.map fun q => ⟨byHr k.loads q.1.hour, drawnM k (q.2 + 1), 0, 0⟩
def ties5 (k : Kn) : List Tie := k.loads.zipIdx.map fun q => ⟨drawnM k (byHr k.draws (q.1.hour - 1)), q.2 + 1, k.room, 0⟩
def tiesM (k : Kn) : List Tie := ties1 k ++ (ties2 k ++ (ties3 k ++ (ties4 k ++ ties5 k)))
/-- What a right kiln's numbers are. -/
structure Lo (k : Kn) : Prop where
  l : ∀ x ∈ k.loads, 0 ≤ x.w.lo ∧ x.w.lo ≤ 1048576 ∧ x.w.hi ≤ 1048576 ∧ 0 ≤ x.hour ∧ x.hour ≤ 16384
  d : ∀ x ∈ k.draws, 0 ≤ x.w.lo ∧ x.w.lo ≤ 1048576 ∧ x.w.hi ≤ 1048576 ∧ 0 ≤ x.hour ∧ x.hour ≤ 16384
  w : ∀ x ∈ k.weighs, 0 ≤ x.sum.lo ∧ x.sum.lo ≤ 16777216 ∧ x.sum.hi ≤ 16777216
/-- How far one gets: up to the first one that says no. -/
def stopN (b : Nat → Bool) : Nat → Nat → Nat
  | i, 0 => i
  | i, m + 1 => if b i then stopN b (i + 1) m else i + 1
theorem stopN_true (b : Nat → Bool) : ∀ (m i : Nat), (∀ j, i ≤ j → j < i + m → b j = true) → stopN b i m = i + m
  | 0, i, _ => rfl
  | m + 1, i, h => by
    rw [stopN, if_pos (h i (Nat.le_refl _) (by omega)), stopN_true b m (i + 1) (fun j h1 h2 => h j (by omega) (by omega))]
    omega
/-- Behind some that say yes. -/
theorem stopN_from (b : Nat → Bool) : ∀ (m i n : Nat), (∀ j, i ≤ j → j < i + m → b j = true) → m ≤ n → stopN b i n = stopN b (i + m) (n - m)
  | 0, i, n, _, _ => rfl
  | m + 1, i, n, h, hn => by
    obtain ⟨n', rfl⟩ : ∃ n', n = n' + 1 := ⟨n - 1, by omega⟩
    rw [stopN, if_pos (h i (Nat.le_refl _) (by omega)), stopN_from b m (i + 1) n' (fun j h1 h2 => h j (by omega) (by omega)) (by omega)]
    congr 1 <;> omega
theorem stopN_no (b : Nat → Bool) {i j n : Nat} (h : ∀ q, i ≤ q → q < j → b q = true) (hij : i ≤ j) (hj : b j = false) (hn : j < i + n) : stopN b i n = j + 1 := by
  rw [stopN_from b (j - i) i n (fun q h1 h2 => h q h1 (by omega)) (by omega)]
  obtain ⟨m, hm⟩ : ∃ m, n - (j - i) = m + 1 := ⟨n - (j - i) - 1, by omega⟩
  rw [hm, show i + (j - i) = j by omega, stopN, if_neg (by simp [hj])]
theorem flat2 {α β : Type} (f : α → List β) (hf : ∀ a, (f a).length = 2) : ∀ (l : List α), (l.flatMap f).length = 2 * l.length
  | [] => rfl
  | a :: l => by rw [List.flatMap_cons, List.length_append, hf, flat2 f hf l, List.length_cons]; omega
theorem flat2_get {α β : Type} (f : α → List β) (hf : ∀ a, (f a).length = 2) : ∀ (l : List α) (i : Nat) (a : α), l[i]? = some a → (l.flatMap f)[2 * i]? = (f a)[0]? ∧ (l.flatMap f)[2 * i + 1]? = (f a)[1]?
  | [], i, a, h => by simp at h
  | x :: l, 0, a, h => by
    simp at h
    subst h
    rw [List.flatMap_cons]
    exact ⟨List.getElem?_append_left (by rw [hf]; omega), List.getElem?_append_left (by rw [hf]; omega)⟩
  | x :: l, i + 1, a, h => by
    rw [List.flatMap_cons, List.getElem?_append_right (by rw [hf]; omega), List.getElem?_append_right (by rw [hf]; omega), hf]
    have := flat2_get f hf l i a (by simpa using h)
    rw [show 2 * (i + 1) - 2 = 2 * i by omega, show 2 * (i + 1) + 1 - 2 = 2 * i + 1 by omega]
    exact this
theorem zip_get {α : Type} {l : List α} {i : Nat} {x : α} (h : l[i]? = some x) : l.zipIdx[i]? = some (x, i) := by
  rw [List.getElem?_zipIdx, h]; simp
theorem ties1_len (k : Kn) : (ties1 k).length = 2 * k.loads.length := by
  rw [ties1, flat2 _ (fun _ => rfl), List.length_zipIdx]
theorem ties2_len (k : Kn) : (ties2 k).length = 2 * k.draws.length := by
  rw [ties2, flat2 _ (fun _ => rfl), List.length_zipIdx]
theorem ties3_len (k : Kn) : (ties3 k).length = 2 * k.weighs.length := by
  rw [ties3, flat2 _ (fun _ => rfl)]
theorem ties4_len (k : Kn) : (ties4 k).length = k.draws.length := by simp [ties4]
theorem ties5_len (k : Kn) : (ties5 k).length = k.loads.length := by simp [ties5]
theorem tiesLen (k : Kn) : (tiesM k).length = 2 * k.loads.length + (2 * k.draws.length + (2 * k.weighs.length + (k.draws.length + k.loads.length))) := by
  simp only [tiesM, List.length_append, ties1_len, ties2_len, ties3_len, ties4_len, ties5_len]
theorem tie1 {k : Kn} {i : Nat} {x : Ld} (h : k.loads[i]? = some x) : (tiesM k)[2 * i]? = some ⟨i, i + 1, x.w.hi, x.id⟩ ∧ (tiesM k)[2 * i + 1]? = some ⟨i + 1, i, -x.w.lo, x.id⟩ := by
  have hi := (List.getElem?_eq_some_iff.1 h).1
  obtain ⟨h1, h2⟩ := flat2_get (fun q : Ld × Nat => both q.2 (q.2 + 1) q.1.w q.1.id) (fun _ => rfl) _ i _ (zip_get h)
  unfold tiesM
  rw [List.getElem?_append_left (by rw [ties1_len]; omega), List.getElem?_append_left (by rw [ties1_len]; omega)]
  exact ⟨h1, h2⟩
theorem app_r {α : Type} {a b : List α} {n : Nat} (h : a.length = n) (i : Nat) : (a ++ b)[n + i]? = b[i]? := by
  rw [List.getElem?_append_right (by omega), h, Nat.add_sub_cancel_left]
theorem app_l {α : Type} {a b : List α} {n i : Nat} (h : a.length = n) (hi : i < n) : (a ++ b)[i]? = a[i]? := List.getElem?_append_left (by omega)
theorem tie2 {k : Kn} {i : Nat} {x : Ld} (h : k.draws[i]? = some x) : (tiesM k)[2 * k.loads.length + 2 * i]? = some ⟨drawnM k i, drawnM k (i + 1), x.w.hi, x.id⟩ ∧ (tiesM k)[2 * k.loads.length + 2 * i + 1]? = some ⟨drawnM k (i + 1), drawnM k i, -x.w.lo, x.id⟩ := by
  have hi := (List.getElem?_eq_some_iff.1 h).1
  obtain ⟨h1, h2⟩ := flat2_get (fun q : Ld × Nat => both (drawnM k q.2) (drawnM k (q.2 + 1)) q.1.w q.1.id) (fun _ => rfl) _ i _ (zip_get h)
  unfold tiesM
  rw [Nat.add_assoc]
  refine ⟨?_, ?_⟩
  · rw [app_r (ties1_len k), app_l (ties2_len k) (by omega)]; exact h1
  · rw [app_r (ties1_len k), app_l (ties2_len k) (by omega)]; exact h2
theorem tie3 {k : Kn} {i : Nat} {w : Wg} (h : k.weighs[i]? = some w) : (tiesM k)[2 * k.loads.length + 2 * k.draws.length + 2 * i]? = some ⟨(weighedM k w).1, (weighedM k w).2, w.sum.hi, w.id⟩ ∧ (tiesM k)[2 * k.loads.length + 2 * k.draws.length + 2 * i + 1]? = some ⟨(weighedM k w).2, (weighedM k w).1, -w.sum.lo, w.id⟩ := by
  have hi := (List.getElem?_eq_some_iff.1 h).1
  obtain ⟨h1, h2⟩ := flat2_get (fun w : Wg => both (weighedM k w).1 (weighedM k w).2 w.sum w.id) (fun _ => rfl) _ i _ h
  unfold tiesM
  refine ⟨?_, ?_⟩
  · rw [Nat.add_assoc, app_r (ties1_len k), app_r (ties2_len k), app_l (ties3_len k) (by omega)]; exact h1
  · rw [Nat.add_assoc, Nat.add_assoc, app_r (ties1_len k), app_r (ties2_len k), app_l (ties3_len k) (by omega)]; exact h2
theorem tie4 {k : Kn} {i : Nat} {x : Ld} (h : k.draws[i]? = some x) : (tiesM k)[2 * k.loads.length + 2 * k.draws.length + 2 * k.weighs.length + i]? = some ⟨byHr k.loads x.hour, drawnM k (i + 1), 0, 0⟩ := by
  have hi := (List.getElem?_eq_some_iff.1 h).1
  unfold tiesM
  rw [Nat.add_assoc, Nat.add_assoc, app_r (ties1_len k), app_r (ties2_len k), app_r (ties3_len k), app_l (ties4_len k) (by omega), ties4, List.getElem?_map, zip_get h]
  rfl
theorem tie5 {k : Kn} {i : Nat} {x : Ld} (h : k.loads[i]? = some x) : (tiesM k)[2 * k.loads.length + 2 * k.draws.length + 2 * k.weighs.length + k.draws.length + i]? = some ⟨drawnM k (byHr k.draws (x.hour - 1)), i + 1, k.room, 0⟩ := by
  have hi := (List.getElem?_eq_some_iff.1 h).1
  unfold tiesM
  rw [Nat.add_assoc, Nat.add_assoc, Nat.add_assoc, app_r (ties1_len k), app_r (ties2_len k), app_r (ties3_len k), app_r (ties4_len k), ties5, List.getElem?_map, zip_get h]
  rfl
end Go.Shaft
