import PyProof.Rows.All
import Wide.All
import OpenK.AllK
import Wide.FinOn
import HandS.ForExc
import HandS.Comp
import HandS.Iter
import HandS.Deep
import HandS.TupAny
import HandS.Style
import HandS.More
import HandS.Zip
import HandS.TupSets
import HandS.TupMul
import HandS.Conv
import HandS.IsInst
import KE.SortData
import PySem.Challenge.RW_ordertext_k38_bound_shown
set_option Elab.async false
set_option linter.all false
set_option maxRecDepth 100000
set_option maxHeartbeats 4000000
/-! BV: Python by value over the layer HandS. An environment holds data (PyData) by slots; a slot may hold a list of its own that it alone may change. -/
namespace BV
open PySem PySem.Spec L2
open PyProof.Rows hiding St

abbrev Fg := PySem.W.Frag
/-- what a slot holds: data that never changes again, or a list that no other place holds -/
inductive Sl where
  | imm (d : PyData)
  | own (ds : List PyData)
abbrev BE := List (Option Sl)
/-- an answer: data, or a new list that no place holds yet -/
inductive Val where
  | imm (d : PyData)
  | new (ds : List PyData)
/-- an operand: an answer, or what a slot holds at the time of the operation -/
inductive Opd where
  | val (v : Val)
  | slot (i : Nat)
/-- an exception: its class, its fields -/
structure Ex where
  cls : Str
  fs : Option (List (Str × PyData))
inductive Out (α : Type) where
  | ok (a : α) (e : BE)
  | ex (x : Ex) (e : BE)
inductive Fl where
  | nx | bk | ct
  | rt (v : Val)

def Val.d : Val → PyData
  | .imm d => d
  | .new ds => .list ds
def Opd.d : Opd → BE → Option PyData
  | .val v, _ => some v.d
  | .slot i, env => match env[i]? with
    | some (some (.imm d)) => some d
    | some (some (.own ds)) => some (.list ds)
    | _ => none
/-- the operand as data for good: a slot's own list changes no more -/
def Opd.fr : Opd → BE → Option (PyData × BE)
  | .val v, env => some (v.d, env)
  | .slot i, env => match env[i]? with
    | some (some (.imm d)) => some (d, env)
    | some (some (.own ds)) => some (.list ds, env.set i (some (.imm (.list ds))))
    | _ => none

section
variable {K : Fg} {H H' H1 H2 Z Z' Z1 Z2 : Hp} {σ σ' σ1 σ2 : St} {env env' env1 env2 : BE} {v : V} {d : PyData} {a p : Addr} {xs : List V} {ds : List PyData}

/-- the one heap lies within the other -/
def Le (H H' : Hp) : Prop := ∀ a o, H a = some o → H' a = some o
theorem Le.refl (H : Hp) : Le H H := fun _ _ h => h
theorem Le.trans (a : Le H H1) (b : Le H1 H2) : Le H H2 := fun c o h => b c o (a c o h)
theorem Le.rd (l : Le H H') {u : HO} (h : Rd H a u) : Rd H' a u := by
  rcases h with h | ⟨o, h⟩
  · exact .inl (l _ _ h)
  · exact .inr ⟨o, l _ _ h⟩
theorem Le.sqL (l : Le H H') (h : SqL K H a xs) : SqL K H' a xs := by
  rcases h with h | h
  · exact .inl (l.rd h)
  · exact .inr h
theorem Le.sqT (l : Le H H') (h : SqT K H a xs) : SqT K H' a xs := by
  rcases h with h | h
  · exact .inl (l.rd h)
  · exact .inr h
mutual
/-- data in the heap; its lists are tracked -/
inductive Dt (K : Fg) (H : Hp) : V → PyData → Prop
  | non : Dt K H .non .none
  | bl (b : Bool) : Dt K H (.bl b) (.bool b)
  | int (i : Int) : Dt K H (.int i) (.int i)
  | str (x : Str) : Dt K H (.str x) (.str x)
  | lst {a : Addr} {xs : List V} {ds : List PyData} : Rd H a (.lst xs) → DtAll K H xs ds → Dt K H (.ref a) (.list ds)
  | tup {a : Addr} {xs : List V} {ds : List PyData} : SqT K H a xs → DtAll K H xs ds → Dt K H (.ref a) (.tuple ds)
inductive DtAll (K : Fg) (H : Hp) : List V → List PyData → Prop
  | nil : DtAll K H [] []
  | cons {v : V} {vs : List V} {d : PyData} {ds : List PyData} : Dt K H v d → DtAll K H vs ds → DtAll K H (v :: vs) (d :: ds)
end
mutual
theorem Dt.dp : ∀ (d : PyData) (v : V), Dt K H v d → Dp K H v d
  | .none, v, h => by cases h; exact .non
  | .bool b, v, h => by cases h; exact .bl b
  | .int i, v, h => by cases h; exact .int i
  | .str x, v, h => by cases h; exact .str x
  | .list ds, v, h => by
    cases h with
    | lst hs ha => exact .lst (.inl hs) (DtAll.dp ds _ ha)
  | .tuple ds, v, h => by
    cases h with
    | tup hs ha => exact .tup hs (DtAll.dp ds _ ha)
  | .dict kvs, v, h => by cases h
theorem DtAll.dp : ∀ (ds : List PyData) (vs : List V), DtAll K H vs ds → DpAll K H vs ds
  | [], _, h => by cases h; exact .nil
  | d :: ds, _, h => by
    cases h with
    | cons h1 h2 => exact .cons (Dt.dp d _ h1) (DtAll.dp ds _ h2)
end
mutual
theorem Le.dp (l : Le H H') : ∀ (d : PyData) (v : V), Dt K H v d → Dt K H' v d
  | .none, v, h => by cases h; exact .non
  | .bool b, v, h => by cases h; exact .bl b
  | .int i, v, h => by cases h; exact .int i
  | .str x, v, h => by cases h; exact .str x
  | .list ds, v, h => by
    cases h with
    | lst hs ha => exact .lst (l.rd hs) (Le.dpAll l ds _ ha)
  | .tuple ds, v, h => by
    cases h with
    | tup hs ha => exact .tup (l.sqT hs) (Le.dpAll l ds _ ha)
  | .dict kvs, v, h => by cases h
theorem Le.dpAll (l : Le H H') : ∀ (ds : List PyData) (vs : List V), DtAll K H vs ds → DtAll K H' vs ds
  | [], _, h => by cases h; exact .nil
  | d :: ds, _, h => by
    cases h with
    | cons h1 h2 => exact .cons (Le.dp l d _ h1) (Le.dpAll l ds _ h2)
end
theorem DtAll.len : ∀ {vs : List V} {ds : List PyData}, DtAll K H vs ds → vs.length = ds.length
  | _, _, .nil => rfl
  | _, _, .cons _ t => by simp [DtAll.len t]
theorem DtAll.get : ∀ {vs : List V} {ds : List PyData} {i : Nat} {d : PyData}, DtAll K H vs ds → ds[i]? = some d → ∃ v, vs[i]? = some v ∧ Dt K H v d
  | _, _, _, _, .nil, e => by simp at e
  | _, _, 0, _, .cons r _, e => by simp at e; subst e; exact ⟨_, rfl, r⟩
  | _, _, i + 1, d, .cons _ t, e => by
    obtain ⟨u, h1, h2⟩ := DtAll.get (i := i) (d := d) t (by simpa using e)
    exact ⟨u, by simpa using h1, h2⟩
theorem DtAll.append : ∀ {vs ws : List V} {ds es : List PyData}, DtAll K H vs ds → DtAll K H ws es → DtAll K H (vs ++ ws) (ds ++ es)
  | _, _, _, _, .nil, s => s
  | _, _, _, _, .cons r t, s => .cons r (DtAll.append t s)
theorem DtAll.take : ∀ {vs : List V} {ds : List PyData} (n : Nat), DtAll K H vs ds → DtAll K H (vs.take n) (ds.take n)
  | _, _, 0, _ => .nil
  | _, _, _ + 1, .nil => .nil
  | _, _, n + 1, .cons r t => .cons r (DtAll.take n t)
theorem DtAll.drop : ∀ {vs : List V} {ds : List PyData} (n : Nat), DtAll K H vs ds → DtAll K H (vs.drop n) (ds.drop n)
  | _, _, 0, r => r
  | _, _, _ + 1, .nil => .nil
  | _, _, n + 1, .cons _ t => DtAll.drop n t
theorem DtAll.set {x : V} {d : PyData} (r : Dt K H x d) : ∀ {vs : List V} {ds : List PyData} (i : Nat), DtAll K H vs ds → DtAll K H (vs.set i x) (ds.set i d)
  | _, _, _, .nil => .nil
  | _, _, 0, .cons _ t => .cons r t
  | _, _, i + 1, .cons q t => .cons q (DtAll.set r i t)
theorem DtAll.reverse : ∀ {vs : List V} {ds : List PyData}, DtAll K H vs ds → DtAll K H vs.reverse ds.reverse
  | _, _, .nil => .nil
  | _, _, .cons r t => by
    rw [List.reverse_cons, List.reverse_cons]
    exact DtAll.append (DtAll.reverse t) (.cons r .nil)
theorem DtAll.ints : ∀ (ns : List Int), DtAll K H (ns.map V.int) (ns.map PyData.int)
  | [] => .nil
  | n :: ns => .cons (.int n) (DtAll.ints ns)

/-- the address of a slot's own list -/
def Own (env : BE) (σ : St) (a : Addr) : Prop := ∃ (i : Nat) (ds : List PyData), env[i]? = some (some (.own ds)) ∧ σ[i]? = some (some (.ref a))
/-- the environment stands in the state: Z is the part of the heap that never changes again -/
structure Rep (K : Fg) (H Z : Hp) (σ : St) (env : BE) : Prop where
  zh : Le Z H
  len : σ.length = env.length
  imm : ∀ (i : Nat) d, env[i]? = some (some (.imm d)) → ∃ v, σ[i]? = some (some v) ∧ Dt K Z v d
  own : ∀ (i : Nat) ds, env[i]? = some (some (.own ds)) → ∃ (p : Addr) (xs : List V), σ[i]? = some (some (.ref p)) ∧ Z p = none ∧ H p = some (.lst xs) ∧ DtAll K Z xs ds
  inj : ∀ (i j : Nat) ds es p, env[i]? = some (some (.own ds)) → env[j]? = some (some (.own es)) → σ[i]? = some (some (.ref p)) → σ[j]? = some (some (.ref p)) → i = j
theorem Rep.ownZ (r : Rep K H Z σ env) (o : Own env σ a) : Z a = none := by
  obtain ⟨i, ds, e1, e2⟩ := o
  obtain ⟨p, xs, e3, z, _⟩ := r.own i ds e1
  rw [e2] at e3
  cases e3
  exact z
theorem Rep.ownH (r : Rep K H Z σ env) (o : Own env σ a) : ∃ xs, H a = some (.lst xs) := by
  obtain ⟨i, ds, e1, e2⟩ := o
  obtain ⟨p, xs, e3, _, h, _⟩ := r.own i ds e1
  rw [e2] at e3
  cases e3
  exact ⟨xs, h⟩
/-- from state to state -/
structure Step (K : Fg) (σ : St) (env : BE) (H Z : Hp) (σ' : St) (env' : BE) (H' Z' : Hp) : Prop where
  rep : Rep K H' Z' σ' env'
  fr : ∀ a o, H a = some o → ¬ Own env σ a → H' a = some o ∧ Z' a = Z a
  le : ∀ a, Own env' σ' a → Own env σ a ∨ H a = none
  tr : ∀ a o, H a = some o → ∃ o', H' a = some o'
theorem Step.refl (r : Rep K H Z σ env) : Step K σ env H Z σ env H Z := ⟨r, fun _ _ h _ => ⟨h, rfl⟩, fun _ h => .inl h, fun _ o h => ⟨o, h⟩⟩
theorem Step.trans (a : Step K σ env H Z σ1 env1 H1 Z1) (b : Step K σ1 env1 H1 Z1 σ2 env2 H2 Z2) : Step K σ env H Z σ2 env2 H2 Z2 where
  rep := b.rep
  fr := fun c o h n => by
    obtain ⟨h1, z1⟩ := a.fr c o h n
    have n1 : ¬ Own env1 σ1 c := fun q => (a.le c q).elim n fun z => by rw [h] at z; cases z
    obtain ⟨h2, z2⟩ := b.fr c o h1 n1
    exact ⟨h2, z2.trans z1⟩
  le := fun c q => by
    rcases b.le c q with q1 | q1
    · exact a.le c q1
    · refine .inr ?_
      cases e : H c with
      | none => rfl
      | some o =>
        obtain ⟨o', h'⟩ := a.tr c o e
        rw [q1] at h'
        cases h'
  tr := fun c o h => by
    obtain ⟨o1, h1⟩ := a.tr c o h
    exact b.tr c o1 h1
theorem Step.leZ (r : Rep K H Z σ env) (s : Step K σ env H Z σ' env' H' Z') : Le Z Z' := fun a o h => by
  have n : ¬ Own env σ a := fun q => by rw [r.ownZ q] at h; cases h
  rw [(s.fr a o (r.zh a o h) n).2]
  exact h
theorem Step.fresh (s : Step K σ env H Z σ' env' H' Z') (h : H' a = none) : H a = none := by
  cases e : H a with
  | none => rfl
  | some o =>
    obtain ⟨o', h'⟩ := s.tr a o e
    rw [h] at h'
    cases h'

/-- an answer stands in the state -/
def IsV (K : Fg) (H0 H Z : Hp) (env : BE) (σ : St) (v : V) : Val → Prop
  | .imm d => Dt K Z v d
  | .new ds => ∃ (p : Addr) (xs : List V), v = .ref p ∧ H p = some (.lst xs) ∧ Z p = none ∧ DtAll K Z xs ds ∧ ¬ Own env σ p ∧ H0 p = none
def IsO (K : Fg) (H0 H Z : Hp) (env : BE) (σ : St) (v : V) : Opd → Prop
  | .val r => IsV K H0 H Z env σ v r
  | .slot i => σ[i]? = some (some v)
/-- data to be read now -/
def Dq (K : Fg) (H Z : Hp) (v : V) (d : PyData) : Prop := Dt K Z v d ∨ ∃ (p : Addr) (xs : List V) (ds : List PyData), v = .ref p ∧ d = .list ds ∧ H p = some (.lst xs) ∧ DtAll K Z xs ds
theorem Dq.dp (l : Le Z H) (h : Dq K H Z v d) : Dt K H v d := by
  rcases h with h | ⟨p, xs, ds, rfl, rfl, h1, h2⟩
  · exact l.dp _ _ h
  · exact .lst (.inl h1) (l.dpAll _ _ h2)
theorem IsV.dq {r : Val} {H0 : Hp} (h : IsV K H0 H Z env σ v r) : Dq K H Z v r.d := by
  cases r with
  | imm d => exact .inl h
  | new ds =>
    obtain ⟨p, xs, e, h1, _, h2, _⟩ := h
    exact .inr ⟨p, xs, ds, e, rfl, h1, h2⟩
theorem IsO.dq {r : Opd} {H0 : Hp} (R : Rep K H Z σ env) (h : IsO K H0 H Z env σ v r) (e : r.d env = some d) : Dq K H Z v d := by
  cases r with
  | val r =>
    have e' : r.d = d := Option.some.inj e
    rw [← e']
    exact IsV.dq h
  | slot i =>
    have h : σ[i]? = some (some v) := h
    simp only [Opd.d] at e
    split at e
    · rename_i d' hd
      cases e
      obtain ⟨w, hw, hp⟩ := R.imm i _ hd
      rw [h] at hw
      cases hw
      exact .inl hp
    · rename_i ds hd
      cases e
      obtain ⟨p, xs, hw, _, hp, ha⟩ := R.own i _ hd
      rw [h] at hw
      cases hw
      exact .inr ⟨p, xs, ds, rfl, rfl, hp, ha⟩
    · cases e
/-- a held answer through a step -/
theorem IsV.step {r : Val} {H0 : Hp} (R : Rep K H Z σ env) (s : Step K σ env H Z σ' env' H' Z') (h : IsV K H0 H Z env σ v r) : IsV K H0 H' Z' env' σ' v r := by
  cases r with
  | imm d => exact (s.leZ R).dp _ _ h
  | new ds =>
    obtain ⟨p, xs, e, h1, z, h2, no, h0⟩ := h
    obtain ⟨h1', z'⟩ := s.fr p _ h1 no
    exact ⟨p, xs, e, h1', by rw [z', z], (s.leZ R).dpAll _ _ h2, fun q => (s.le p q).elim no (fun e => by rw [h1] at e; cases e), h0⟩
theorem IsO.step {r : Opd} {H0 : Hp} (R : Rep K H Z σ env) (s : Step K σ env H Z σ env' H' Z') (h : IsO K H0 H Z env σ v r) : IsO K H0 H' Z' env' σ v r := by
  cases r with
  | val r => exact IsV.step R s h
  | slot i => exact h
theorem IsV.base {r : Val} {H0 H1 : Hp} (f : ∀ a, H1 a = none → H0 a = none) (h : IsV K H1 H Z env σ v r) : IsV K H0 H Z env σ v r := by
  cases r with
  | imm d => exact h
  | new ds =>
    obtain ⟨p, xs, e, h1, z, h2, no, h0⟩ := h
    exact ⟨p, xs, e, h1, z, h2, no, f p h0⟩
theorem IsO.base {r : Opd} {H0 H1 : Hp} (f : ∀ a, H1 a = none → H0 a = none) (h : IsO K H1 H Z env σ v r) : IsO K H0 H Z env σ v r := by
  cases r with
  | val r => exact IsV.base f h
  | slot i => exact h

/-- the frozen part grows by one object that is no slot's own -/
theorem Rep.grow (R : Rep K H Z σ env) {o : HO} (h : H p = some o) (hn : ¬ Own env σ p) (hz : Z p = none) : Rep K H (upd Z p o) σ env := by
  have l : Le Z (upd Z p o) := fun b u e => by
    rw [upd_ne (ne_of_none e hz)]
    exact e
  refine ⟨fun b u e => ?_, R.len, fun i d e => ?_, fun i ds e => ?_, R.inj⟩
  · by_cases hb : b = p
    · subst hb
      rw [upd_same] at e
      cases e
      exact h
    · rw [upd_ne hb] at e
      exact R.zh b u e
  · obtain ⟨v, h1, h2⟩ := R.imm i d e
    exact ⟨v, h1, l.dp _ _ h2⟩
  · obtain ⟨q, xs, h1, h2, h3, h4⟩ := R.own i ds e
    refine ⟨q, xs, h1, ?_, h3, l.dpAll _ _ h4⟩
    rw [upd_ne (fun z => hn (by rw [← z]; exact ⟨i, ds, e, h1⟩))]
    exact h2
theorem Own.setImm {i : Nat} (o : Own (env.set i (some (.imm d))) σ a) : Own env σ a ∧ σ[i]? ≠ some (some (.ref a)) ∨ Own env σ a := by
  obtain ⟨j, ds, e1, e2⟩ := o
  by_cases hj : i = j
  · subst hj
    rw [List.getElem?_set] at e1
    simp at e1
  · rw [List.getElem?_set_ne hj] at e1
    exact .inr ⟨j, ds, e1, e2⟩
/-- the operand becomes data for good -/
theorem fr_ok {r : Opd} {H0 Z0 : Hp} {env0 : BE} (S : Step K σ env0 H0 Z0 σ env H Z) (h : IsO K H0 H Z env σ v r) (e : r.fr env = some (d, env')) : ∃ Z', Step K σ env0 H0 Z0 σ env' H Z' ∧ Dt K Z' v d := by
  cases r with
  | val r =>
    cases r with
    | imm d' =>
      cases e
      exact ⟨Z, S, h⟩
    | new ds =>
      cases e
      obtain ⟨p, xs, rfl, h1, z, h2, no, h0⟩ := h
      have R' := S.rep.grow h1 no z
      have l : Le Z (upd Z p (.lst xs)) := fun b u e => by
        rw [upd_ne (ne_of_none e z)]
        exact e
      refine ⟨upd Z p (.lst xs), ⟨R', fun b o hb n => ?_, S.le, S.tr⟩, .lst (.inl upd_same) (l.dpAll _ _ h2)⟩
      obtain ⟨q1, q2⟩ := S.fr b o hb n
      refine ⟨q1, ?_⟩
      rw [upd_ne (ne_of_none hb h0)]
      exact q2
  | slot i =>
    have h : σ[i]? = some (some v) := h
    simp only [Opd.fr] at e
    split at e
    · rename_i d' hd
      cases e
      obtain ⟨w, hw, hp⟩ := S.rep.imm i _ hd
      rw [h] at hw
      cases hw
      exact ⟨Z, S, hp⟩
    · rename_i ds hd
      cases e
      obtain ⟨p, xs, hw, z, hp, ha⟩ := S.rep.own i _ hd
      rw [h] at hw
      cases hw
      have l : Le Z (upd Z p (.lst xs)) := fun b u e => by
        rw [upd_ne (ne_of_none e z)]
        exact e
      have hi : i < env.length := (List.getElem?_eq_some_iff.mp hd).1
      have no : ∀ a, Own (env.set i (some (.imm (.list ds)))) σ a → Own env σ a := fun a o => o.setImm.elim (fun q => q.1) fun q => q
      have nop : ¬ Own (env.set i (some (.imm (.list ds)))) σ p := fun ⟨j, es, e1, e2⟩ => by
        by_cases hj : i = j
        · subst hj
          rw [List.getElem?_set] at e1
          simp at e1
        · rw [List.getElem?_set_ne hj] at e1
          exact hj (S.rep.inj i j _ _ p hd e1 h e2)
      have R1 : Rep K H (upd Z p (.lst xs)) σ (env.set i (some (.imm (.list ds)))) := by
        refine ⟨fun b u e => ?_, by rw [S.rep.len, List.length_set], fun j d e => ?_, fun j es e => ?_, fun j k ds' es' q e1 e2 => ?_⟩
        · by_cases hb : b = p
          · subst hb
            rw [upd_same] at e
            cases e
            exact hp
          · rw [upd_ne hb] at e
            exact S.rep.zh b u e
        · by_cases hj : i = j
          · subst hj
            rw [List.getElem?_set_self hi] at e
            cases e
            exact ⟨_, h, .lst (.inl upd_same) (l.dpAll _ _ ha)⟩
          · rw [List.getElem?_set_ne hj] at e
            obtain ⟨w, h1, h2⟩ := S.rep.imm j d e
            exact ⟨w, h1, l.dp _ _ h2⟩
        · have e0 := e
          by_cases hj : i = j
          · subst hj
            rw [List.getElem?_set_self hi] at e
            cases e
          · rw [List.getElem?_set_ne hj] at e
            obtain ⟨q, ys, h1, h2, h3, h4⟩ := S.rep.own j es e
            refine ⟨q, ys, h1, ?_, h3, l.dpAll _ _ h4⟩
            rw [upd_ne (fun z => nop ⟨j, es, e0, by rw [← z]; exact h1⟩)]
            exact h2
        · by_cases hj : i = j
          · subst hj
            rw [List.getElem?_set_self hi] at e1
            cases e1
          · by_cases hk : i = k
            · subst hk
              rw [List.getElem?_set_self hi] at e2
              cases e2
            · rw [List.getElem?_set_ne hj] at e1
              rw [List.getElem?_set_ne hk] at e2
              exact S.rep.inj j k _ _ q e1 e2
      refine ⟨upd Z p (.lst xs), ⟨R1, fun b o hb n => ?_, fun a o => S.le a (no a o), S.tr⟩, .lst (.inl upd_same) (l.dpAll _ _ ha)⟩
      obtain ⟨q1, q2⟩ := S.fr b o hb n
      refine ⟨q1, ?_⟩
      have hbp : b ≠ p := fun z => by
        subst z
        rcases S.le b ⟨i, ds, hd, h⟩ with q | q
        · exact n q
        · rw [hb] at q
          cases q
      rw [upd_ne hbp]
      exact q2
    · cases e
end
end BV

namespace BV
open PySem PySem.Spec L2
open PyProof.Rows hiding St

/-! ### the judgements -/
def IsX (K : Fg) (H Z : Hp) (x : Ex) (c : Value) (d : Option Addr) : Prop :=
  PySem.W.nsIn K mainGlobals x.cls = some (some c) ∧ match x.fs with
    | none => d = none
    | some fs => ∃ (dd : Addr) (vs : List (Str × V)), d = some dd ∧ H dd = some (.xd vs) ∧ vs.map (·.1) = fs.map (·.1) ∧ DtAll K Z (vs.map (·.2)) (fs.map (·.2))
abbrev M (α : Type) := BE → Option (Out α)
/-- what is wanted behind an expression that comes to o -/
def PostE (K : Fg) (W : WX) (σ : St) (env : BE) (H Z : Hp) (Q : VK) : Out Opd → Prop
  | .ok r env' => ∀ v H' Z', Step K σ env H Z σ env' H' Z' → IsO K H H' Z' env' σ v r → Q v H'
  | .ex x env' => ∀ c d H' Z', Step K σ env H Z σ env' H' Z' → IsX K H' Z' x c d → W c d σ H'
def SE (X : Cx) (W : WX) (e : Expr) (f : M Opd) : Prop :=
  ∃ t, PE X e t ∧ ∀ σ H Z env, Rep X.K H Z σ env → ∀ o, f env = some o → ∀ Q : VK, PostE X.K W σ env H Z Q o → t σ H Q
/-- a test -/
def PostT (K : Fg) (W : WX) (σ : St) (env : BE) (H Z : Hp) (Q : Bool → Hp → Prop) : Out Bool → Prop
  | .ok b env' => ∀ H' Z', Step K σ env H Z σ env' H' Z' → Q b H'
  | .ex x env' => ∀ c d H' Z', Step K σ env H Z σ env' H' Z' → IsX K H' Z' x c d → W c d σ H'
def ST (X : Cx) (W : WX) (e : Expr) (f : M Bool) : Prop :=
  ∃ t, PT X e t ∧ ∀ σ H Z env, Rep X.K H Z σ env → ∀ o, f env = some o → ∀ Q, PostT X.K W σ env H Z Q o → t σ H Q
/-- within and, or -/
def SW (X : Cx) (W : WX) (e : Expr) (f : M Bool) : Prop :=
  ∃ t, PW X e t ∧ ∀ σ H Z env, Rep X.K H Z σ env → ∀ o, f env = some o → ∀ Q, PostT X.K W σ env H Z Q o → t σ H Q
/-- operands one after another -/
def IsOs (K : Fg) (H0 H Z : Hp) (env : BE) (σ : St) : List V → List Opd → Prop
  | [], [] => True
  | v :: vs, r :: rs => IsO K H0 H Z env σ v r ∧ IsOs K H0 H Z env σ vs rs
  | _, _ => False
def PostA (K : Fg) (W : WX) (σ : St) (env : BE) (H Z : Hp) (Q : List V → Hp → Prop) : Out (List Opd) → Prop
  | .ok rs env' => ∀ vs H' Z', Step K σ env H Z σ env' H' Z' → IsOs K H H' Z' env' σ vs rs → Q vs H'
  | .ex x env' => ∀ c d H' Z', Step K σ env H Z σ env' H' Z' → IsX K H' Z' x c d → W c d σ H'
def SA (X : Cx) (W : WX) (es : List Expr) (f : M (List Opd)) : Prop :=
  ∃ t, PA X es t ∧ ∀ σ H Z env, Rep X.K H Z σ env → ∀ o, f env = some o → ∀ Q, PostA X.K W σ env H Z Q o → t σ H Q
/-- the same, all data for good -/
def PostF (K : Fg) (W : WX) (σ : St) (env : BE) (H Z : Hp) (Q : List V → Hp → Prop) : Out (List PyData) → Prop
  | .ok ds env' => ∀ vs H' Z', Step K σ env H Z σ env' H' Z' → DtAll K Z' vs ds → Q vs H'
  | .ex x env' => ∀ c d H' Z', Step K σ env H Z σ env' H' Z' → IsX K H' Z' x c d → W c d σ H'
def SF (X : Cx) (W : WX) (es : List Expr) (f : M (List PyData)) : Prop :=
  ∃ t, PA X es t ∧ ∀ σ H Z env, Rep X.K H Z σ env → ∀ o, f env = some o → ∀ Q, PostF X.K W σ env H Z Q o → t σ H Q

def obind {α β : Type} (m : Option (Out α)) (k : α → BE → Option (Out β)) : Option (Out β) :=
  match m with
  | some (.ok a e) => k a e
  | some (.ex x e) => some (.ex x e)
  | none => none
theorem obind_some {α β : Type} {m : Option (Out α)} {k : α → BE → Option (Out β)} {o : Out β} (h : obind m k = some o) :
    (∃ a e, m = some (.ok a e) ∧ k a e = some o) ∨ ∃ x e, m = some (.ex x e) ∧ o = .ex x e := by
  unfold obind at h
  split at h
  · exact .inl ⟨_, _, rfl, h⟩
  · cases h
    exact .inr ⟨_, _, rfl, rfl⟩
  · cases h
theorem obind_ok {α β : Type} {a : α} {e : BE} {k : α → BE → Option (Out β)} : obind (some (.ok a e)) k = k a e := rfl
theorem obind_ex {α β : Type} {x : Ex} {e : BE} {k : α → BE → Option (Out β)} : obind (some (.ex x e)) k = some (.ex x e) := rfl

section
variable {K : Fg} {H H' H1 H2 Z Z' Z1 Z2 : Hp} {σ σ' σ1 σ2 : St} {env env' env1 env2 : BE} {v : V} {d : PyData} {a p : Addr} {xs : List V} {ds : List PyData} {W : WX}
theorem IsX.wish {x : Ex} {c : Value} {dd : Option Addr} (S1 : Step K σ env H Z σ env1 H1 Z1) {Q : Prop}
    (h : ∀ c d H' Z', Step K σ env H Z σ env' H' Z' → IsX K H' Z' x c d → W c d σ H') : ∀ c d H' Z', Step K σ env1 H1 Z1 σ env' H' Z' → IsX K H' Z' x c d → W c d σ H' :=
  fun c d H' Z' S2 i => h c d H' Z' (S1.trans S2) i
theorem IsOs.step {H0 : Hp} (R : Rep K H Z σ env) (s : Step K σ env H Z σ env' H' Z') : ∀ {vs : List V} {rs : List Opd}, IsOs K H0 H Z env σ vs rs → IsOs K H0 H' Z' env' σ vs rs
  | [], [], _ => trivial
  | v :: vs, r :: rs, h => ⟨IsO.step R s h.1, IsOs.step R s h.2⟩
  | [], _ :: _, h => h.elim
  | _ :: _, [], h => h.elim
theorem IsOs.base {H0 H1 : Hp} (f : ∀ a, H1 a = none → H0 a = none) : ∀ {vs : List V} {rs : List Opd}, IsOs K H1 H Z env σ vs rs → IsOs K H0 H Z env σ vs rs
  | [], [], _ => trivial
  | v :: vs, r :: rs, h => ⟨IsO.base f h.1, IsOs.base f h.2⟩
  | [], _ :: _, h => h.elim
  | _ :: _, [], h => h.elim
/-- a state of no slots' change: new objects alone -/
theorem Rep.more (R : Rep K H Z σ env) (f : ∀ a o, H a = some o → H' a = some o ∧ Z' a = Z a) (l : Le Z' H') : Step K σ env H Z σ env H' Z' := by
  have lz : Le Z Z' := fun a o h => by
    rw [(f a o (R.zh a o h)).2]
    exact h
  refine ⟨⟨l, R.len, fun i d e => ?_, fun i ds e => ?_, R.inj⟩, fun a o h _ => f a o h, fun a q => .inl q, fun a o h => ⟨o, (f a o h).1⟩⟩
  · obtain ⟨v, h1, h2⟩ := R.imm i d e
    exact ⟨v, h1, lz.dp _ _ h2⟩
  · obtain ⟨q, xs, h1, h2, h3, h4⟩ := R.own i ds e
    obtain ⟨f1, f2⟩ := f q _ h3
    exact ⟨q, xs, h1, by rw [f2]; exact h2, f1, lz.dpAll _ _ h4⟩
theorem fresh_own (R : Rep K H Z σ env) (h : H p = none) : ¬ Own env σ p := fun q => by
  obtain ⟨xs, e⟩ := R.ownH q
  rw [h] at e
  cases e
/-- an answer that speaks of no slots -/
theorem IsV.up {r : Val} {v : V} (R : Rep K H1 Z1 σ env) (h : IsV K H1 H Z [] [] v r) : IsV K H1 H Z env σ v r := by
  cases r with
  | imm d => exact h
  | new ds =>
    obtain ⟨p, xs, e, h1, z, h2, no, h0⟩ := h
    exact ⟨p, xs, e, h1, z, h2, fresh_own R h0, h0⟩
theorem new_fr (o : HO) (h : H p = none) (l : Le Z H) : (∀ a u, H a = some u → upd H p o a = some u ∧ Z a = Z a) ∧ Le Z (upd H p o) :=
  ⟨fun a u e => ⟨by rw [upd_ne (ne_of_none e h)]; exact e, rfl⟩, fun a u e => by rw [upd_ne (ne_of_none (l a u e) h)]; exact l a u e⟩
/-- a new frozen object -/
theorem new_frz (o : HO) (h : H p = none) (l : Le Z H) : (∀ a u, H a = some u → upd H p o a = some u ∧ upd Z p o a = Z a) ∧ Le (upd Z p o) (upd H p o) :=
  ⟨fun a u e => ⟨by rw [upd_ne (ne_of_none e h)]; exact e, by rw [upd_ne (ne_of_none e h)]⟩, fun a u e => by
    by_cases ha : a = p
    · subst ha
      rw [upd_same] at e ⊢
      exact e
    · rw [upd_ne ha] at e ⊢
      exact l a u e⟩
theorem le_none (l : Le Z H) (h : H p = none) : Z p = none := by
  cases e : Z p with
  | none => rfl
  | some o =>
    rw [l p o e] at h
    cases h
theorem le_upd (o : HO) (h : Z p = none) : Le Z (upd Z p o) := fun b u e => by
  rw [upd_ne (ne_of_none e h)]
  exact e
end

/-! ### names and constants -/
section
variable {X : Cx} {W : WX} {pos : Pos}
def fVar (i : Nat) : M Opd := fun env => match env[i]? with
  | some (some _) => some (.ok (.slot i) env)
  | _ => none
theorem se_var (i : Nat) {x : Str} (hN : X.N[i]? = some x := by rfl) (hv : Vis X.env.scope x := by first | exact Or.inl rfl | exact Or.inr (Or.inl rfl) | exact Or.inr (Or.inr rfl)) (hd : (x == ("__debug__" : Str)) = false := by decide)
    (hcd : (x == ("__classdict__" : Str)) = false := by decide) : SE X W (.Name x pos) (fVar i) := by
  refine ⟨_, pe_var hN hv hd hcd, fun σ H Z env R o e Q k => ?_⟩
  unfold fVar at e
  split at e
  · rename_i s hs
    cases e
    cases s with
    | imm d =>
      obtain ⟨v, h1, h2⟩ := R.imm i d hs
      exact ⟨v, h1, k v H Z (Step.refl R) h1⟩
    | own ds =>
      obtain ⟨q, ys, h1, _⟩ := R.own i ds hs
      exact ⟨_, h1, k _ H Z (Step.refl R) h1⟩
  · cases e
def fC (d : PyData) : M Opd := fun env => some (.ok (.val (.imm d)) env)
theorem se_c {e : Expr} {v : V} (d : PyData) (h : PE X e (tC v)) (hd : ∀ H : Hp, Dt X.K H v d) : SE X W e (fC d) := by
  refine ⟨_, h, fun σ H Z env R o e Q k => ?_⟩
  cases e
  exact k v H Z (Step.refl R) (hd Z)
theorem se_int {i : Int} {j : Nat} : SE X W (.Constant (.int i) j pos) (fC (.int i)) := se_c _ pe_int fun H => .int i
theorem se_bl {b : Bool} {j : Nat} : SE X W (.Constant (.bool b) j pos) (fC (.bool b)) := se_c _ pe_bl fun H => .bl b
theorem se_non {j : Nat} : SE X W (.Constant .none j pos) (fC .none) := se_c _ pe_non fun H => .non
theorem se_str {x : Str} {j : Nat} : SE X W (.Constant (.str x) j pos) (fC (.str x)) := se_c _ pe_str fun H => .str x
end

/-! ### operations by values -/
/-- what a rule makes of two data -/
def OpD (K : Fg) (r : R2) (F : PyData → PyData → Option Val) : Prop := ∀ H Z x y d1 d2 o, Le Z H → Dq K H Z x d1 → Dq K H Z y d2 → F d1 d2 = some o → ∀ Q : VK,
  (∀ v H' Z', (∀ a u, H a = some u → H' a = some u ∧ Z' a = Z a) → Le Z' H' → IsV K H H' Z' [] [] v o → Q v H') → r x y H Q
def UnD (K : Fg) (r : V → Hp → VK → Prop) (F : PyData → Option Val) : Prop := ∀ H Z x d1 o, Le Z H → Dq K H Z x d1 → F d1 = some o → ∀ Q : VK,
  (∀ v H' Z', (∀ a u, H a = some u → H' a = some u ∧ Z' a = Z a) → Le Z' H' → IsV K H H' Z' [] [] v o → Q v H') → r x H Q
def DqAll (K : Fg) (H Z : Hp) : List V → List PyData → Prop
  | [], [] => True
  | v :: vs, d :: ds => Dq K H Z v d ∧ DqAll K H Z vs ds
  | _, _ => False
def ClD (K : Fg) (r : List V → Hp → VK → Prop) (F : List PyData → Option Val) : Prop := ∀ H Z xs ds o, Le Z H → DqAll K H Z xs ds → F ds = some o → ∀ Q : VK,
  (∀ v H' Z', (∀ a u, H a = some u → H' a = some u ∧ Z' a = Z a) → Le Z' H' → IsV K H H' Z' [] [] v o → Q v H') → r xs H Q
def fOp (F : PyData → PyData → Option Val) (fa fb : M Opd) : M Opd := fun env =>
  obind (fa env) fun ra e1 => obind (fb e1) fun rb e2 => match ra.d e2, rb.d e2 with
    | some x, some y => (F x y).map fun r => .ok (.val r) e2
    | _, _ => none
def fUn (F : PyData → Option Val) (fa : M Opd) : M Opd := fun env =>
  obind (fa env) fun ra e1 => match ra.d e1 with
    | some x => (F x).map fun r => .ok (.val r) e1
    | _ => none
def dAll : List Opd → BE → Option (List PyData)
  | [], _ => some []
  | r :: rs, env => match r.d env, dAll rs env with
    | some d, some ds => some (d :: ds)
    | _, _ => none
def fCl (F : List PyData → Option Val) (fa : M (List Opd)) : M Opd := fun env =>
  obind (fa env) fun rs e1 => match dAll rs e1 with
    | some ds => (F ds).map fun r => .ok (.val r) e1
    | _ => none
section
variable {X : Cx} {W : WX} {pos : Pos} {a b : Expr} {fa fb : M Opd}
theorem IsOs.dq {K : Fg} {H0 H Z : Hp} {σ : St} {env : BE} (R : Rep K H Z σ env) : ∀ {vs : List V} {rs : List Opd} {ds : List PyData}, IsOs K H0 H Z env σ vs rs → dAll rs env = some ds → DqAll K H Z vs ds
  | [], [], ds, _, e => by cases e; trivial
  | v :: vs, r :: rs, ds, h, e => by
    simp only [dAll] at e
    split at e
    · rename_i d ds' h1 h2
      cases e
      exact ⟨IsO.dq R h.1 h1, IsOs.dq R h.2 h2⟩
    · cases e
  | [], _ :: _, _, h, _ => h.elim
  | _ :: _, [], _, h, _ => h.elim
/-- two expressions and an operation on their values -/
theorem se_op2 {r : R2} {F : PyData → PyData → Option Val} {E : TE → TE → Expr → Prop} {e : Expr} (mk : ∀ ta tb, PE X a ta → PE X b tb → PE X e (tOp r ta tb)) (D : OpD X.K r F) (ha : SE X W a fa) (hb : SE X W b fb) : SE X W e (fOp F fa fb) := by
  obtain ⟨ta, pa, sa⟩ := ha
  obtain ⟨tb, pb, sb⟩ := hb
  refine ⟨_, mk ta tb pa pb, fun σ H Z env R o e Q k => ?_⟩
  rcases obind_some e with ⟨ra, e1, h1, e⟩ | ⟨x, e1, h1, rfl⟩
  · refine sa σ H Z env R _ h1 _ fun v H1 Z1 S1 i1 => ?_
    rcases obind_some e with ⟨rb, e2, h2, e⟩ | ⟨x, e2, h2, rfl⟩
    · refine sb σ H1 Z1 e1 S1.rep _ h2 _ fun u H2 Z2 S2 i2 => ?_
      split at e
      · rename_i x y hx hy
        rw [Option.map_eq_some_iff] at e
        obtain ⟨r', hr, rfl⟩ := e
        refine D H2 Z2 v u x y r' S2.rep.zh (IsO.dq S2.rep (IsO.step S1.rep S2 i1) hx) (IsO.dq S2.rep i2 hy) hr Q fun w H3 Z3 f3 l3 i3 => ?_
        have S12 := S1.trans S2
        exact k w H3 Z3 (S12.trans (S2.rep.more f3 l3)) (IsV.base (fun a => S12.fresh) (IsV.up S2.rep i3))
      · cases e
    · refine sb σ H1 Z1 e1 S1.rep _ h2 _ fun c d H2 Z2 S2 i2 => k c d H2 Z2 (S1.trans S2) i2
  · exact sa σ H Z env R _ h1 _ fun c d H1 Z1 S1 i1 => k c d H1 Z1 S1 i1
theorem se_op1 {r : V → Hp → VK → Prop} {F : PyData → Option Val} {e : Expr} (mk : ∀ ta, PE X a ta → PE X e (tUn r ta)) (D : UnD X.K r F) (ha : SE X W a fa) : SE X W e (fUn F fa) := by
  obtain ⟨ta, pa, sa⟩ := ha
  refine ⟨_, mk ta pa, fun σ H Z env R o e Q k => ?_⟩
  rcases obind_some e with ⟨ra, e1, h1, e⟩ | ⟨x, e1, h1, rfl⟩
  · refine sa σ H Z env R _ h1 _ fun v H1 Z1 S1 i1 => ?_
    split at e
    · rename_i x hx
      rw [Option.map_eq_some_iff] at e
      obtain ⟨r', hr, rfl⟩ := e
      refine D H1 Z1 v x r' S1.rep.zh (IsO.dq S1.rep i1 hx) hr Q fun w H3 Z3 f3 l3 i3 => ?_
      exact k w H3 Z3 (S1.trans (S1.rep.more f3 l3)) (IsV.base (fun a => S1.fresh) (IsV.up S1.rep i3))
    · cases e
  · exact sa σ H Z env R _ h1 _ fun c d H1 Z1 S1 i1 => k c d H1 Z1 S1 i1
theorem se_cl {r : List V → Hp → VK → Prop} {F : List PyData → Option Val} {e : Expr} {es : List Expr} {fs : M (List Opd)} (mk : ∀ t, PA X es t → PE X e (tCB r t)) (D : ClD X.K r F) (ha : SA X W es fs) : SE X W e (fCl F fs) := by
  obtain ⟨ta, pa, sa⟩ := ha
  refine ⟨_, mk ta pa, fun σ H Z env R o e Q k => ?_⟩
  rcases obind_some e with ⟨ra, e1, h1, e⟩ | ⟨x, e1, h1, rfl⟩
  · refine sa σ H Z env R _ h1 _ fun v H1 Z1 S1 i1 => ?_
    split at e
    · rename_i x hx
      rw [Option.map_eq_some_iff] at e
      obtain ⟨r', hr, rfl⟩ := e
      refine D H1 Z1 v x r' S1.rep.zh (IsOs.dq S1.rep i1 hx) hr Q fun w H3 Z3 f3 l3 i3 => ?_
      exact k w H3 Z3 (S1.trans (S1.rep.more f3 l3)) (IsV.base (fun a => S1.fresh) (IsV.up S1.rep i3))
    · cases e
  · exact sa σ H Z env R _ h1 _ fun c d H1 Z1 S1 i1 => k c d H1 Z1 S1 i1
/-! arguments -/
def fNil : M (List Opd) := fun env => some (.ok [] env)
def fCons (fa : M Opd) (fr : M (List Opd)) : M (List Opd) := fun env => obind (fa env) fun r e1 => obind (fr e1) fun rs e2 => some (.ok (r :: rs) e2)
theorem sa_nil : SA X W [] fNil := ⟨_, pa_nil, fun σ H Z env R o e Q k => by cases e; exact k [] H Z (Step.refl R) trivial⟩
theorem sa_cons {es : List Expr} {fr : M (List Opd)} (ha : SE X W a fa) (hr : SA X W es fr) (hs : starEach (a :: es) X.env = (false, eval a X.env) :: starEach es X.env := by rfl) : SA X W (a :: es) (fCons fa fr) := by
  obtain ⟨ta, pa, sa⟩ := ha
  obtain ⟨tb, pb, sb⟩ := hr
  refine ⟨_, pa_cons pa pb hs, fun σ H Z env R o e Q k => ?_⟩
  rcases obind_some e with ⟨ra, e1, h1, e⟩ | ⟨x, e1, h1, rfl⟩
  · refine sa σ H Z env R _ h1 _ fun v H1 Z1 S1 i1 => ?_
    rcases obind_some e with ⟨rb, e2, h2, e⟩ | ⟨x, e2, h2, rfl⟩
    · refine sb σ H1 Z1 e1 S1.rep _ h2 _ fun vs H2 Z2 S2 i2 => ?_
      cases e
      exact k (v :: vs) H2 Z2 (S1.trans S2) ⟨IsO.step S1.rep S2 i1, IsOs.base (fun a => S1.fresh) i2⟩
    · refine sb σ H1 Z1 e1 S1.rep _ h2 _ fun c d H2 Z2 S2 i2 => k c d H2 Z2 (S1.trans S2) i2
  · exact sa σ H Z env R _ h1 _ fun c d H1 Z1 S1 i1 => k c d H1 Z1 S1 i1
def gNilF : M (List PyData) := fun env => some (.ok [] env)
def gConsF (fa : M Opd) (fr : M (List PyData)) : M (List PyData) := fun env => obind (fa env) fun r e1 => match r.fr e1 with
  | some (d, e1') => obind (fr e1') fun ds e2 => some (.ok (d :: ds) e2)
  | none => none
theorem sf_nil : SF X W [] gNilF := ⟨_, pa_nil, fun σ H Z env R o e Q k => by cases e; exact k [] H Z (Step.refl R) .nil⟩
theorem sf_cons {es : List Expr} {fr : M (List PyData)} (ha : SE X W a fa) (hr : SF X W es fr) (hs : starEach (a :: es) X.env = (false, eval a X.env) :: starEach es X.env := by rfl) : SF X W (a :: es) (gConsF fa fr) := by
  obtain ⟨ta, pa, sa⟩ := ha
  obtain ⟨tb, pb, sb⟩ := hr
  refine ⟨_, pa_cons pa pb hs, fun σ H Z env R o e Q k => ?_⟩
  rcases obind_some e with ⟨ra, e1, h1, e⟩ | ⟨x, e1, h1, rfl⟩
  · refine sa σ H Z env R _ h1 _ fun v H1 Z1 S1 i1 => ?_
    split at e
    · rename_i d e1' hfr
      obtain ⟨Z1', S1', hd⟩ := fr_ok S1 i1 hfr
      rcases obind_some e with ⟨rb, e2, h2, e⟩ | ⟨x, e2, h2, rfl⟩
      · refine sb σ H1 Z1' e1' S1'.rep _ h2 _ fun vs H2 Z2 S2 i2 => ?_
        cases e
        exact k (v :: vs) H2 Z2 (S1'.trans S2) (.cons ((S2.leZ S1'.rep).dp _ _ hd) i2)
      · refine sb σ H1 Z1' e1' S1'.rep _ h2 _ fun c d H2 Z2 S2 i2 => k c d H2 Z2 (S1'.trans S2) i2
    · cases e
  · exact sa σ H Z env R _ h1 _ fun c d H1 Z1 S1 i1 => k c d H1 Z1 S1 i1
/-! displays -/
def small (n : Nat) : Bool := decide (n ≤ 100000)
theorem small_line {n : Nat} (h : small n = true) : n ≤ sizeLine := Nat.le_trans (of_decide_eq_true h) (by decide)
theorem small_lt {n : Nat} (h : small n = true) : n < sizeLine := Nat.lt_of_le_of_lt (of_decide_eq_true h) (by decide)
def fTup (fr : M (List PyData)) : M Opd := fun env => obind (fr env) fun ds e1 => if small ds.length then some (.ok (.val (.imm (.tuple ds))) e1) else none
def fLst (fr : M (List PyData)) : M Opd := fun env => obind (fr env) fun ds e1 => if small ds.length then some (.ok (.val (.new ds)) e1) else none
theorem se_tup {es : List Expr} {x1 : Nat} {fr : M (List PyData)} (h : SF X W es fr) : SE X W (.Tuple es x1 pos) (fTup fr) := by
  obtain ⟨ta, pa, sa⟩ := h
  refine ⟨_, pe_tup pa, fun σ H Z env R o e Q k => ?_⟩
  rcases obind_some e with ⟨ds, e1, h1, e⟩ | ⟨x, e1, h1, rfl⟩
  · refine sa σ H Z env R _ h1 _ fun vs H1 Z1 S1 i1 => ?_
    split at e
    · rename_i hs
      cases e
      refine ⟨by rw [DtAll.len i1]; exact small_line hs, fun p hp => ?_⟩
      obtain ⟨n1, n2⟩ := new_frz (.tup vs) hp S1.rep.zh
      have hz := le_none S1.rep.zh hp
      exact k _ _ _ (S1.trans (S1.rep.more n1 n2)) (.tup (.inl (.inl upd_same)) ((le_upd _ hz).dpAll _ _ i1))
    · cases e
  · exact sa σ H Z env R _ h1 _ fun c d H1 Z1 S1 i1 => k c d H1 Z1 S1 i1
theorem se_lst {es : List Expr} {fr : M (List PyData)} (h : SF X W es fr) : SE X W (.List es pos) (fLst fr) := by
  obtain ⟨ta, pa, sa⟩ := h
  refine ⟨_, pe_lst pa, fun σ H Z env R o e Q k => ?_⟩
  rcases obind_some e with ⟨ds, e1, h1, e⟩ | ⟨x, e1, h1, rfl⟩
  · refine sa σ H Z env R _ h1 _ fun vs H1 Z1 S1 i1 => ?_
    split at e
    · rename_i hs
      cases e
      refine ⟨by rw [DtAll.len i1]; exact small_line hs, fun p hp => ?_⟩
      obtain ⟨n1, n2⟩ := new_fr (Z := Z1) (.lst vs) hp S1.rep.zh
      have hz := le_none S1.rep.zh hp
      exact k _ _ _ (S1.trans (S1.rep.more n1 n2)) ⟨p, vs, rfl, upd_same, hz, i1, fresh_own S1.rep hp, S1.fresh hp⟩
    · cases e
  · exact sa σ H Z env R _ h1 _ fun c d H1 Z1 S1 i1 => k c d H1 Z1 S1 i1
end
end BV

namespace BV
open PySem PySem.Spec L2
open PyProof.Rows hiding St

section
variable {K : Fg} {H Z : Hp} {v : V} {d : PyData} {a p : Addr} {xs : List V} {ds : List PyData} {i : Int} {b : Bool} {s : Str}
theorem Dq.int (h : Dq K H Z v (.int i)) : v = .int i := by
  rcases h with h | ⟨_, _, _, _, e, _⟩
  · cases h; rfl
  · cases e
theorem Dq.bl (h : Dq K H Z v (.bool b)) : v = .bl b := by
  rcases h with h | ⟨_, _, _, _, e, _⟩
  · cases h; rfl
  · cases e
theorem Dq.str (h : Dq K H Z v (.str s)) : v = .str s := by
  rcases h with h | ⟨_, _, _, _, e, _⟩
  · cases h; rfl
  · cases e
theorem Dq.non (h : Dq K H Z v .none) : v = .non := by
  rcases h with h | ⟨_, _, _, _, e, _⟩
  · cases h; rfl
  · cases e
theorem Dq.list (l : Le Z H) (h : Dq K H Z v (.list ds)) : ∃ (a : Addr) (xs : List V), v = .ref a ∧ Rd H a (.lst xs) ∧ DtAll K Z xs ds := by
  rcases h with h | ⟨p, xs, ds', e1, e2, h1, h2⟩
  · cases h with
    | lst hr ha => exact ⟨_, _, rfl, l.rd hr, ha⟩
  · cases e2
    exact ⟨p, xs, e1, .inl h1, h2⟩
theorem Dq.tuple (l : Le Z H) (h : Dq K H Z v (.tuple ds)) : ∃ (a : Addr) (xs : List V), v = .ref a ∧ SqT K H a xs ∧ DtAll K Z xs ds ∧ SqT K Z a xs := by
  rcases h with h | ⟨p, xs, ds', e1, e2, h1, h2⟩
  · cases h with
    | tup hr ha => exact ⟨_, _, rfl, l.sqT hr, ha, hr⟩
  · cases e2
theorem Dq.data (l : Le Z H) (h : Dq K H Z v d) : Dp K H v d := by
  rcases h with h | ⟨p, xs, ds, rfl, rfl, h1, h2⟩
  · exact Dt.dp d v (l.dp d v h)
  · exact .lst (.inl (.inl h1)) (DtAll.dp _ _ (l.dpAll _ _ h2))
theorem DtAll.intsV : ∀ {xs : List V} {ns : List Int}, DtAll K Z xs (ns.map PyData.int) → xs = ns.map V.int
  | _, [], h => by cases h; rfl
  | _, n :: ns, h => by
    cases h with
    | cons h1 h2 =>
      cases h1
      rw [DtAll.intsV h2]
      rfl
theorem DtAll.blsV : ∀ {xs : List V} {ns : List Bool}, DtAll K Z xs (ns.map PyData.bool) → xs = ns.map V.bl
  | _, [], h => by cases h; rfl
  | _, n :: ns, h => by
    cases h with
    | cons h1 h2 =>
      cases h1
      rw [DtAll.blsV h2]
      rfl
end

/-! ### ints -/
def onI (G : Int → Int → Option PyData) : PyData → PyData → Option Val
  | .int i, .int j => (G i j).map .imm
  | _, _ => none
section
variable {K : Fg}
theorem opd_I {C : Int → Int → Prop} {g : Int → Int → V} {G : Int → Int → Option PyData} (hg : ∀ i j d, G i j = some d → C i j ∧ ∀ H, Dt K H (g i j) d) : OpD K (rI C g) (onI G) := by
  intro H Z x y d1 d2 o l h1 h2 e Q k
  unfold onI at e
  split at e
  · rename_i i j
    rw [Option.map_eq_some_iff] at e
    obtain ⟨d, ed, rfl⟩ := e
    obtain ⟨c, hd⟩ := hg i j d ed
    exact ⟨i, j, h1.int, h2.int, c, k _ H Z (fun _ _ e => ⟨e, rfl⟩) l (hd Z)⟩
  · cases e
theorem opd_I0 {g : Int → Int → V} {G : Int → Int → Option PyData} (hg : ∀ i j d, G i j = some d → ∀ H, Dt K H (g i j) d) : OpD K (rI0 g) (onI G) := by
  intro H Z x y d1 d2 o l h1 h2 e Q k
  unfold onI at e
  split at e
  · rename_i i j
    rw [Option.map_eq_some_iff] at e
    obtain ⟨d, ed, rfl⟩ := e
    exact ⟨i, j, h1.int, h2.int, k _ H Z (fun _ _ e => ⟨e, rfl⟩) l (hg i j d ed Z)⟩
  · cases e
def within64 (i : Int) : Bool := decide (-(2 ^ 64) < i) && decide (i < 2 ^ 64)
def dAdd := onI fun i j => some (.int (i + j))
def dSub := onI fun i j => some (.int (i - j))
def dMul := onI fun i j => if within64 i || within64 j then some (.int (i * j)) else none
def dMod := onI fun i j => if j = 0 then none else some (.int (i.fmod j))
def dDiv := onI fun i j => if j = 0 ∨ ¬ j.natAbs < 1073741824 then none else some (.int (i.fdiv j))
def dLt := onI fun i j => some (.bool (decide (i < j)))
def dLe := onI fun i j => some (.bool (decide (i ≤ j)))
def dGt := onI fun i j => some (.bool (decide (j < i)))
def dGe := onI fun i j => some (.bool (decide (j ≤ i)))
theorem od_add : OpD K (rI0 fun i j => .int (i + j)) dAdd := opd_I0 fun i j d e H => by cases e; exact .int _
theorem od_sub : OpD K (rI0 fun i j => .int (i - j)) dSub := opd_I0 fun i j d e H => by cases e; exact .int _
theorem od_mul : OpD K (rI CMul fun i j => .int (i * j)) dMul := opd_I fun i j d e => by
  split at e
  · rename_i h
    cases e
    refine ⟨?_, fun H => .int _⟩
    simp only [within64, Bool.or_eq_true, Bool.and_eq_true, decide_eq_true_eq] at h
    exact h
  · cases e
theorem od_mod : OpD K (rI (fun _ j => j ≠ 0) fun i j => .int (i.fmod j)) dMod := opd_I fun i j d e => by
  split at e
  · cases e
  · rename_i h
    cases e
    exact ⟨h, fun H => .int _⟩
theorem od_div : OpD K (rI CDivN fun i j => .int (i.fdiv j)) dDiv := opd_I fun i j d e => by
  split at e
  · cases e
  · rename_i h
    cases e
    refine ⟨?_, fun H => .int _⟩
    constructor
    · exact fun z => h (.inl z)
    · exact Classical.byContradiction fun z => h (.inr z)
theorem od_lt : OpD K (rI0 fun i j => .bl (decide (i < j))) dLt := opd_I0 fun i j d e H => by cases e; exact .bl _
theorem od_le : OpD K (rI0 fun i j => .bl (decide (i ≤ j))) dLe := opd_I0 fun i j d e H => by cases e; exact .bl _
theorem od_gt : OpD K (rI0 fun i j => .bl (decide (j < i))) dGt := opd_I0 fun i j d e H => by cases e; exact .bl _
theorem od_ge : OpD K (rI0 fun i j => .bl (decide (j ≤ i))) dGe := opd_I0 fun i j d e H => by cases e; exact .bl _

/-! ### == and in over data -/
def dEq : PyData → PyData → Option Val := fun x y => if SeqAt.shaped x && SeqAt.shaped y then some (.imm (.bool (PyData.eqv x y))) else none
def dNe : PyData → PyData → Option Val := fun x y => if SeqAt.shaped x && SeqAt.shaped y then some (.imm (.bool (!PyData.eqv x y))) else none
theorem od_eq : OpD K (rEqD K) dEq := by
  intro H Z x y d1 d2 o l h1 h2 e Q k
  unfold dEq at e
  split at e
  · rename_i h
    rw [Bool.and_eq_true] at h
    cases e
    exact ⟨d1, d2, h1.data l, h2.data l, h.1, h.2, k _ H Z (fun _ _ e => ⟨e, rfl⟩) l (.bl _)⟩
  · cases e
theorem od_ne : OpD K (rNeD K) dNe := by
  intro H Z x y d1 d2 o l h1 h2 e Q k
  unfold dNe at e
  split at e
  · rename_i h
    rw [Bool.and_eq_true] at h
    cases e
    exact ⟨d1, d2, h1.data l, h2.data l, h.1, h.2, k _ H Z (fun _ _ e => ⟨e, rfl⟩) l (.bl _)⟩
  · cases e
/-- the items of a list or a tuple -/
def seqOf : PyData → Option (List PyData)
  | .list ds => some ds
  | .tuple ds => some ds
  | _ => none
def anyEq (d : PyData) (ds : List PyData) : Bool := ds.any fun z => PyData.eqv z d
def dIn : PyData → PyData → Option Val := fun x y => match seqOf y with
  | some ds => if SeqAt.shaped x && PyData.canLayAll0 ds then some (.imm (.bool (anyEq x ds))) else none
  | none => none
def dNotIn : PyData → PyData → Option Val := fun x y => match seqOf y with
  | some ds => if SeqAt.shaped x && PyData.canLayAll0 ds then some (.imm (.bool (!anyEq x ds))) else none
  | none => none
def rInS (K : Fg) (neg : Bool) : R2 := fun x y H Q => ∃ (d z : PyData) (ds : List PyData), Dp K H x d ∧ Dp K H y z ∧ seqOf z = some ds ∧ SeqAt.shaped d = true ∧ PyData.canLayAll0 ds = true ∧ Q (.bl (if neg then !anyEq d ds else anyEq d ds)) H
theorem op_inA {X : Cx} (hu : X.A.units + 65 < cLine) : OpR X (compareOp .In) (rInS X.K false) := by
  intro pins s σ H x y v u Q I rx ry h
  obtain ⟨d, z, ds, hd, he, hz, sd, se, q⟩ := h
  obtain ⟨as, r1⟩ := Dp.reads I d x v hd rx
  obtain ⟨bs, r2⟩ := Dp.reads I z y u he ry
  cases z with
  | list es =>
    cases hz
    exact SeqAt.in_list_reads r2 r1 se (SeqAt.canLay_of_shaped sd) (PyProof.Rows.room_in_shaped sd hu) ⟨.bl _, H, I, rfl, q⟩
  | tuple es =>
    cases hz
    exact SeqAt.in_tuple_reads r2 r1 se (SeqAt.canLay_of_shaped sd) (PyProof.Rows.room_in_shaped sd hu) ⟨.bl _, H, I, rfl, q⟩
  | _ => cases hz
theorem op_notInA {X : Cx} (hu : X.A.units + 65 < cLine) : OpR X (compareOp .NotIn) (rInS X.K true) := by
  intro pins s σ H x y v u Q I rx ry h
  obtain ⟨d, z, ds, hd, he, hz, sd, se, q⟩ := h
  obtain ⟨as, r1⟩ := Dp.reads I d x v hd rx
  obtain ⟨bs, r2⟩ := Dp.reads I z y u he ry
  cases z with
  | list es =>
    cases hz
    exact SeqAt.notIn_list_reads r2 r1 se (SeqAt.canLay_of_shaped sd) (PyProof.Rows.room_in_shaped sd hu) ⟨.bl _, H, I, rfl, q⟩
  | tuple es =>
    cases hz
    exact SeqAt.notIn_tuple_reads r2 r1 se (SeqAt.canLay_of_shaped sd) (PyProof.Rows.room_in_shaped sd hu) ⟨.bl _, H, I, rfl, q⟩
  | _ => cases hz
theorem od_in : OpD K (rInS K false) dIn := by
  intro H Z x y d1 d2 o l h1 h2 e Q k
  unfold dIn at e
  split at e
  · rename_i ds hs
    split at e
    · rename_i h
      rw [Bool.and_eq_true] at h
      cases e
      exact ⟨d1, d2, ds, h1.data l, h2.data l, hs, h.1, h.2, k _ H Z (fun _ _ e => ⟨e, rfl⟩) l (.bl _)⟩
    · cases e
  · cases e
theorem od_notIn : OpD K (rInS K true) dNotIn := by
  intro H Z x y d1 d2 o l h1 h2 e Q k
  unfold dNotIn at e
  split at e
  · rename_i ds hs
    split at e
    · rename_i h
      rw [Bool.and_eq_true] at h
      cases e
      exact ⟨d1, d2, ds, h1.data l, h2.data l, hs, h.1, h.2, k _ H Z (fun _ _ e => ⟨e, rfl⟩) l (.bl _)⟩
    · cases e
  · cases e
/-- is None -/
def isNon : PyData → Option Bool
  | .none => some true
  | .dict _ => none
  | _ => some false
def dIsN : PyData → PyData → Option Val := fun x y => match y with
  | .none => (isNon x).map fun b => .imm (.bool b)
  | _ => none
def dNotN : PyData → PyData → Option Val := fun x y => match y with
  | .none => (isNon x).map fun b => .imm (.bool (!b))
  | _ => none
theorem isNon_ok {H Z : Hp} {v : V} {d : PyData} {b : Bool} (h : Dq K H Z v d) (e : isNon d = some b) : decide (v = .non) = b := by
  rcases h with h | ⟨p, xs, ds, e1, e2, _⟩
  · cases h <;> (simp only [isNon, Option.some.injEq] at e; subst e; simp)
  · subst e2
    simp only [isNon, Option.some.injEq] at e
    subst e
    subst e1
    simp
theorem od_isN : OpD K (fun x y H Q => y = .non ∧ Q (.bl (decide (x = .non))) H) dIsN := by
  intro H Z x y d1 d2 o l h1 h2 e Q k
  unfold dIsN at e
  split at e
  · rw [Option.map_eq_some_iff] at e
    obtain ⟨b, eb, rfl⟩ := e
    exact ⟨h2.non, by rw [isNon_ok h1 eb]; exact k _ H Z (fun _ _ e => ⟨e, rfl⟩) l (.bl _)⟩
  · cases e
theorem od_notN : OpD K (fun x y H Q => y = .non ∧ Q (.bl (!decide (x = .non))) H) dNotN := by
  intro H Z x y d1 d2 o l h1 h2 e Q k
  unfold dNotN at e
  split at e
  · rw [Option.map_eq_some_iff] at e
    obtain ⟨b, eb, rfl⟩ := e
    exact ⟨h2.non, by rw [isNon_ok h1 eb]; exact k _ H Z (fun _ _ e => ⟨e, rfl⟩) l (.bl _)⟩
  · cases e

/-! ### x[i] -/
def dIx : PyData → PyData → Option Val
  | .list ds, .int i => (atI ds i).map .imm
  | .tuple ds, .int i => (atI ds i).map .imm
  | .str z, .int i => if small z.length then (atI z.cps.toList i).map fun c => .imm (.str ⟨#[c]⟩) else none
  | _, _ => none
theorem atI_get {xs : List V} {ds : List PyData} {H : Hp} {i : Int} {d : PyData} (h : DtAll K H xs ds) (e : atI ds i = some d) : ∃ v, atI xs i = some v ∧ Dt K H v d := by
  unfold atI at e ⊢
  rw [h.len]
  cases c : ixN ds.length i with
  | none => rw [c] at e; cases e
  | some j =>
    rw [c] at e
    exact h.get e
theorem od_ix : OpD K (rIx K) dIx := by
  intro H Z x y d1 d2 o l h1 h2 e Q k
  unfold dIx at e
  split at e
  · rename_i ds i
    rw [Option.map_eq_some_iff] at e
    obtain ⟨d, ed, rfl⟩ := e
    obtain ⟨a, xs, rfl, hr, ha⟩ := h1.list l
    obtain ⟨v, hv, hd⟩ := atI_get ha ed
    exact .inl ⟨a, xs, i, v, rfl, h2.int, .inl hr, hv, k _ H Z (fun _ _ e => ⟨e, rfl⟩) l hd⟩
  · rename_i ds i
    rw [Option.map_eq_some_iff] at e
    obtain ⟨d, ed, rfl⟩ := e
    obtain ⟨a, xs, rfl, hr, ha, _⟩ := h1.tuple l
    obtain ⟨v, hv, hd⟩ := atI_get ha ed
    exact .inr (.inl ⟨a, xs, i, v, rfl, h2.int, hr, hv, k _ H Z (fun _ _ e => ⟨e, rfl⟩) l hd⟩)
  · rename_i z i
    split at e
    · rename_i hs
      rw [Option.map_eq_some_iff] at e
      obtain ⟨c, ec, rfl⟩ := e
      exact .inr (.inr ⟨z, i, c, h1.str, h2.int, small_line hs, ec, k _ H Z (fun _ _ e => ⟨e, rfl⟩) l (.str _)⟩)
    · cases e
  · cases e

/-! ### + of lists, of tuples, of texts; * -/
def rCatR : R2 := fun x y H Q => ∃ l b xs zs, x = .ref l ∧ y = .ref b ∧ Rd H l (.lst xs) ∧ Rd H b (.lst zs) ∧ xs.length + zs.length ≤ sizeLine ∧ ∀ p, H p = none → Q (.ref p) (upd H p (.lst (xs ++ zs)))
theorem op_catR {X : Cx} : OpR X (binaryOp .Add) rCatR := by
  intro pins s σ H x y v u Q I rx ry h
  obtain ⟨l, b, xs, zs, rfl, rfl, hH, hB, hz, q⟩ := h
  cases rx
  cases ry
  obtain ⟨z, its, n, r, e⟩ := hH.ok I.hok
  obtain ⟨z2, its2, n2, r2, e2⟩ := hB.ok I.hok
  have hl := r.length
  have hl2 := r2.length
  refine PySem.P.add_list e e2 ?_ (by rw [List.size_toArray, List.size_toArray]; omega)
  have ea : its.toArray ++ its2.toArray = (its ++ its2).toArray := by simp
  rw [ea]
  exact ⟨.ref _, _, I.lnew (t' := s.toks) (r.append r2) (by rw [List.length_append]; omega), rfl, q _ I.fresh⟩
def rPlus (K : Fg) : R2 := fun x y H Q => rI0 (fun i j => .int (i + j)) x y H Q ∨ rCatR x y H Q ∨ rCatA K x y H Q ∨ (∃ i j, x = .str i ∧ y = .str j ∧ i.length + j.length ≤ sizeLine ∧ Q (.str (i ++ j)) H)
theorem op_or {X : Cx} {f : Value → Value → Sem Value} {r r' : R2} (h : OpR X f r) (h' : OpR X f r') : OpR X f (fun x y H Q => r x y H Q ∨ r' x y H Q) := by
  intro pins s σ H x y v u Q I rx ry q
  rcases q with q | q
  · exact h pins s σ H x y v u Q I rx ry q
  · exact h' pins s σ H x y v u Q I rx ry q
theorem op_plus {X : Cx} : OpR X (binaryOp .Add) (rPlus X.K) := op_or op_add (op_or op_catR (op_or op_catA op_add_str))
def dPlus : PyData → PyData → Option Val
  | .int i, .int j => some (.imm (.int (i + j)))
  | .list a, .list b => if small (a.length + b.length) then some (.new (a ++ b)) else none
  | .tuple a, .tuple b => if small (a.length + b.length) then some (.imm (.tuple (a ++ b))) else none
  | .str a, .str b => if small (a.length + b.length) then some (.imm (.str (a ++ b))) else none
  | _, _ => none
theorem new_list {H Z : Hp} {p : Addr} {xs : List V} {ds : List PyData} {Q : VK} (l : Le Z H) (hp : H p = none) (ha : DtAll K Z xs ds)
    (k : ∀ v H' Z', (∀ a u, H a = some u → H' a = some u ∧ Z' a = Z a) → Le Z' H' → IsV K H H' Z' [] [] v (.new ds) → Q v H') : Q (.ref p) (upd H p (.lst xs)) := by
  obtain ⟨n1, n2⟩ := new_fr (Z := Z) (.lst xs) hp l
  exact k _ _ Z n1 n2 ⟨p, xs, rfl, upd_same, le_none l hp, ha, (fun ⟨i, _, e, _⟩ => by simp at e), hp⟩
theorem new_tup {H Z : Hp} {p : Addr} {xs : List V} {ds : List PyData} {Q : VK} (l : Le Z H) (hp : H p = none) (ha : DtAll K Z xs ds)
    (k : ∀ v H' Z', (∀ a u, H a = some u → H' a = some u ∧ Z' a = Z a) → Le Z' H' → IsV K H H' Z' [] [] v (.imm (.tuple ds)) → Q v H') : Q (.ref p) (upd H p (.tup xs)) := by
  obtain ⟨n1, n2⟩ := new_frz (.tup xs) hp l
  exact k _ _ _ n1 n2 (.tup (.inl (.inl upd_same)) ((le_upd _ (le_none l hp)).dpAll _ _ ha))
theorem od_plus : OpD K (rPlus K) dPlus := by
  intro H Z x y d1 d2 o l h1 h2 e Q k
  unfold dPlus at e
  split at e
  · rename_i i j
    cases e
    exact .inl ⟨i, j, h1.int, h2.int, k _ H Z (fun _ _ e => ⟨e, rfl⟩) l (.int _)⟩
  · rename_i as bs
    split at e
    · rename_i hs
      cases e
      obtain ⟨a, xs, rfl, hr, ha⟩ := h1.list l
      obtain ⟨b, ys, rfl, hr2, ha2⟩ := h2.list l
      exact .inr (.inl ⟨a, b, xs, ys, rfl, rfl, hr, hr2, by rw [ha.len, ha2.len]; exact small_line hs, fun p hp => new_list l hp (ha.append ha2) k⟩)
    · cases e
  · rename_i as bs
    split at e
    · rename_i hs
      cases e
      obtain ⟨a, xs, rfl, hr, ha, hza⟩ := h1.tuple l
      obtain ⟨b, ys, rfl, hr2, ha2, hzb⟩ := h2.tuple l
      have la := ha.len
      have lb := ha2.len
      refine .inr (.inr (.inl ⟨a, b, xs, ys, rfl, rfl, hr, hr2, by rw [ha.len, ha2.len]; exact small_line hs, fun e => ?_, fun e1 e => ?_, fun _ _ p hp => new_tup l hp (ha.append ha2) k⟩))
      · subst e
        cases ha
        exact k _ H Z (fun _ _ e => ⟨e, rfl⟩) l (.tup hzb ha2)
      · subst e
        cases ha2
        rw [List.append_nil] at k
        exact k _ H Z (fun _ _ e => ⟨e, rfl⟩) l (.tup hza ha)
    · cases e
  · rename_i as bs
    split at e
    · rename_i hs
      cases e
      exact .inr (.inr (.inr ⟨as, bs, h1.str, h2.str, small_line hs, k _ H Z (fun _ _ e => ⟨e, rfl⟩) l (.str _)⟩))
    · cases e
  · cases e

/-! ### built-in calls -/
def dLen : List PyData → Option Val
  | [.list ds] => some (.imm (.int ds.length))
  | [.tuple ds] => some (.imm (.int ds.length))
  | _ => none
theorem cd_len : ClD K (fun xs H Q => ∃ p ys, xs = [.ref p] ∧ (SqL K H p ys ∨ SqT K H p ys) ∧ Q (.int ys.length) H) dLen := by
  intro H Z xs ds o l h e Q k
  unfold dLen at e
  split at e
  · rename_i ds
    cases e
    match xs, h with
    | [x], h =>
      obtain ⟨a, ys, rfl, hr, ha⟩ := h.1.list l
      exact ⟨a, ys, rfl, .inl (.inl hr), by rw [ha.len]; exact k _ H Z (fun _ _ e => ⟨e, rfl⟩) l (.int _)⟩
  · rename_i ds
    cases e
    match xs, h with
    | [x], h =>
      obtain ⟨a, ys, rfl, hr, ha, _⟩ := h.1.tuple l
      exact ⟨a, ys, rfl, .inr hr, by rw [ha.len]; exact k _ H Z (fun _ _ e => ⟨e, rfl⟩) l (.int _)⟩
  · cases e
def dList : List PyData → Option Val
  | [.list ds] => some (.new ds)
  | [.tuple ds] => some (.new ds)
  | _ => none
theorem cd_list : ClD K (fun xs H Q => ∃ p ys, xs = [.ref p] ∧ (SqL K H p ys ∨ SqT K H p ys) ∧ ∀ l, H l = none → Q (.ref l) (upd H l (.lst ys))) dList := by
  intro H Z xs ds o l h e Q k
  unfold dList at e
  split at e
  · rename_i ds
    cases e
    match xs, h with
    | [x], h =>
      obtain ⟨a, ys, rfl, hr, ha⟩ := h.1.list l
      exact ⟨a, ys, rfl, .inl (.inl hr), fun p hp => new_list l hp ha k⟩
  · rename_i ds
    cases e
    match xs, h with
    | [x], h =>
      obtain ⟨a, ys, rfl, hr, ha, _⟩ := h.1.tuple l
      exact ⟨a, ys, rfl, .inr hr, fun p hp => new_list l hp ha k⟩
  · cases e
def dTuple : List PyData → Option Val
  | [.list ds] => some (.imm (.tuple ds))
  | [.tuple ds] => some (.imm (.tuple ds))
  | _ => none
theorem cd_tuple : ClD K (fun xs H Q => ∃ p ys, xs = [.ref p] ∧ ((SqL K H p ys ∧ ∀ l, H l = none → Q (.ref l) (upd H l (.tup ys))) ∨ (SqT K H p ys ∧ Q (.ref p) H))) dTuple := by
  intro H Z xs ds o l h e Q k
  unfold dTuple at e
  split at e
  · rename_i ds
    cases e
    match xs, h with
    | [x], h =>
      obtain ⟨a, ys, rfl, hr, ha⟩ := h.1.list l
      exact ⟨a, ys, rfl, .inl ⟨.inl hr, fun p hp => new_tup l hp ha k⟩⟩
  · rename_i ds
    cases e
    match xs, h with
    | [x], h =>
      obtain ⟨a, ys, rfl, hr, ha, hz⟩ := h.1.tuple l
      exact ⟨a, ys, rfl, .inr ⟨hr, k _ H Z (fun _ _ e => ⟨e, rfl⟩) l (.tup hz ha)⟩⟩
  · cases e
def dInt : List PyData → Option Val
  | [.int i] => some (.imm (.int i))
  | [.bool b] => some (.imm (.int (if b then 1 else 0)))
  | _ => none
theorem cd_int : ClD K (fun xs H Q => (∃ i, xs = [.int i] ∧ Q (.int i) H) ∨ ∃ k, xs = [.bl k] ∧ Q (.int (if k then 1 else 0)) H) dInt := by
  intro H Z xs ds o l h e Q k
  unfold dInt at e
  split at e
  · cases e
    match xs, h with
    | [x], h => exact .inl ⟨_, by rw [h.1.int], k _ H Z (fun _ _ e => ⟨e, rfl⟩) l (.int _)⟩
  · cases e
    match xs, h with
    | [x], h => exact .inr ⟨_, by rw [h.1.bl], k _ H Z (fun _ _ e => ⟨e, rfl⟩) l (.int _)⟩
  · cases e
def boolsOf : List PyData → Option (List Bool)
  | [] => some []
  | .bool b :: r => (boolsOf r).map (b :: ·)
  | _ => none
theorem boolsOf_eq : ∀ {ds : List PyData} {bs : List Bool}, boolsOf ds = some bs → ds = bs.map .bool
  | [], bs, e => by cases e; rfl
  | .bool b :: r, bs, e => by
    simp only [boolsOf, Option.map_eq_some_iff] at e
    obtain ⟨c, e1, rfl⟩ := e
    rw [boolsOf_eq e1]
    rfl
  | .none :: _, _, e | .int _ :: _, _, e | .str _ :: _, _, e | .list _ :: _, _, e | .tuple _ :: _, _, e | .dict _ :: _, _, e => by simp [boolsOf] at e
theorem boolsOf_map : ∀ bs : List Bool, boolsOf (bs.map .bool) = some bs
  | [] => rfl
  | b :: bs => by simp [boolsOf, boolsOf_map bs]
def dAny : List PyData → Option Val
  | [.list ds] => (boolsOf ds).map fun bs => .imm (.bool (bs.any id))
  | _ => none
def dAllB : List PyData → Option Val
  | [.list ds] => (boolsOf ds).map fun bs => .imm (.bool (bs.all id))
  | _ => none
theorem cd_any : ClD K (rAny K) dAny := by
  intro H Z xs ds o l h e Q k
  unfold dAny at e
  split at e
  · rename_i ds
    rw [Option.map_eq_some_iff] at e
    obtain ⟨bs, e1, rfl⟩ := e
    match xs, h with
    | [x], h =>
      obtain ⟨a, ys, rfl, hr, ha⟩ := h.1.list l
      rw [boolsOf_eq e1] at ha
      exact ⟨a, bs, rfl, .inl (by rw [← ha.blsV]; exact hr), k _ H Z (fun _ _ e => ⟨e, rfl⟩) l (.bl _)⟩
  · cases e
theorem cd_all : ClD K (rAll K) dAllB := by
  intro H Z xs ds o l h e Q k
  unfold dAllB at e
  split at e
  · rename_i ds
    rw [Option.map_eq_some_iff] at e
    obtain ⟨bs, e1, rfl⟩ := e
    match xs, h with
    | [x], h =>
      obtain ⟨a, ys, rfl, hr, ha⟩ := h.1.list l
      rw [boolsOf_eq e1] at ha
      exact ⟨a, bs, rfl, .inl (by rw [← ha.blsV]; exact hr), k _ H Z (fun _ _ e => ⟨e, rfl⟩) l (.bl _)⟩
  · cases e
def dMax2 : List PyData → Option Val
  | [.int i, .int j] => some (.imm (.int (if j > i then j else i)))
  | _ => none
theorem cd_max2 : ClD K (fun xs H Q => ∃ i j, xs = [.int i, .int j] ∧ Q (.int (if j > i then j else i)) H) dMax2 := by
  intro H Z xs ds o l h e Q k
  unfold dMax2 at e
  split at e
  · cases e
    match xs, h with
    | [x, y], h => exact ⟨_, _, by rw [h.1.int, h.2.1.int], k _ H Z (fun _ _ e => ⟨e, rfl⟩) l (.int _)⟩
  · cases e
def dMin2 : List PyData → Option Val
  | [.int i, .int j] => some (.imm (.int (if j < i then j else i)))
  | _ => none
theorem cd_min2 : ClD K (fun xs H Q => ∃ i j, xs = [.int i, .int j] ∧ Q (.int (if j < i then j else i)) H) dMin2 := by
  intro H Z xs ds o l h e Q k
  unfold dMin2 at e
  split at e
  · cases e
    match xs, h with
    | [x, y], h => exact ⟨_, _, by rw [h.1.int, h.2.1.int], k _ H Z (fun _ _ e => ⟨e, rfl⟩) l (.int _)⟩
  · cases e
end
end BV

namespace BV
open PySem PySem.Spec L2
open PyProof.Rows hiding St

/-! ### slices -/
def PostP (K : Fg) (W : WX) (σ : St) (env : BE) (H Z : Hp) (Q : Option Int → Hp → Prop) : Out (Option Int) → Prop
  | .ok b env' => ∀ H' Z', Step K σ env H Z σ env' H' Z' → Q b H'
  | .ex x env' => ∀ c d H' Z', Step K σ env H Z σ env' H' Z' → IsX K H' Z' x c d → W c d σ H'
def SPt (X : Cx) (W : WX) (e : Option Expr) (f : M (Option Int)) : Prop :=
  ∃ t, PO X e t ∧ ∀ σ H Z env, Rep X.K H Z σ env → ∀ o, f env = some o → ∀ Q, PostP X.K W σ env H Z Q o → t σ H Q
def fPno : M (Option Int) := fun env => some (.ok none env)
def fP (fa : M Opd) : M (Option Int) := fun env => obind (fa env) fun r e1 => match r.d e1 with
  | some (.int i) => some (.ok (some i) e1)
  | _ => none
section
variable {X : Cx} {W : WX} {pos : Pos} {a b : Expr} {fa fb : M Opd}
theorem sp_no : SPt X W none fPno := ⟨_, po_none, fun σ H Z env R o e Q k => by cases e; exact k H Z (Step.refl R)⟩
theorem sp_some (ha : SE X W a fa) : SPt X W (some a) (fP fa) := by
  obtain ⟨ta, pa, sa⟩ := ha
  refine ⟨_, po_some pa, fun σ H Z env R o e Q k => ?_⟩
  rcases obind_some e with ⟨ra, e1, h1, e⟩ | ⟨x, e1, h1, rfl⟩
  · refine sa σ H Z env R _ h1 _ fun v H1 Z1 S1 i1 => ?_
    split at e
    · rename_i i hi
      cases e
      exact ⟨i, (IsO.dq S1.rep i1 hi).int, k H1 Z1 S1⟩
    · cases e
  · exact sa σ H Z env R _ h1 _ fun c d H1 Z1 S1 i1 => k c d H1 Z1 S1 i1
def cutD (xs : List PyData) (lo hi : Option Int) : List PyData := (xs.drop (HT.sIx xs.length 0 lo)).take (HT.sIx xs.length xs.length hi - HT.sIx xs.length 0 lo)
def dSl : PyData → Option Int → Option Int → Option Val
  | .list ds, lo, hi => some (.new (cutD ds lo hi))
  | .tuple ds, lo, hi => some (.imm (.tuple (cutD ds lo hi)))
  | _, _, _ => none
def fSl (fa : M Opd) (fl fh : M (Option Int)) : M Opd := fun env => obind (fa env) fun r e1 => obind (fl e1) fun lo e2 => obind (fh e2) fun hi e3 => match r.d e3 with
  | some d => (dSl d lo hi).map fun r => .ok (.val r) e3
  | none => none
theorem cut_at {K : Fg} {H : Hp} {xs : List V} {ds : List PyData} (h : DtAll K H xs ds) (lo hi : Option Int) : DtAll K H (cutV xs lo hi) (cutD ds lo hi) := by
  unfold cutV cutD
  rw [h.len]
  exact (h.drop _).take _
theorem se_slice {lo hi : Option Expr} {p2 : Pos} {fl fh : M (Option Int)} (ha : SE X W a fa) (hl : SPt X W lo fl) (hu : SPt X W hi fh) : SE X W (.Subscript a (.Slice lo hi none p2) pos) (fSl fa fl fh) := by
  obtain ⟨ta, pa, sa⟩ := ha
  obtain ⟨tl, pl, sl⟩ := hl
  obtain ⟨th, ph, sh⟩ := hu
  refine ⟨_, pe_slice (sl_list.or sl_tupA) pa pl ph, fun σ H Z env R o e Q k => ?_⟩
  rcases obind_some e with ⟨ra, e1, h1, e⟩ | ⟨x, e1, h1, rfl⟩
  · refine sa σ H Z env R _ h1 _ fun v H1 Z1 S1 i1 => ?_
    rcases obind_some e with ⟨lo, e2, h2, e⟩ | ⟨x, e2, h2, rfl⟩
    · refine sl σ H1 Z1 e1 S1.rep _ h2 _ fun H2 Z2 S2 => ?_
      rcases obind_some e with ⟨hi, e3, h3, e⟩ | ⟨x, e3, h3, rfl⟩
      · refine sh σ H2 Z2 e2 S2.rep _ h3 _ fun H3 Z3 S3 => ?_
        have S := (S1.trans S2).trans S3
        have l := S3.rep.zh
        split at e
        · rename_i d hd
          have q := IsO.dq S3.rep (IsO.step S2.rep S3 (IsO.step S1.rep S2 i1)) hd
          rw [Option.map_eq_some_iff] at e
          obtain ⟨r', hr, rfl⟩ := e
          have fin : ∀ w H' Z', (∀ a u, H3 a = some u → H' a = some u ∧ Z' a = Z3 a) → Le Z' H' → IsV X.K H3 H' Z' [] [] w r' → Q w H' := fun w H4 Z4 f4 l4 i4 =>
            k w H4 Z4 (S.trans (S3.rep.more f4 l4)) (IsV.base (fun a => S.fresh) (IsV.up S3.rep i4))
          unfold dSl at hr
          split at hr
          · cases hr
            obtain ⟨a, xs, rfl, hx, ha⟩ := q.list l
            exact .inl ⟨a, xs, rfl, .inl hx, fun p hp => new_list l hp (cut_at ha _ _) fin⟩
          · cases hr
            obtain ⟨a, xs, rfl, hx, ha, hz⟩ := q.tuple l
            refine .inr ⟨a, xs, rfl, hx, fun w => ?_, fun _ p hp => new_tup l hp (cut_at ha _ _) fin⟩
            have hc := cut_at ha lo hi
            have ec : cutV xs lo hi = xs := by
              unfold cutV
              rw [w.1, w.2, Nat.sub_zero, List.drop_zero]
              exact List.take_length
            rw [ec] at hc
            exact fin _ H3 Z3 (fun _ _ e => ⟨e, rfl⟩) l (.tup hz hc)
          · cases hr
        · cases e
      · refine sh σ H2 Z2 e2 S2.rep _ h3 _ fun c d H3 Z3 S3 i3 => k c d H3 Z3 ((S1.trans S2).trans S3) i3
    · exact sl σ H1 Z1 e1 S1.rep _ h2 _ fun c d H2 Z2 S2 i2 => k c d H2 Z2 (S1.trans S2) i2
  · exact sa σ H Z env R _ h1 _ fun c d H1 Z1 S1 i1 => k c d H1 Z1 S1 i1
/-! ### names of operators -/
theorem se_bin {op : Operator} {r : R2} {F : PyData → PyData → Option Val} (ho : OpR X (binaryOp op) r) (D : OpD X.K r F) (ha : SE X W a fa) (hb : SE X W b fb) : SE X W (.BinOp a op b pos) (fOp F fa fb) :=
  se_op2 (E := fun _ _ _ => True) (fun _ _ pa pb => pe_op ho pa pb) D ha hb
theorem se_ix (hs : PlainIx b) (ha : SE X W a fa) (hb : SE X W b fb) : SE X W (.Subscript a b pos) (fOp dIx fa fb) :=
  se_op2 (E := fun _ _ _ => True) (fun _ _ pa pb => pe_ix ix_seq pa pb hs) od_ix ha hb
theorem se_cmp {op : CmpOp} {r : R2} {F : PyData → PyData → Option Val} (ho : OpR X (compareOp op) r) (D : OpD X.K r F) (hm : behindInMarks op b = false) (ha : SE X W a fa) (hb : SE X W b fb) : SE X W (.Compare a [op] [b] pos) (fOp F fa fb) :=
  se_op2 (E := fun _ _ _ => True) (fun _ _ pa pb => pe_cmpR ho pa pb hm) D ha hb
def dNeg : PyData → Option Val
  | .int i => some (.imm (.int (-i)))
  | _ => none
theorem ud_neg {K : Fg} : UnD K (rU fun i => .int (-i)) dNeg := by
  intro H Z x d1 o l h e Q k
  unfold dNeg at e
  split at e
  · cases e
    exact ⟨_, h.int, k _ H Z (fun _ _ e => ⟨e, rfl⟩) l (.int _)⟩
  · cases e
theorem se_neg (ha : SE X W a fa) : SE X W (.UnaryOp .USub a pos) (fUn dNeg fa) := se_op1 (fun _ pa => pe_un un_neg pa) ud_neg ha
theorem se_callB {id : String} {x : Str} {r : List V → Hp → VK → Prop} {F : List PyData → Option Val} {es : List Expr} {p : Pos} {fs : M (List Opd)} (hc : CallR X (.builtin id) r) (D : ClD X.K r F) (hm : X.mg x = none) (hv : bootBuiltins x = some (.builtin id)) (ha : SA X W (a :: es) fs)
    (hg : Gl X x := by rfl) (hn : x ≠ "__name__" := by decide) (hdb : (x == ("__debug__" : Str)) = false := by decide) (he : starEach (a :: es) X.env = (false, eval a X.env) :: starEach es X.env := by rfl) (hpl : (backTo pos (starEach es X.env)).any (·.1) = false := by rfl) :
    SE X W (.Call (.Name x p) (a :: es) [] pos) (fCl F fs) := se_cl (fun _ pa => pe_callB hc hg hm hv pa hn hdb he hpl) D ha
theorem se_callT {T : String} {x : Str} {r : List V → Hp → VK → Prop} {F : List PyData → Option Val} {es : List Expr} {p : Pos} {fs : M (List Opd)} (hc : CallR X (.type T) r) (D : ClD X.K r F) (hm : X.mg x = none) (hv : bootBuiltins x = some (.type T)) (ha : SA X W (a :: es) fs)
    (hg : Gl X x := by rfl) (hn : x ≠ "__name__" := by decide) (hdb : (x == ("__debug__" : Str)) = false := by decide) (he : starEach (a :: es) X.env = (false, eval a X.env) :: starEach es X.env := by rfl) (hpl : (backTo pos (starEach es X.env)).any (·.1) = false := by rfl) :
    SE X W (.Call (.Name x p) (a :: es) [] pos) (fCl F fs) := se_cl (fun _ pa => pe_callTy hc hg hm hv pa hn hdb he hpl) D ha

/-! ### tests -/
def toB (f : M Opd) : M Bool := fun env => obind (f env) fun r e1 => match r with
  | .val (.imm (.bool b)) => some (.ok b e1)
  | _ => none
theorem st_cmp {op : CmpOp} {r : R2} {F : PyData → PyData → Option Val} (ho : OpR X (compareOp op) r) (D : OpD X.K r F) (hm : behindInMarks op b = false) (ha : SE X W a fa) (hb : SE X W b fb) : ST X W (.Compare a [op] [b] pos) (toB (fOp F fa fb)) := by
  obtain ⟨ta, pa, sa⟩ := ha
  obtain ⟨tb, pb, sb⟩ := hb
  refine ⟨_, pt_cmpR ho pa pb hm, fun σ H Z env R o e Q k => ?_⟩
  rcases obind_some e with ⟨ra, e0, h0, e⟩ | ⟨x, e1, h0, rfl⟩
  · split at e
    · rename_i bb
      cases e
      rcases obind_some h0 with ⟨ra, e1, h1, e⟩ | ⟨x, e1, h1, h⟩
      · refine sa σ H Z env R _ h1 _ fun v H1 Z1 S1 i1 => ?_
        rcases obind_some e with ⟨rb, e2, h2, e⟩ | ⟨x, e2, h2, h⟩
        · refine sb σ H1 Z1 e1 S1.rep _ h2 _ fun u H2 Z2 S2 i2 => ?_
          split at e
          · rename_i x y hx hy
            rw [Option.map_eq_some_iff] at e
            obtain ⟨r', hr, er⟩ := e
            cases er
            refine D H2 Z2 v u x y _ S2.rep.zh (IsO.dq S2.rep (IsO.step S1.rep S2 i1) hx) (IsO.dq S2.rep i2 hy) hr _ fun w H3 Z3 f3 l3 i3 => ?_
            have i3 : Dt X.K Z3 w (.bool bb) := i3
            cases i3
            exact ⟨bb, rfl, k H3 Z3 ((S1.trans S2).trans (S2.rep.more f3 l3))⟩
          · cases e
        · cases h
      · cases h
    · cases e
  · rcases obind_some h0 with ⟨ra, e1', h1, e⟩ | ⟨x, e1', h1, h⟩
    · refine sa σ H Z env R _ h1 _ fun v H1 Z1 S1 i1 => ?_
      rcases obind_some e with ⟨rb, e2, h2, e⟩ | ⟨x, e2, h2, h⟩
      · exfalso
        split at e
        · rw [Option.map_eq_some_iff] at e
          obtain ⟨r', hr, er⟩ := e
          cases er
        · cases e
      · cases h
        refine sb σ H1 Z1 _ S1.rep _ h2 _ fun c d H2 Z2 S2 i2 => k c d H2 Z2 (S1.trans S2) i2
    · cases h
      exact sa σ H Z env R _ h1 _ fun c d H1 Z1 S1 i1 => k c d H1 Z1 S1 i1
/-- truth of data -/
def dTru : PyData → Option Bool
  | .none => some false
  | .bool b => some b
  | .int i => some (i != 0)
  | .str z => if small z.length then some ((z.length : Int) != 0) else none
  | .list ds => some (!ds.isEmpty)
  | .tuple ds => some (!ds.isEmpty)
  | .dict _ => none
theorem tru_at {K : Fg} {H Z : Hp} {v : V} {d : PyData} {b : Bool} (l : Le Z H) (h : Dq K H Z v d) (e : dTru d = some b) : TruV K v H b := by
  have emp : ∀ {xs : List V} {ds : List PyData}, DtAll K Z xs ds → ds.isEmpty = xs.isEmpty := fun h => by cases h <;> rfl
  cases d with
  | none => cases e; rw [h.non]; rfl
  | bool c => cases e; rw [h.bl]; rfl
  | int i => cases e; rw [h.int]; rfl
  | str z =>
    simp only [dTru] at e
    split at e
    · rename_i hs
      cases e
      rw [h.str]
      exact ⟨small_line hs, rfl⟩
    · cases e
  | list ds =>
    cases e
    obtain ⟨a, xs, rfl, hr, ha⟩ := h.list l
    exact .inl ⟨xs, .inl hr, by rw [emp ha]⟩
  | tuple ds =>
    cases e
    obtain ⟨a, xs, rfl, hr, ha, _⟩ := h.tuple l
    exact .inr (.inl ⟨xs, hr, by rw [emp ha]⟩)
  | dict _ => cases e
def tru (f : M Opd) : M Bool := fun env => obind (f env) fun r e1 => match r.d e1 with
  | some d => (dTru d).map fun b => .ok b e1
  | none => none
theorem st_tru (ha : SE X W a fa) (he : ∀ whole, isTrue a X.env whole = (do let v ← whole; standAt a.pos; holding [v] (truthy v)) := by intro _; rfl) : ST X W a (tru fa) := by
  obtain ⟨ta, pa, sa⟩ := ha
  refine ⟨_, pt_truth pa he, fun σ H Z env R o e Q k => ?_⟩
  rcases obind_some e with ⟨ra, e1, h1, e⟩ | ⟨x, e1, h1, rfl⟩
  · refine sa σ H Z env R _ h1 _ fun v H1 Z1 S1 i1 => ?_
    split at e
    · rename_i d hd
      rw [Option.map_eq_some_iff] at e
      obtain ⟨b, hb, rfl⟩ := e
      exact ⟨b, tru_at S1.rep.zh (IsO.dq S1.rep i1 hd) hb, k H1 Z1 S1⟩
    · cases e
  · exact sa σ H Z env R _ h1 _ fun c d H1 Z1 S1 i1 => k c d H1 Z1 S1 i1
def fNot (f : M Bool) : M Bool := fun env => obind (f env) fun b e1 => some (.ok (!b) e1)
def fAnd (f g : M Bool) : M Bool := fun env => obind (f env) fun b e1 => if b then g e1 else some (.ok false e1)
def fOr (f g : M Bool) : M Bool := fun env => obind (f env) fun b e1 => if b then some (.ok true e1) else g e1
variable {ta tb : M Bool} {rest : List Expr}
theorem st_not (ha : ST X W a ta) : ST X W (.UnaryOp .Not a pos) (fNot ta) := by
  obtain ⟨t, p, s⟩ := ha
  refine ⟨_, pt_not p, fun σ H Z env R o e Q k => ?_⟩
  rcases obind_some e with ⟨ra, e1, h1, e⟩ | ⟨x, e1, h1, rfl⟩
  · cases e
    exact s σ H Z env R _ h1 _ fun H1 Z1 S1 => k H1 Z1 S1
  · exact s σ H Z env R _ h1 _ fun c d H1 Z1 S1 i1 => k c d H1 Z1 S1 i1
theorem sw_and1 (ha : ST X W a ta) : SW X W (.BoolOp .And [a] pos) ta := by
  obtain ⟨t, p, s⟩ := ha
  exact ⟨_, pw_and1 p, s⟩
theorem sw_or1 (ha : ST X W a ta) : SW X W (.BoolOp .Or [a] pos) ta := by
  obtain ⟨t, p, s⟩ := ha
  exact ⟨_, pw_or1 p, s⟩
theorem sw_and (ha : ST X W a ta) (hb : SW X W (.BoolOp .And (b :: rest) pos) tb) : SW X W (.BoolOp .And (a :: b :: rest) pos) (fAnd ta tb) := by
  obtain ⟨t, p, s⟩ := ha
  obtain ⟨u, q, r⟩ := hb
  refine ⟨_, pw_and p q, fun σ H Z env R o e Q k => ?_⟩
  rcases obind_some e with ⟨ra, e1, h1, e⟩ | ⟨x, e1, h1, rfl⟩
  · refine s σ H Z env R _ h1 _ fun H1 Z1 S1 => ?_
    cases ra with
    | true =>
      refine iteT (r σ H1 Z1 e1 S1.rep _ e _ ?_)
      cases o with
      | ok b e2 => exact fun H2 Z2 S2 => k H2 Z2 (S1.trans S2)
      | ex x e2 => exact fun c d H2 Z2 S2 i2 => k c d H2 Z2 (S1.trans S2) i2
    | false =>
      cases e
      exact iteF (k H1 Z1 S1)
  · exact s σ H Z env R _ h1 _ fun c d H1 Z1 S1 i1 => k c d H1 Z1 S1 i1
theorem sw_or (ha : ST X W a ta) (hb : SW X W (.BoolOp .Or (b :: rest) pos) tb) : SW X W (.BoolOp .Or (a :: b :: rest) pos) (fOr ta tb) := by
  obtain ⟨t, p, s⟩ := ha
  obtain ⟨u, q, r⟩ := hb
  refine ⟨_, pw_or p q, fun σ H Z env R o e Q k => ?_⟩
  rcases obind_some e with ⟨ra, e1, h1, e⟩ | ⟨x, e1, h1, rfl⟩
  · refine s σ H Z env R _ h1 _ fun H1 Z1 S1 => ?_
    cases ra with
    | false =>
      refine iteF (r σ H1 Z1 e1 S1.rep _ e _ ?_)
      cases o with
      | ok b e2 => exact fun H2 Z2 S2 => k H2 Z2 (S1.trans S2)
      | ex x e2 => exact fun c d H2 Z2 S2 i2 => k c d H2 Z2 (S1.trans S2) i2
    | true =>
      cases e
      exact iteT (k H1 Z1 S1)
  · exact s σ H Z env R _ h1 _ fun c d H1 Z1 S1 i1 => k c d H1 Z1 S1 i1
theorem sw_st (h : SW X W a ta) : ST X W a ta := by
  obtain ⟨t, p, s⟩ := h
  exact ⟨t, p.pt, s⟩
/-! and, or, not as values -/
def isB (f : M Opd) : M Bool := fun env => obind (f env) fun r e1 => match r.d e1 with
  | some (.bool b) => some (.ok b e1)
  | _ => none
def ofB (f : M Bool) : M Opd := fun env => obind (f env) fun b e1 => some (.ok (.val (.imm (.bool b))) e1)
theorem se_and (ha : SE X W a fa) (hb : SE X W (.BoolOp .And (b :: rest) pos) fb) : SE X W (.BoolOp .And (a :: b :: rest) pos) (fun env => obind (isB fa env) fun b e1 => if b then fb e1 else some (.ok (.val (.imm (.bool false))) e1)) := by
  obtain ⟨t, p, s⟩ := ha
  obtain ⟨u, q, r⟩ := hb
  refine ⟨_, pe_and p q, fun σ H Z env R o e Q k => ?_⟩
  rcases obind_some e with ⟨ra, e1, h1, e⟩ | ⟨x, e1, h1, rfl⟩
  · rcases obind_some h1 with ⟨rb, e2, h2, h1⟩ | ⟨x, e2, h2, h⟩
    · refine s σ H Z env R _ h2 _ fun v H1 Z1 S1 i1 => ?_
      split at h1
      · rename_i c hd
        cases h1
        refine ⟨ra, (IsO.dq S1.rep i1 hd).bl, ?_⟩
        cases ra with
        | true =>
          refine iteT (r σ H1 Z1 _ S1.rep _ e _ ?_)
          cases o with
          | ok b e2 => exact fun v H2 Z2 S2 i2 => k v H2 Z2 (S1.trans S2) (IsO.base (fun a => S1.fresh) i2)
          | ex x e2 => exact fun c d H2 Z2 S2 i2 => k c d H2 Z2 (S1.trans S2) i2
        | false =>
          cases e
          exact iteF (k _ H1 Z1 S1 (.bl false))
      · cases h1
    · cases h
  · rcases obind_some h1 with ⟨rb, e2, h2, h1⟩ | ⟨x, e2, h2, h⟩
    · exfalso
      split at h1 <;> cases h1
    · cases h
      exact s σ H Z env R _ h2 _ fun c d H1 Z1 S1 i1 => k c d H1 Z1 S1 i1
theorem se_or (ha : SE X W a fa) (hb : SE X W (.BoolOp .Or (b :: rest) pos) fb) : SE X W (.BoolOp .Or (a :: b :: rest) pos) (fun env => obind (isB fa env) fun b e1 => if b then some (.ok (.val (.imm (.bool true))) e1) else fb e1) := by
  obtain ⟨t, p, s⟩ := ha
  obtain ⟨u, q, r⟩ := hb
  refine ⟨_, pe_or p q, fun σ H Z env R o e Q k => ?_⟩
  rcases obind_some e with ⟨ra, e1, h1, e⟩ | ⟨x, e1, h1, rfl⟩
  · rcases obind_some h1 with ⟨rb, e2, h2, h1⟩ | ⟨x, e2, h2, h⟩
    · refine s σ H Z env R _ h2 _ fun v H1 Z1 S1 i1 => ?_
      split at h1
      · rename_i c hd
        cases h1
        refine ⟨ra, (IsO.dq S1.rep i1 hd).bl, ?_⟩
        cases ra with
        | false =>
          refine iteF (r σ H1 Z1 _ S1.rep _ e _ ?_)
          cases o with
          | ok b e2 => exact fun v H2 Z2 S2 i2 => k v H2 Z2 (S1.trans S2) (IsO.base (fun a => S1.fresh) i2)
          | ex x e2 => exact fun c d H2 Z2 S2 i2 => k c d H2 Z2 (S1.trans S2) i2
        | true =>
          cases e
          exact iteT (k _ H1 Z1 S1 (.bl true))
      · cases h1
    · cases h
  · rcases obind_some h1 with ⟨rb, e2, h2, h1⟩ | ⟨x, e2, h2, h⟩
    · exfalso
      split at h1 <;> cases h1
    · cases h
      exact s σ H Z env R _ h2 _ fun c d H1 Z1 S1 i1 => k c d H1 Z1 S1 i1
def dNotB : PyData → Option Val
  | .bool b => some (.imm (.bool (!b)))
  | _ => none
theorem se_one {op : BoolOp} (ha : SE X W a fa) : SE X W (.BoolOp op [a] pos) fa := by
  obtain ⟨t, p, s⟩ := ha
  exact ⟨_, pe_one p, s⟩
theorem se_not (ha : SE X W a fa) : SE X W (.UnaryOp .Not a pos) (fUn dNotB fa) := by
  refine se_op1 (r := fun x H Q => ∃ c, x = .bl c ∧ Q (.bl (!c)) H) (fun ta pa => (pe_not pa : PE X _ (tNotV ta))) ?_ ha
  intro H Z x d1 o l h e Q k
  unfold dNotB at e
  split at e
  · cases e
    exact ⟨_, h.bl, k _ H Z (fun _ _ e => ⟨e, rfl⟩) l (.bl _)⟩
  · cases e
def fIf (t : M Bool) (f g : M Opd) : M Opd := fun env => obind (t env) fun b e1 => if b then f e1 else g e1
theorem se_if {c : Expr} {tc : M Bool} (hc : ST X W c tc) (ha : SE X W a fa) (hb : SE X W b fb) : SE X W (.IfExp c a b pos) (fIf tc fa fb) := by
  obtain ⟨t, p, s⟩ := hc
  obtain ⟨u, q, r⟩ := ha
  obtain ⟨u', q', r'⟩ := hb
  refine ⟨_, pe_ifExp p q q', fun σ H Z env R o e Q k => ?_⟩
  rcases obind_some e with ⟨ra, e1, h1, e⟩ | ⟨x, e1, h1, rfl⟩
  · refine s σ H Z env R _ h1 _ fun H1 Z1 S1 => ?_
    have post : PostE X.K W σ e1 H1 Z1 Q o := by
      cases o with
      | ok b e2 => exact fun v H2 Z2 S2 i2 => k v H2 Z2 (S1.trans S2) (IsO.base (fun a => S1.fresh) i2)
      | ex x e2 => exact fun c d H2 Z2 S2 i2 => k c d H2 Z2 (S1.trans S2) i2
    cases ra with
    | true => exact iteT (r σ H1 Z1 e1 S1.rep _ e _ post)
    | false => exact iteF (r' σ H1 Z1 e1 S1.rep _ e _ post)
  · exact s σ H Z env R _ h1 _ fun c d H1 Z1 S1 i1 => k c d H1 Z1 S1 i1
end
end BV

namespace BV
open PySem PySem.Spec L2
open PyProof.Rows hiding St

/-! ### what a def promises -/
abbrev Res := Except Ex Val
/-- new objects alone, but for what stands at q -/
def Fr0 (q : Option Addr) (H Z H' Z' : Hp) : Prop := ∀ a o, H a = some o → some a ≠ q → H' a = some o ∧ Z' a = Z a
/-- a def of data -/
def spP (K : Fg) (G : List PyData → Option Res) : Sp := fun vs H Q E => ∃ (Z : Hp) (ds : List PyData) (o : Res), Le Z H ∧ DtAll K Z vs ds ∧ G ds = some o ∧
  match o with
  | .ok r => ∀ v H' Z', Fr0 none H Z H' Z' → Le Z' H' → IsV K H H' Z' [] [] v r → Q v H'
  | .error x => ∀ c d H' Z', Fr0 none H Z H' Z' → Le Z' H' → IsX K H' Z' x c d → E c d H'
/-- a def that may change its first argument, a list of the caller's own -/
def spM (K : Fg) (G : List PyData → List PyData → Option (Res × List PyData)) : Sp := fun vs H Q E => ∃ (Z : Hp) (p : Addr) (xs ws : List V) (d0 ds : List PyData) (o : Res) (d1 : List PyData),
  vs = .ref p :: ws ∧ Le Z H ∧ H p = some (.lst xs) ∧ Z p = none ∧ DtAll K Z xs d0 ∧ DtAll K Z ws ds ∧ G d0 ds = some (o, d1) ∧
  match o with
  | .ok r => ∀ v H' Z' ys, Fr0 (some p) H Z H' Z' → Le Z' H' → H' p = some (.lst ys) → Z' p = none → DtAll K Z' ys d1 → IsV K H H' Z' [] [] v r → Q v H'
  | .error x => ∀ c d H' Z' ys, Fr0 (some p) H Z H' Z' → Le Z' H' → H' p = some (.lst ys) → Z' p = none → DtAll K Z' ys d1 → IsX K H' Z' x c d → E c d H'

def fCall (G : List PyData → Option Res) (fa : M (List PyData)) : M Opd := fun env => obind (fa env) fun ds e1 => match G ds with
  | some (.ok r) => some (.ok (.val r) e1)
  | some (.error x) => some (.ex x e1)
  | none => none
def isOwn (env : BE) (i : Nat) : Bool := match env[i]? with
  | some (some (.own _)) => true
  | _ => false
theorem isOwn_some {env : BE} {i : Nat} (h : isOwn env i = true) : ∃ ds, env[i]? = some (some (.own ds)) := by
  unfold isOwn at h
  split at h
  · exact ⟨_, by assumption⟩
  · cases h
def fCallM (i : Nat) (G : List PyData → List PyData → Option (Res × List PyData)) (fa : M (List PyData)) : M Opd := fun env => if isOwn env i then obind (fa env) fun ds e1 => match e1[i]? with
  | some (some (.own d0)) => match G d0 ds with
    | some (.ok r, d1) => some (.ok (.val r) (e1.set i (some (.own d1))))
    | some (.error x, d1) => some (.ex x (e1.set i (some (.own d1))))
    | none => none
  | _ => none
  else none
section
variable {K : Fg} {H H' Z Z' H0 Z0 : Hp} {σ : St} {env env0 : BE} {p : Addr} {i : Nat} {d0 d1 ds : List PyData} {xs ys : List V}
/-- a slot's own list has other items -/
theorem Rep.change (R : Rep K H Z σ env) (he : env[i]? = some (some (.own d0))) (hs : σ[i]? = some (some (.ref p))) (f : Fr0 (some p) H Z H' Z') (l : Le Z' H') (h1 : H' p = some (.lst ys)) (h2 : Z' p = none) (h3 : DtAll K Z' ys d1) :
    Step K σ env H Z σ (env.set i (some (.own d1))) H' Z' := by
  have op : Own env σ p := ⟨i, d0, he, hs⟩
  have hi : i < env.length := (List.getElem?_eq_some_iff.mp he).1
  have lz : Le Z Z' := fun a o h => by
    have ne : some a ≠ some p := fun z => by
      cases z
      rw [R.ownZ op] at h
      cases h
    rw [(f a o (R.zh a o h) ne).2]
    exact h
  have own' : ∀ a, Own (env.set i (some (.own d1))) σ a → Own env σ a := fun a ⟨j, es, e1, e2⟩ => by
    by_cases hj : i = j
    · subst hj
      exact ⟨i, d0, he, e2⟩
    · rw [List.getElem?_set_ne hj] at e1
      exact ⟨j, es, e1, e2⟩
  refine ⟨⟨l, by rw [List.length_set]; exact R.len, fun j d e => ?_, fun j es e => ?_, fun j k es es' q e1 e2 q1 q2 => ?_⟩, fun a o h n => f a o h fun z => n (by cases z; exact op), fun a o => .inl (own' a o), fun a o h => ?_⟩
  · by_cases hj : i = j
    · subst hj
      rw [List.getElem?_set_self hi] at e
      cases e
    · rw [List.getElem?_set_ne hj] at e
      obtain ⟨v, a1, a2⟩ := R.imm j d e
      exact ⟨v, a1, lz.dp _ _ a2⟩
  · by_cases hj : i = j
    · subst hj
      rw [List.getElem?_set_self hi] at e
      cases e
      exact ⟨p, ys, hs, h2, h1, h3⟩
    · rw [List.getElem?_set_ne hj] at e
      obtain ⟨q, zs, a1, a2, a3, a4⟩ := R.own j es e
      have ne : some q ≠ some p := fun z => by
        cases z
        exact hj (R.inj i j _ _ p he e hs a1)
      obtain ⟨b1, b2⟩ := f q _ a3 ne
      exact ⟨q, zs, a1, by rw [b2]; exact a2, b1, lz.dpAll _ _ a4⟩
  · have back : ∀ {j : Nat} {es : List PyData}, (env.set i (some (.own d1)))[j]? = some (some (Sl.own es)) → ∃ es' : List PyData, env[j]? = some (some (Sl.own es')) := fun {j es} e => by
      by_cases hj : i = j
      · subst hj
        exact ⟨d0, he⟩
      · rw [List.getElem?_set_ne hj] at e
        exact ⟨_, e⟩
    obtain ⟨_, c1⟩ := back e1
    obtain ⟨_, c2⟩ := back e2
    exact R.inj j k _ _ q c1 c2 q1 q2
  · by_cases ha : a = p
    · subst ha
      exact ⟨_, h1⟩
    · exact ⟨o, (f a o h fun z => ha (by cases z; rfl)).1⟩
theorem fr0_more (f : Fr0 none H Z H' Z') : ∀ a u, H a = some u → H' a = some u ∧ Z' a = Z a := fun a u h => f a u h fun z => by cases z
end
section
variable {X : Cx} {W : WX} {pos : Pos} {a b e : Expr} {fa fb : M Opd} {es : List Expr} {k : Nat} {f : Addr} {fd : FuncData} {ps : List Str} {x : Str} {p : Pos}
theorem se_call {G : List PyData → Option Res} {fs : M (List PyData)} (F : FnOk X.prog X.w X.K X.mg X.base (L2.CX X.prog X.w) k f fd ps (spP X.K G)) (hr : Room k X.A) (hm : X.mg x = some (.ref f)) (hk : PySem.W.keepIn X.K (.ref f) = true) (hb : Binds X.K fd ps []) (tk : Takes X W)
    (ha : SF X W (e :: es) fs) (hg : Gl X x := by rfl) (hdb : (x == ("__debug__" : Str)) = false := by decide) (he : starEach (e :: es) X.env = (false, eval e X.env) :: starEach es X.env := by rfl) (hpl : (backTo pos (starEach es X.env)).any (·.1) = false := by rfl) :
    SE X W (.Call (.Name x p) (e :: es) [] pos) (fCall G fs) := by
  obtain ⟨ta, pa, sa⟩ := ha
  refine ⟨_, pe_callS F hr hg hm hk hb (fun σ => passAt tk σ) pa hdb he hpl, fun σ H Z env R o e Q k => ?_⟩
  rcases obind_some e with ⟨ds, e1, h1, e⟩ | ⟨x, e1, h1, rfl⟩
  · refine sa σ H Z env R _ h1 _ fun vs H1 Z1 S1 i1 => ?_
    split at e
    · rename_i r hG
      cases e
      exact ⟨Z1, ds, _, S1.rep.zh, i1, hG, fun v H' Z' fr l iv => k v H' Z' (S1.trans (S1.rep.more (fr0_more fr) l)) (IsV.base (fun a => S1.fresh) (IsV.up S1.rep iv))⟩
    · rename_i x hG
      cases e
      exact ⟨Z1, ds, _, S1.rep.zh, i1, hG, fun c d H' Z' fr l iv => k c d H' Z' (S1.trans (S1.rep.more (fr0_more fr) l)) iv⟩
    · cases e
  · exact sa σ H Z env R _ h1 _ fun c d H1 Z1 S1 i1 => k c d H1 Z1 S1 i1
theorem se_callM (i : Nat) {y : Str} {G : List PyData → List PyData → Option (Res × List PyData)} {fs : M (List PyData)} {p2 : Pos} (F : FnOk X.prog X.w X.K X.mg X.base (L2.CX X.prog X.w) k f fd ps (spM X.K G)) (hr : Room k X.A) (hm : X.mg x = some (.ref f)) (hk : PySem.W.keepIn X.K (.ref f) = true) (hb : Binds X.K fd ps []) (tk : Takes X W)
    (ha : SF X W es fs) (hN : X.N[i]? = some y := by rfl) (hv : Vis X.env.scope y := by first | exact Or.inl rfl | exact Or.inr (Or.inl rfl) | exact Or.inr (Or.inr rfl)) (hd : (y == ("__debug__" : Str)) = false := by decide)
    (hcd : (y == ("__classdict__" : Str)) = false := by decide) (hg : Gl X x := by rfl) (hdb : (x == ("__debug__" : Str)) = false := by decide) (he : starEach ((.Name y p2) :: es) X.env = (false, eval (.Name y p2) X.env) :: starEach es X.env := by rfl) (hpl : (backTo pos (starEach es X.env)).any (·.1) = false := by rfl) :
    SE X W (.Call (.Name x p) ((.Name y p2) :: es) [] pos) (fCallM i G fs) := by
  obtain ⟨ta, pa, sa⟩ := ha
  refine ⟨_, pe_callS F hr hg hm hk hb (fun σ => passAt tk σ) (pa_cons (pe_var hN hv hd hcd) pa he) hdb he hpl, fun σ H Z env R o e Q k => ?_⟩
  unfold fCallM at e
  split at e
  · rename_i ho
    · obtain ⟨dd, hdd⟩ := isOwn_some ho
      obtain ⟨q0, xs0, hvi, _⟩ := R.own i dd hdd
      refine ⟨_, hvi, ?_⟩
      rcases obind_some e with ⟨ds, e1, h1, e⟩ | ⟨x, e1, h1, rfl⟩
      · refine sa σ H Z env R _ h1 _ fun vs H1 Z1 S1 i1 => ?_
        split at e
        · rename_i d0 hd0
          obtain ⟨q, xs, hq, hz, hh, ha⟩ := S1.rep.own i d0 hd0
          rw [hvi] at hq
          cases hq
          split at e
          · rename_i r d1 hG
            cases e
            refine ⟨Z1, q0, xs, vs, d0, ds, _, d1, rfl, S1.rep.zh, hh, hz, ha, i1, hG, fun v H' Z' ys fr l h1 h2 h3 iv => ?_⟩
            have C := S1.rep.change hd0 hvi fr l h1 h2 h3
            refine k v H' Z' (S1.trans C) (IsV.base (fun a => S1.fresh) ?_)
            cases r with
            | imm d => exact iv
            | new es =>
              obtain ⟨p', zs, a1, a2, a3, a4, _, a6⟩ := iv
              refine ⟨p', zs, a1, a2, a3, a4, fun ⟨j, es', e1', e2'⟩ => ?_, a6⟩
              by_cases hj : i = j
              · subst hj
                rw [hvi] at e2'
                cases e2'
                rw [hh] at a6
                cases a6
              · rw [List.getElem?_set_ne hj] at e1'
                exact fresh_own S1.rep a6 ⟨j, es', e1', e2'⟩
          · rename_i x d1 hG
            cases e
            refine ⟨Z1, q0, xs, vs, d0, ds, _, d1, rfl, S1.rep.zh, hh, hz, ha, i1, hG, fun c d H' Z' ys fr l h1 h2 h3 iv => ?_⟩
            exact k c d H' Z' (S1.trans (S1.rep.change hd0 hvi fr l h1 h2 h3)) iv
          · cases e
        · cases e
      · exact sa σ H Z env R _ h1 _ fun c d H1 Z1 S1 i1 => k c d H1 Z1 S1 i1
  · cases e
/-! ### methods of a slot's own list -/
/-- what a method makes of the list's items and its arguments (data for good): the answer, the items behind -/
def MtD (K : Fg) (r : V → List V → Hp → VK → Prop) (F : List PyData → List PyData → Option (PyData × List PyData)) : Prop := ∀ H Z p xs ws d0 ds o d1, Le Z H → H p = some (.lst xs) → Z p = none → DtAll K Z xs d0 → DtAll K Z ws ds → F d0 ds = some (o, d1) → ∀ Q : VK,
  (∀ v ys, DtAll K Z ys d1 → Dt K Z v o → Q v (upd H p (.lst ys))) → r (.ref p) ws H Q
def fMt (i : Nat) (F : List PyData → List PyData → Option (PyData × List PyData)) (fa : M (List PyData)) : M Opd := fun env => if isOwn env i then obind (fa env) fun ds e1 => match e1[i]? with
  | some (some (.own d0)) => match F d0 ds with
    | some (o, d1) => some (.ok (.val (.imm o)) (e1.set i (some (.own d1))))
    | none => none
  | _ => none
  else none
theorem upd_fr {H Z : Hp} {p : Addr} {o : HO} (l : Le Z H) (z : Z p = none) : Fr0 (some p) H Z (upd H p o) Z ∧ Le Z (upd H p o) :=
  ⟨fun a u h ne => ⟨by rw [upd_ne (fun e => ne (by rw [e]))]; exact h, rfl⟩, fun a u h => by rw [upd_ne (fun e => by rw [e, z] at h; cases h)]; exact l a u h⟩
/-- the core: what a method's reading asks -/
theorem mt_core {r : V → List V → Hp → VK → Prop} {F : List PyData → List PyData → Option (PyData × List PyData)} {ta : TA} {fs : M (List PyData)} {i : Nat} (D : MtD X.K r F)
    (sa : ∀ σ H Z env, Rep X.K H Z σ env → ∀ o, fs env = some o → ∀ Q, PostF X.K W σ env H Z Q o → ta σ H Q) :
    ∀ σ H Z env, Rep X.K H Z σ env → ∀ o, fMt i F fs env = some o → ∀ Q : VK, PostE X.K W σ env H Z Q o → tBM X.K "list" r (tVar i) ta σ H Q := by
  intro σ H Z env R o e Q k
  unfold fMt at e
  split at e
  · rename_i ho
    · obtain ⟨dd, hdd⟩ := isOwn_some ho
      obtain ⟨q0, xs0, hvi, _, hh0, _⟩ := R.own i dd hdd
      refine ⟨_, hvi, .inl ⟨rfl, _, .inl (.inl hh0)⟩, ?_⟩
      rcases obind_some e with ⟨ds, e1, h1, e⟩ | ⟨x, e1, h1, rfl⟩
      · refine sa σ H Z env R _ h1 _ fun vs H1 Z1 S1 i1 => ?_
        split at e
        · rename_i d0 hd0
          obtain ⟨q, xs, hq, hz, hh, ha⟩ := S1.rep.own i d0 hd0
          rw [hvi] at hq
          cases hq
          split at e
          · rename_i o' d1 hG
            cases e
            refine D H1 Z1 q0 xs vs d0 ds o' d1 S1.rep.zh hh hz ha i1 hG Q fun v ys hys hv => ?_
            obtain ⟨fr, l⟩ := upd_fr (o := .lst ys) S1.rep.zh hz
            exact k v _ Z1 (S1.trans (S1.rep.change hd0 hvi fr l upd_same hz hys)) hv
          · cases e
        · cases e
      · exact sa σ H Z env R _ h1 _ fun c d H1 Z1 S1 i1 => k c d H1 Z1 S1 i1
  · cases e
theorem se_mt (i : Nat) {y name : Str} {id : String} {r : V → List V → Hp → VK → Prop} {F : List PyData → List PyData → Option (PyData × List PyData)} {fs : M (List PyData)} {apos p2 : Pos} (slot : Slot "list" name id) (hty : typeOf (.builtin id) = pure (.type "method_descriptor")) (hm : MtR X id r) (D : MtD X.K r F)
    (ha : SF X W (e :: es) fs) (hN : X.N[i]? = some y := by rfl) (hv : Vis X.env.scope y := by first | exact Or.inl rfl | exact Or.inr (Or.inl rfl) | exact Or.inr (Or.inr rfl)) (hd : (y == ("__debug__" : Str)) = false := by decide)
    (hcd : (y == ("__classdict__" : Str)) = false := by decide)
    (hbase : attributeBase (.Name y p2) name X.env (eval (.Name y p2) X.env) = eval (.Name y p2) X.env := by rfl)
    (hfew : ((backTo pos (starEach (e :: es) X.env)).all (fun x => !x.1) && (backToKw pos (keywordEach [] X.env)).all (fun x => x.1.isSome)
      && decide ((e :: es).length + ([] : List Keyword).length + (if ([] : List Keyword).isEmpty then 0 else 1) < 30)) = true := by rfl)
    (hline : (apos.endLine == pos.line) = true := by rfl) (hs : starEach (e :: es) X.env = (false, eval e X.env) :: starEach es X.env := by rfl) (hplain : (backTo pos (starEach es X.env)).any (·.1) = false := by rfl) :
    SE X W (.Call (.Attribute (.Name y p2) name apos) (e :: es) [] pos) (fMt i F fs) := by
  obtain ⟨ta, pa, sa⟩ := ha
  exact ⟨_, pe_bm PySem.F.plainAttrs_list slot hty hm (pe_var hN hv hd hcd) pa hbase hfew hline hs hplain, mt_core D sa⟩
def mAppend : List PyData → List PyData → Option (PyData × List PyData)
  | d0, [d] => if small d0.length then some (.none, d0 ++ [d]) else none
  | _, _ => none
theorem md_append {K : Fg} : MtD K rAppend mAppend := by
  intro H Z p xs ws d0 ds o d1 l h hz ha hw e Q k
  unfold mAppend at e
  split at e
  · split at e
    · rename_i hs
      cases e
      cases hw with
      | cons h1 h2 =>
        cases h2
        exact ⟨p, xs, _, rfl, rfl, h, by rw [ha.len]; exact small_lt hs, k .non _ (ha.append (.cons h1 .nil)) .non⟩
    · cases e
  · cases e
def mPopAt : List PyData → List PyData → Option (PyData × List PyData)
  | d0, [.int i] => if -(2 ^ 63) ≤ i ∧ i < 2 ^ 63 then (seqIndex? i d0.length).bind fun k => (d0[k]?).map fun y => (y, d0.eraseIdx k) else none
  | _, _ => none
theorem DtAll.erase {K : Fg} {H : Hp} : ∀ {vs : List V} {ds : List PyData} (n : Nat), DtAll K H vs ds → DtAll K H (vs.eraseIdx n) (ds.eraseIdx n)
  | _, _, _, .nil => .nil
  | _, _, 0, .cons _ t => t
  | _, _, n + 1, .cons r t => .cons r (DtAll.erase n t)
theorem md_popAt {K : Fg} : MtD K rPopAt mPopAt := by
  intro H Z p xs ws d0 ds o d1 l h hz ha hw e Q k
  unfold mPopAt at e
  split at e
  · split at e
    · rename_i i hb
      rw [Option.bind_eq_some_iff] at e
      obtain ⟨j, hj, e⟩ := e
      rw [Option.map_eq_some_iff] at e
      obtain ⟨y, hy, e⟩ := e
      cases e
      cases hw with
      | cons h1 h2 =>
        cases h2
        cases h1
        obtain ⟨v, hv, hd⟩ := ha.get hy
        exact ⟨p, xs, i, j, v, rfl, rfl, h, hb.1, hb.2, by rw [ha.len]; exact hj, hv, k v _ (ha.erase j) hd⟩
    · cases e
  · cases e
def mInsert : List PyData → List PyData → Option (PyData × List PyData)
  | d0, [.int i, y] => if 0 ≤ i ∧ i < 2 ^ 63 ∧ small d0.length = true then some (.none, d0.take i.toNat ++ [y] ++ d0.drop i.toNat) else none
  | _, _ => none
theorem md_insert {K : Fg} : MtD K (fun x vs H Q => ∃ (l : Addr) (xs : List V) (i : Int) (y : V), x = .ref l ∧ vs = [.int i, y] ∧ H l = some (.lst xs) ∧ xs.length < sizeLine ∧ 0 ≤ i ∧ i < 2 ^ 63 ∧
    Q .non (upd H l (.lst (xs.take i.toNat ++ [y] ++ xs.drop i.toNat)))) mInsert := by
  intro H Z p xs ws d0 ds o d1 l h hz ha hw e Q k
  unfold mInsert at e
  split at e
  · split at e
    · rename_i i y hb
      cases e
      cases hw with
      | cons h1 h2 =>
        cases h2 with
        | cons h2 h3 =>
          cases h3
          cases h1
          exact ⟨p, xs, i, _, rfl, rfl, h, by rw [ha.len]; exact small_lt hb.2.2, hb.1, hb.2.1, k .non _ (((ha.take _).append (.cons h2 .nil)).append (ha.drop _)) .non⟩
    · cases e
  · cases e
def mExtend : List PyData → List PyData → Option (PyData × List PyData)
  | d0, [.list ds] => if small (d0.length + ds.length) then some (.none, d0 ++ ds) else none
  | _, _ => none
end
end BV

namespace BV
open PySem PySem.Spec L2
open PyProof.Rows hiding St

/-- what a statement comes to: on, break, continue, return -/
inductive Flw where
  | nx | bk | ct
  | rt (r : Opd)
/-- the first slots stand -/
def Pin (pn : Nat) (σ σ' : St) : Prop := ∀ j, j < pn → σ'[j]? = σ[j]?
def PostS (K : Fg) (W : WX) (pn : Nat) (σ : St) (env : BE) (H Z : Hp) (D : Ends) : Out Flw → Prop
  | .ok .nx env' => ∀ σ' H' Z', Step K σ env H Z σ' env' H' Z' → Pin pn σ σ' → D.nx σ' H'
  | .ok .bk env' => ∀ σ' H' Z', Step K σ env H Z σ' env' H' Z' → Pin pn σ σ' → D.bk σ' H'
  | .ok .ct env' => ∀ σ' H' Z', Step K σ env H Z σ' env' H' Z' → Pin pn σ σ' → D.ct σ' H'
  | .ok (.rt r) env' => ∀ v σ' H' Z', Step K σ env H Z σ' env' H' Z' → Pin pn σ σ' → IsO K H H' Z' env' σ' v r → D.rt v H'
  | .ex x env' => ∀ c d σ' H' Z', Step K σ env H Z σ' env' H' Z' → Pin pn σ σ' → IsX K H' Z' x c d → W c d σ' H'
def SS (X : Cx) (W : WX) (pn : Nat) (st : Stmt) (g : M Flw) : Prop :=
  ∃ t, PS X st t ∧ ∀ σ H Z env, Rep X.K H Z σ env → ∀ o, g env = some o → ∀ D : Ends, PostS X.K W pn σ env H Z D o → t D σ H
def SB (X : Cx) (W : WX) (pn : Nat) (st : List Stmt) (g : M Flw) : Prop :=
  ∃ t, PSs X st t ∧ ∀ σ H Z env, Rep X.K H Z σ env → ∀ o, g env = some o → ∀ D : Ends, PostS X.K W pn σ env H Z D o → t D σ H
section
variable {K : Fg} {H H' H1 Z Z' Z1 : Hp} {σ σ' σ1 : St} {env env' env1 : BE} {W : WX} {pn : Nat} {D : Ends} {o : Out Flw} {v : V} {d : PyData} {p : Addr} {xs : List V} {ds : List PyData} {i : Nat}
theorem Pin.refl : Pin pn σ σ := fun _ _ => rfl
theorem Pin.trans {σ2 : St} (a : Pin pn σ σ1) (b : Pin pn σ1 σ2) : Pin pn σ σ2 := fun j h => (b j h).trans (a j h)
theorem Pin.set {x : Option V} (h : pn ≤ i) : Pin pn σ (σ.set i x) := fun j hj => List.getElem?_set_ne (by omega)
theorem PostS.next (S : Step K σ env H Z σ1 env1 H1 Z1) (P : Pin pn σ σ1) (k : PostS K W pn σ env H Z D o) : PostS K W pn σ1 env1 H1 Z1 D o := by
  cases o with
  | ok f e2 =>
    cases f with
    | nx => exact fun σ' H' Z' S' P' => k σ' H' Z' (S.trans S') (P.trans P')
    | bk => exact fun σ' H' Z' S' P' => k σ' H' Z' (S.trans S') (P.trans P')
    | ct => exact fun σ' H' Z' S' P' => k σ' H' Z' (S.trans S') (P.trans P')
    | rt r => exact fun v σ' H' Z' S' P' i => k v σ' H' Z' (S.trans S') (P.trans P') (IsO.base (fun a => S.fresh) i)
  | ex x e2 => exact fun c d σ' H' Z' S' P' i => k c d σ' H' Z' (S.trans S') (P.trans P') i
theorem Rep.setImm (R : Rep K H Z σ env) (h : Dt K Z v d) : Step K σ env H Z (σ.set i (some v)) (env.set i (some (.imm d))) H Z := by
  have own' : ∀ a, Own (env.set i (some (.imm d))) (σ.set i (some v)) a → Own env σ a := fun a ⟨j, es, e1, e2⟩ => by
    by_cases hj : i = j
    · subst hj
      rw [List.getElem?_set] at e1
      simp at e1
    · rw [List.getElem?_set_ne hj] at e1 e2
      exact ⟨j, es, e1, e2⟩
  refine ⟨⟨R.zh, by rw [List.length_set, List.length_set]; exact R.len, fun j d' e => ?_, fun j es e => ?_, fun j k es es' q e1 e2 q1 q2 => ?_⟩, fun a o h n => ⟨h, rfl⟩, fun a o => .inl (own' a o), fun a o h => ⟨o, h⟩⟩
  · by_cases hj : i = j
    · subst hj
      have hi : i < env.length := by
        have := (List.getElem?_eq_some_iff.mp e).1
        rwa [List.length_set] at this
      rw [List.getElem?_set_self hi] at e
      cases e
      exact ⟨v, by rw [List.getElem?_set_self (by rw [R.len]; exact hi)], h⟩
    · rw [List.getElem?_set_ne hj] at e ⊢
      exact R.imm j d' e
  · by_cases hj : i = j
    · subst hj
      rw [List.getElem?_set] at e
      simp at e
    · rw [List.getElem?_set_ne hj] at e ⊢
      exact R.own j es e
  · by_cases hj : i = j
    · subst hj
      rw [List.getElem?_set] at e1
      simp at e1
    · by_cases hk : i = k
      · subst hk
        rw [List.getElem?_set] at e2
        simp at e2
      · rw [List.getElem?_set_ne hj] at e1 q1
        rw [List.getElem?_set_ne hk] at e2 q2
        exact R.inj j k _ _ q e1 e2 q1 q2
theorem Rep.setOwn (R : Rep K H Z σ env) (h1 : H p = some (.lst xs)) (h2 : Z p = none) (h3 : DtAll K Z xs ds) (h4 : ¬ Own env σ p) : Rep K H Z (σ.set i (some (.ref p))) (env.set i (some (.own ds))) ∧ ∀ a, Own (env.set i (some (.own ds))) (σ.set i (some (.ref p))) a → a = p ∨ Own env σ a := by
  refine ⟨⟨R.zh, by rw [List.length_set, List.length_set]; exact R.len, fun j d' e => ?_, fun j es e => ?_, fun j k es es' q e1 e2 q1 q2 => ?_⟩, fun a ⟨j, es, e1, e2⟩ => ?_⟩
  · by_cases hj : i = j
    · subst hj
      rw [List.getElem?_set] at e
      simp at e
    · rw [List.getElem?_set_ne hj] at e ⊢
      exact R.imm j d' e
  · by_cases hj : i = j
    · subst hj
      have hi : i < env.length := by
        have := (List.getElem?_eq_some_iff.mp e).1
        rwa [List.length_set] at this
      rw [List.getElem?_set_self hi] at e
      cases e
      exact ⟨p, xs, by rw [List.getElem?_set_self (by rw [R.len]; exact hi)], h2, h1, h3⟩
    · rw [List.getElem?_set_ne hj] at e ⊢
      exact R.own j es e
  · by_cases hj : i = j
    · by_cases hk : i = k
      · exact hj.symm.trans hk
      · exfalso
        subst hj
        have hi : i < env.length := by
          have := (List.getElem?_eq_some_iff.mp e1).1
          rwa [List.length_set] at this
        rw [List.getElem?_set_self (by rw [R.len]; exact hi)] at q1
        cases q1
        rw [List.getElem?_set_ne hk] at e2 q2
        exact h4 ⟨k, _, e2, q2⟩
    · by_cases hk : i = k
      · exfalso
        subst hk
        have hi : i < env.length := by
          have := (List.getElem?_eq_some_iff.mp e2).1
          rwa [List.length_set] at this
        rw [List.getElem?_set_self (by rw [R.len]; exact hi)] at q2
        cases q2
        rw [List.getElem?_set_ne hj] at e1 q1
        exact h4 ⟨j, _, e1, q1⟩
      · rw [List.getElem?_set_ne hj] at e1 q1
        rw [List.getElem?_set_ne hk] at e2 q2
        exact R.inj j k _ _ q e1 e2 q1 q2
  · by_cases hj : i = j
    · subst hj
      have hi : i < env.length := by
        have := (List.getElem?_eq_some_iff.mp e1).1
        rwa [List.length_set] at this
      rw [List.getElem?_set_self (by rw [R.len]; exact hi)] at e2
      cases e2
      exact .inl rfl
    · rw [List.getElem?_set_ne hj] at e1 e2
      exact .inr ⟨j, es, e1, e2⟩
/-- an operand goes into a slot -/
def putO (i : Nat) (r : Opd) (env : BE) : Option BE := match r with
  | .val (.new ds) => some (env.set i (some (.own ds)))
  | r => match r.fr env with
    | some (d, e2) => some (e2.set i (some (.imm d)))
    | none => none
theorem putO_ok {r : Opd} {H0 Z0 : Hp} {env0 : BE} (S : Step K σ env0 H0 Z0 σ env H Z) (h : IsO K H0 H Z env σ v r) (e : putO i r env = some env') : ∃ Z', Step K σ env0 H0 Z0 (σ.set i (some v)) env' H Z' := by
  have slow : (match r.fr env with
    | some (d, e2) => some (e2.set i (some (.imm d)))
    | none => none) = some env' → ∃ Z', Step K σ env0 H0 Z0 (σ.set i (some v)) env' H Z' := fun e => by
    split at e
    · rename_i d e2 hf
      cases e
      obtain ⟨Z', S', hd⟩ := fr_ok S h hf
      exact ⟨Z', S'.trans (S'.rep.setImm hd)⟩
    · cases e
  unfold putO at e
  split at e
  · cases e
    obtain ⟨p, xs, rfl, h1, z, h2, no, h0⟩ := h
    obtain ⟨R', own'⟩ := S.rep.setOwn (i := i) h1 z h2 no
    refine ⟨Z, R', S.fr, fun a o => ?_, S.tr⟩
    rcases own' a o with rfl | q
    · exact .inr h0
    · exact S.le a q
  · exact slow e
end

/-! ### statements -/
def gSeq (g1 g2 : M Flw) : M Flw := fun env => match g1 env with
  | some (.ok .nx e) => g2 e
  | o => o
def gNext : M Flw := fun env => some (.ok .nx env)
def gSet (i : Nat) (f : M Opd) : M Flw := fun env => obind (f env) fun r e1 => match putO i r e1 with
  | some e2 => some (.ok .nx e2)
  | none => none
def gDrop (f : M Opd) : M Flw := fun env => obind (f env) fun _ e1 => some (.ok .nx e1)
def gRet (f : M Opd) : M Flw := fun env => obind (f env) fun r e1 => some (.ok (.rt r) e1)
def gRetN : M Flw := fun env => some (.ok (.rt (.val (.imm .none))) env)
def gIf (t : M Bool) (g1 g2 : M Flw) : M Flw := fun env => obind (t env) fun b e1 => if b then g1 e1 else g2 e1
section
variable {X : Cx} {W : WX} {pn : Nat} {pos : Pos} {st : Stmt} {rest : List Stmt} {g g1 g2 : M Flw} {e : Expr} {f : M Opd}
theorem sb_nil : SB X W pn [] gNext := ⟨_, pss_nil, fun σ H Z env R o e D k => by cases e; exact k σ H Z (Step.refl R) Pin.refl⟩
theorem sb_one (h : SS X W pn st g) : SB X W pn [st] g := by
  obtain ⟨t, p, s⟩ := h
  exact ⟨t, pss_one p, s⟩
theorem sb_cons (h1 : SS X W pn st g1) (h2 : SB X W pn rest g2) : SB X W pn (st :: rest) (gSeq g1 g2) := by
  obtain ⟨t, p, s⟩ := h1
  obtain ⟨u, q, r⟩ := h2
  refine ⟨_, pss_cons p q, fun σ H Z env R o e D k => ?_⟩
  show t { D with nx := u D } σ H
  unfold gSeq at e
  split at e
  · rename_i e1 h1
    exact s σ H Z env R _ h1 _ fun σ' H' Z' S P => r σ' H' Z' _ S.rep _ e D (k.next S P)
  · rename_i o' hn
    refine s σ H Z env R _ e _ ?_
    cases o with
    | ok fl e2 =>
      cases fl with
      | nx => exact absurd e (hn _)
      | bk => exact k
      | ct => exact k
      | rt r => exact k
    | ex x e2 => exact k
theorem ss_set (i : Nat) {x : Str} {pos' : Pos} (hp : pn ≤ i) (hN : X.N.Nodup) (he : SE X W e f) (hi : X.N[i]? = some x := by rfl) (hx : Loc X.env.scope x := by first | exact Or.inl rfl | exact Or.inr rfl) (hs : swapsWith e (some (.Name x pos')) pos.line X.env = pure false := by rfl) (hf : X.fn x = true ∨ X.env.scope.names.lookup x = some .local := by first | exact .inl rfl | exact .inr rfl | assumption) :
    SS X W pn (.Assign [.Name x pos'] e pos) (gSet i f) := by
  obtain ⟨t, p, s⟩ := he
  refine ⟨_, ps_set hN hi hx p hs hf, fun σ H Z env R o e D k => ?_⟩
  rcases obind_some e with ⟨r, e1, h1, e⟩ | ⟨x, e1, h1, rfl⟩
  · refine s σ H Z env R _ h1 _ fun v H1 Z1 S1 i1 => ?_
    split at e
    · rename_i e2 h2
      cases e
      obtain ⟨Z2, S2⟩ := putO_ok S1 i1 h2
      exact k _ H1 Z2 S2 (Pin.set hp)
    · cases e
  · exact s σ H Z env R _ h1 _ fun c d H1 Z1 S1 i1 => k c d σ H1 Z1 S1 Pin.refl i1
theorem ss_expr (he : SE X W e f) (hs : swapsWith e none pos.line X.env = pure false := by rfl) : SS X W pn (.Expr e pos) (gDrop f) := by
  obtain ⟨t, p, s⟩ := he
  refine ⟨_, ps_expr p hs, fun σ H Z env R o e D k => ?_⟩
  rcases obind_some e with ⟨r, e1, h1, e⟩ | ⟨x, e1, h1, rfl⟩
  · cases e
    exact s σ H Z env R _ h1 _ fun v H1 Z1 S1 i1 => k σ H1 Z1 S1 Pin.refl
  · exact s σ H Z env R _ h1 _ fun c d H1 Z1 S1 i1 => k c d σ H1 Z1 S1 Pin.refl i1
theorem ss_doc {x : Str} {j : Nat} {pos' : Pos} : SS X W pn (.Expr (.Constant (.str x) j pos) pos') gNext := ⟨_, ps_doc, fun σ H Z env R o e D k => by cases e; exact k σ H Z (Step.refl R) Pin.refl⟩
theorem ss_pass : SS X W pn (.Pass pos) gNext := ⟨_, ps_pass, fun σ H Z env R o e D k => by cases e; exact k σ H Z (Step.refl R) Pin.refl⟩
def gBreak : M Flw := fun env => some (.ok .bk env)
def gCont : M Flw := fun env => some (.ok .ct env)
theorem ss_break : SS X W pn (.Break pos) gBreak := ⟨_, ps_break, fun σ H Z env R o e D k => by cases e; exact k σ H Z (Step.refl R) Pin.refl⟩
theorem ss_continue : SS X W pn (.Continue pos) gCont := ⟨_, ps_continue, fun σ H Z env R o e D k => by cases e; exact k σ H Z (Step.refl R) Pin.refl⟩
theorem ss_ret (he : SE X W e f) : SS X W pn (.Return (some e) pos) (gRet f) := by
  obtain ⟨t, p, s⟩ := he
  refine ⟨_, ps_ret p, fun σ H Z env R o e D k => ?_⟩
  rcases obind_some e with ⟨r, e1, h1, e⟩ | ⟨x, e1, h1, rfl⟩
  · cases e
    exact s σ H Z env R _ h1 _ fun v H1 Z1 S1 i1 => k v σ H1 Z1 S1 Pin.refl i1
  · exact s σ H Z env R _ h1 _ fun c d H1 Z1 S1 i1 => k c d σ H1 Z1 S1 Pin.refl i1
theorem ss_retN : SS X W pn (.Return none pos) gRetN := ⟨_, ps_retN, fun σ H Z env R o e D k => by cases e; exact k .non σ H Z (Step.refl R) Pin.refl Dt.non⟩
theorem ss_if {c : Expr} {a b : List Stmt} {tc : M Bool} (hc : ST X W c tc) (ha : SB X W pn a g1) (hb : SB X W pn b g2) : SS X W pn (.If c a b pos) (gIf tc g1 g2) := by
  obtain ⟨t, p, s⟩ := hc
  obtain ⟨u, q, r⟩ := ha
  obtain ⟨u', q', r'⟩ := hb
  refine ⟨_, ps_if p q q', fun σ H Z env R o e D k => ?_⟩
  rcases obind_some e with ⟨ra, e1, h1, e⟩ | ⟨x, e1, h1, rfl⟩
  · refine s σ H Z env R _ h1 _ fun H1 Z1 S1 => ?_
    cases ra with
    | true => exact iteT (r σ H1 Z1 e1 S1.rep _ e D (k.next S1 Pin.refl))
    | false => exact iteF (r' σ H1 Z1 e1 S1.rep _ e D (k.next S1 Pin.refl))
  · exact s σ H Z env R _ h1 _ fun c d H1 Z1 S1 i1 => k c d σ H1 Z1 S1 Pin.refl i1
/-! targets -/
def SG (X : Cx) (tg : Expr) (ts : List Nat) (f : PyData → BE → Option BE) : Prop :=
  ∃ g, PG X tg g ∧ ∀ v d σ H Z env env', Rep X.K H Z σ env → Dt X.K Z v d → f d env = some env' → ∀ Q : St → Hp → Prop, (∀ σ', Step X.K σ env H Z σ' env' H Z → σ'.length = σ.length → (∀ j, j ∉ ts → σ'[j]? = σ[j]?) → Q σ' H) → g v σ H Q
def SGs (X : Cx) (tg : List Expr) (ts : List Nat) (f : List PyData → BE → Option BE) : Prop :=
  ∃ g, PGs X tg g ∧ ∀ vs ds σ H Z env env', Rep X.K H Z σ env → DtAll X.K Z vs ds → f ds env = some env' → ∀ Q : St → Hp → Prop, (∀ σ', Step X.K σ env H Z σ' env' H Z → σ'.length = σ.length → (∀ j, j ∉ ts → σ'[j]? = σ[j]?) → Q σ' H) → g vs σ H Q
def tName (i : Nat) : PyData → BE → Option BE := fun d env => some (env.set i (some (.imm d)))
def tsNil : List PyData → BE → Option BE := fun ds env => match ds with
  | [] => some env
  | _ => none
def tsCons (f : PyData → BE → Option BE) (g : List PyData → BE → Option BE) : List PyData → BE → Option BE := fun ds env => match ds with
  | d :: ds => match f d env with
    | some e1 => g ds e1
    | none => none
  | _ => none
def tTupT (g : List PyData → BE → Option BE) : PyData → BE → Option BE := fun d env => match d with
  | .tuple ds => g ds env
  | _ => none
theorem sg_name (i : Nat) {x : Str} (hN : X.N.Nodup) (hi : X.N[i]? = some x := by rfl) (hx : Loc X.env.scope x := by first | exact Or.inl rfl | exact Or.inr rfl) (hf : X.fn x = true ∨ X.env.scope.names.lookup x = some .local := by first | exact .inl rfl | exact .inr rfl | assumption) : SG X (.Name x pos) [i] (tName i) := by
  refine ⟨_, pg_name hN hi hx hf, fun v d σ H Z env env' R hd e Q k => ?_⟩
  cases e
  exact k _ (R.setImm hd) (List.length_set ..) fun j hj => List.getElem?_set_ne fun z => hj (by simp [z])
theorem sgs_nil : SGs X [] [] tsNil := by
  refine ⟨_, pgs_nil, fun vs ds σ H Z env env' R hd e Q k => ?_⟩
  unfold tsNil at e
  split at e
  · cases e
    cases hd
    exact ⟨rfl, k σ (Step.refl R) rfl fun _ _ => rfl⟩
  · cases e
theorem sgs_cons {tg : Expr} {tgs : List Expr} {a b : List Nat} {f : PyData → BE → Option BE} {h : List PyData → BE → Option BE} (h1 : SG X tg a f) (h2 : SGs X tgs b h) (hs : (assignEach (tg :: tgs) X.env).map (·.2) = assign tg X.env :: (assignEach tgs X.env).map (·.2) := by rfl) : SGs X (tg :: tgs) (a ++ b) (tsCons f h) := by
  obtain ⟨t, p, s⟩ := h1
  obtain ⟨u, q, r⟩ := h2
  refine ⟨_, pgs_cons p q hs, fun vs ds σ H Z env env' R hd e Q k => ?_⟩
  unfold tsCons at e
  split at e
  · rename_i d ds
    split at e
    · rename_i e1 h1
      cases hd with
      | cons hv hw =>
        refine ⟨_, _, rfl, s _ d σ H Z env e1 R hv h1 _ fun σ1 S1 c1 n1 => ?_⟩
        refine r _ ds σ1 H Z e1 env' S1.rep hw e Q fun σ2 S2 c2 n2 => ?_
        exact k σ2 (S1.trans S2) (c2.trans c1) fun j hj => (n2 j fun z => hj (List.mem_append_right _ z)).trans (n1 j fun z => hj (List.mem_append_left _ z))
    · cases e
  · cases e
theorem sg_tup {es : List Expr} {j : Nat} {a : List Nat} {h : List PyData → BE → Option BE} {n : Nat} (hc : X.calm = true) (h1 : SGs X es a h) (hl : ∀ ds env env', h ds env = some env' → ds.length = n)
    (hn : (assignEach es X.env).length = n := by rfl) (hst : (assignEach es X.env).findIdx? (·.1) = none := by rfl) : SG X (.Tuple es j pos) a (tTupT h) := by
  obtain ⟨t, p, s⟩ := h1
  refine ⟨_, pg_tup hc p hn hst, fun v d σ H Z env env' R hd e Q k => ?_⟩
  unfold tTupT at e
  split at e
  · rename_i ds
    cases hd with
    | tup hr ha =>
      refine ⟨_, _, rfl, R.zh.sqT hr, by rw [ha.len]; exact hl _ _ _ e, s _ ds σ H Z env env' R ha e Q k⟩
  · cases e
/-- target = value, the target no plain name -/
def gAsg (f : M Opd) (tg : PyData → BE → Option BE) : M Flw := fun env => obind (f env) fun r e1 => match r.fr e1 with
  | some (d, e2) => match tg d e2 with
    | some e3 => some (.ok .nx e3)
    | none => none
  | none => none
theorem ss_asg {tg : Expr} {ts : List Nat} {h : PyData → BE → Option BE} (hp : ∀ j, j < pn → j ∉ ts) (he : SE X W e f) (hg : SG X tg ts h) (hs : swapsWithSole [tg] e pos.line X.env = pure false := by rfl) (hw : swappedStores [tg] e X.env = pure none := by rfl)
    (h1 : (assignEach [tg] X.env).map (·.2) = [assign tg X.env] := by rfl) : SS X W pn (.Assign [tg] e pos) (gAsg f h) := by
  obtain ⟨t, p, s⟩ := he
  obtain ⟨u, q, r⟩ := hg
  refine ⟨_, ps_asg p q hs hw h1, fun σ H Z env R o e D k => ?_⟩
  rcases obind_some e with ⟨r', e1, h1, e⟩ | ⟨x, e1, h1, rfl⟩
  · refine s σ H Z env R _ h1 _ fun v H1 Z1 S1 i1 => ?_
    split at e
    · rename_i d e2 h2
      split at e
      · rename_i e3 h3
        cases e
        obtain ⟨Z2, S2, hd⟩ := fr_ok S1 i1 h2
        exact r v d σ H1 Z2 e2 e3 S2.rep hd h3 _ fun σ' S3 _ n3 => k σ' H1 Z2 (S2.trans S3) fun j hj => n3 j (hp j hj)
      · cases e
    · cases e
  · exact s σ H Z env R _ h1 _ fun c d H1 Z1 S1 i1 => k c d σ H1 Z1 S1 Pin.refl i1
/-! x[i] = e, x a slot's own list -/
def gSetIx (i : Nat) (fe fi : M Opd) : M Flw := fun env => obind (fe env) fun r e1 => match r.fr e1 with
  | some (d, e2) => if isOwn e2 i then obind (fi e2) fun ri e3 => match ri.d e3, e3[i]? with
    | some (.int k), some (some (.own d0)) => match ixN d0.length k with
      | some j => some (.ok .nx (e3.set i (some (.own (d0.set j d)))))
      | none => none
    | _, _ => none
    else none
  | none => none
theorem ss_setIx (i : Nat) {y : Str} {b : Expr} {fb : M Opd} {p2 : Pos} {pos2 : Pos} (he : SE X W e f) (hb : SE X W b fb) (hN : X.N[i]? = some y := by rfl) (hv : Vis X.env.scope y := by first | exact Or.inl rfl | exact Or.inr (Or.inl rfl) | exact Or.inr (Or.inr rfl))
    (hd : (y == ("__debug__" : Str)) = false := by decide) (hcd : (y == ("__classdict__" : Str)) = false := by decide)
    (hs : swapsWithSole [.Subscript (.Name y p2) b pos2] e pos.line X.env = pure false := by rfl) (hw : swappedStores [.Subscript (.Name y p2) b pos2] e X.env = pure none := by rfl)
    (h1 : (assignEach [.Subscript (.Name y p2) b pos2] X.env).map (·.2) = [assign (.Subscript (.Name y p2) b pos2) X.env] := by rfl)
    (ha : ∀ v, assign (.Subscript (.Name y p2) b pos2) X.env v = (do
      let ov ← holding [v] (eval (.Name y p2) X.env)
      let iv ← holding [v, ov] (eval b X.env)
      standAt pos2
      holding [v, ov, iv] (setItem ov iv v)
      release [v, ov, iv] []) := by intro _; rfl) : SS X W pn (.Assign [.Subscript (.Name y p2) b pos2] e pos) (gSetIx i f fb) := by
  obtain ⟨t, p, s⟩ := he
  obtain ⟨u, q, r⟩ := hb
  refine ⟨_, ps_asg p (pg_sub (pe_var hN hv hd hcd) q set_list ha) hs hw h1, fun σ H Z env R o e D k => ?_⟩
  rcases obind_some e with ⟨r', e1, h1, e⟩ | ⟨x, e1, h1, rfl⟩
  · refine s σ H Z env R _ h1 _ fun v H1 Z1 S1 i1 => ?_
    split at e
    · rename_i d e2 h2
      split at e
      · rename_i ho
        obtain ⟨dd, hdd⟩ := isOwn_some ho
        obtain ⟨Z2, S2, hd⟩ := fr_ok S1 i1 h2
        obtain ⟨q0, xs0, hvi, _⟩ := S2.rep.own i dd hdd
        refine ⟨_, hvi, ?_⟩
        rcases obind_some e with ⟨ri, e3, h3, e⟩ | ⟨x, e3, h3, rfl⟩
        · refine r σ H1 Z2 e2 S2.rep _ h3 _ fun w H3 Z3 S3 i3 => ?_
          split at e
          · rename_i kk d0 hk hd0
            split at e
            · rename_i j hj
              cases e
              obtain ⟨q1, xs, hq, hz, hh, ha⟩ := S3.rep.own i d0 hd0
              rw [hvi] at hq
              cases hq
              refine ⟨q0, xs, kk, j, rfl, (IsO.dq S3.rep i3 hk).int, hh, by rw [ha.len]; exact hj, ?_⟩
              have hd3 : Dt X.K Z3 v d := (S3.leZ S2.rep).dp _ _ hd
              obtain ⟨fr, l⟩ := upd_fr (o := .lst (xs.set j v)) S3.rep.zh hz
              exact k σ _ Z3 ((S2.trans S3).trans (S3.rep.change hd0 hvi fr l upd_same hz (ha.set hd3 j))) Pin.refl
            · cases e
          · cases e
        · refine r σ H1 Z2 e2 S2.rep _ h3 _ fun c d H3 Z3 S3 i3 => k c d σ H3 Z3 (S2.trans S3) Pin.refl i3
      · cases e
    · cases e
  · exact s σ H Z env R _ h1 _ fun c d H1 Z1 S1 i1 => k c d σ H1 Z1 S1 Pin.refl i1
/-! while -/
def whileF (t : M Bool) (g : M Flw) : Nat → M Flw
  | 0 => fun _ => none
  | n + 1 => fun env => obind (t env) fun b e1 => if b then (match g e1 with
      | some (.ok .nx e2) => whileF t g n e2
      | some (.ok .ct e2) => whileF t g n e2
      | some (.ok .bk e2) => some (.ok .nx e2)
      | o => o) else some (.ok .nx e1)
theorem ss_while (n : Nat) {c : Expr} {body : List Stmt} {tc : M Bool} (hp : PassesOwn (model X.prog X.w) X.A X.env X.xe) (hc : ST X W c tc) (hb : SB X W pn body g) : SS X W pn (.While c body [] pos) (whileF tc g n) := by
  obtain ⟨t, p, s⟩ := hc
  obtain ⟨u, q, r⟩ := hb
  refine ⟨_, ps_while hp p q, fun σ H Z env R o e D k => ?_⟩
  refine ⟨fun m σ1 H1 => ∃ Z1 env1, Step X.K σ env H Z σ1 env1 H1 Z1 ∧ Pin pn σ σ1 ∧ whileF tc g m env1 = some o, ⟨n, Z, env, Step.refl R, Pin.refl, e⟩, ?_⟩
  rintro m σ1 H1 ⟨Z1, env1, S1, P1, e⟩
  cases m with
  | zero => cases e
  | succ m =>
    unfold whileF at e
    rcases obind_some e with ⟨b, e1, h1, e⟩ | ⟨x, e1, h1, rfl⟩
    · refine s σ1 H1 Z1 env1 S1.rep _ h1 _ fun H2 Z2 S2 => ?_
      have S12 := S1.trans S2
      cases b with
      | false =>
        cases e
        exact iteF (k σ1 H2 Z2 S12 P1)
      | true =>
        refine iteT ⟨fun σ' H' => ∃ m', m' < m + 1 ∧ ∃ Z1 env1, Step X.K σ env H Z σ' env1 H' Z1 ∧ Pin pn σ σ' ∧ whileF tc g m' env1 = some o, fun σ' H' h => h, ?_⟩
        replace e : (match g e1 with
          | some (.ok .nx e2) => whileF tc g m e2
          | some (.ok .ct e2) => whileF tc g m e2
          | some (.ok .bk e2) => some (.ok .nx e2)
          | o => o) = some o := e
        split at e
        · rename_i e2 h2
          exact r σ1 H2 Z2 e1 S2.rep _ h2 _ fun σ' H' Z' S' P' => ⟨m, Nat.lt_succ_self m, Z', e2, S12.trans S', P1.trans P', e⟩
        · rename_i e2 h2
          exact r σ1 H2 Z2 e1 S2.rep _ h2 _ fun σ' H' Z' S' P' => ⟨m, Nat.lt_succ_self m, Z', e2, S12.trans S', P1.trans P', e⟩
        · rename_i e2 h2
          cases e
          exact r σ1 H2 Z2 e1 S2.rep _ h2 _ fun σ' H' Z' S' P' => k σ' H' Z' (S12.trans S') (P1.trans P')
        · rename_i n1 n2 n3
          refine r σ1 H2 Z2 e1 S2.rep _ e _ ?_
          have k' := k.next S12 P1
          cases o with
          | ok fl e2 =>
            cases fl with
            | nx => exact absurd e (n1 _)
            | bk => exact absurd e (n3 _)
            | ct => exact absurd e (n2 _)
            | rt r => exact k'
          | ex x e2 => exact k'
    · exact s σ1 H1 Z1 env1 S1.rep _ h1 _ fun c d H2 Z2 S2 i2 => k c d σ1 H2 Z2 (S1.trans S2) P1 i2
end
end BV

namespace BV
open PySem PySem.Spec L2
open PyProof.Rows hiding St

/-! ### what is walked -/
def IterOk (K : Fg) (J : It) (Z1 : Hp) (items : List PyData) : Prop := ∀ H Z, Le Z1 Z → Le Z H →
  (∀ (i : Nat) d, items[i]? = some d → J.go i H ∧ ∀ x H', J.yld i H x H' → ∃ Z', (∀ a u, H a = some u → H' a = some u ∧ Z' a = Z a) ∧ Le Z' H' ∧ Dt K Z' x d) ∧ J.stop items.length H
def PostI (K : Fg) (W : WX) (σ : St) (env : BE) (H Z : Hp) (R : It → Hp → Prop) : Out (List PyData) → Prop
  | .ok items env' => ∀ J H' Z', Step K σ env H Z σ env' H' Z' → IterOk K J Z' items → R J H'
  | .ex x env' => ∀ c d H' Z', Step K σ env H Z σ env' H' Z' → IsX K H' Z' x c d → W c d σ H'
def SI (X : Cx) (W : WX) (tg iter : Expr) (f : M (List PyData)) : Prop :=
  ∃ wi, PI X tg iter wi ∧ ∀ σ H Z env, Rep X.K H Z σ env → ∀ o, f env = some o → ∀ R, PostI X.K W σ env H Z R o → wi σ H R
def iSeq (f : M Opd) : M (List PyData) := fun env => obind (f env) fun r e1 => match r.fr e1 with
  | some (.list ds, e2) => some (.ok ds e2)
  | some (.tuple ds, e2) => some (.ok ds e2)
  | _ => none
def intsTo (n : Nat) : List PyData := (List.range n).map fun (i : Nat) => PyData.int i
def iRange1 (f : M Opd) : M (List PyData) := fun env => obind (f env) fun r e1 => match r.d e1 with
  | some (.int n) => if -(2 ^ 62) ≤ n ∧ n < 2 ^ 62 then some (.ok (intsTo n.toNat) e1) else none
  | _ => none
def intsOf (lo hi : Int) : List PyData := (List.range (hi - lo).toNat).map fun (i : Nat) => PyData.int (lo + i)
def iRange2 (f g : M Opd) : M (List PyData) := fun env => obind (f env) fun r e1 => obind (g e1) fun s e2 => match r.d e2, s.d e2 with
  | some (.int n), some (.int m) => if -(2 ^ 62) ≤ n ∧ n < 2 ^ 62 ∧ -(2 ^ 62) ≤ m ∧ m < 2 ^ 62 then some (.ok (intsOf n m) e2) else none
  | _, _ => none
section
variable {X : Cx} {W : WX} {pos : Pos} {tg e : Expr} {f : M Opd}
/-- a list or a tuple, walked -/
def iSq (K : Fg) (tl : TE) : TI := fun σ H R => tl σ H fun x H1 => ∃ a, x = .ref a ∧ (((∃ xs, SqL K H1 a xs) ∧ R (Itl K a) H1) ∨ ((∃ xs, SqT K H1 a xs) ∧ R (Itt K a) H1))
theorem pi_sq {tl : TE} (hl : PE X e tl) : PI X tg e (iSq X.K tl) := by
  refine ⟨fun pins s σ H R I h => ?_⟩
  refine thn (hl.run pins s σ H _ I h) fun v s1 ⟨x, H1, I1, r1, a, ex, q⟩ => ?_
  subst ex
  cases r1
  have new : ∀ b ∈ [s1.heap.objs.size], FpOk X pins H1 b := fun b hb => by
    have e : b = s1.heap.objs.size := by simpa using hb
    subst e
    exact I1.fpOk (Nat.le_refl _) (I1.hok.fresh (Nat.le_refl _))
  rcases q with ⟨⟨xs, hq⟩, q⟩ | ⟨⟨xs, hq⟩, q⟩
  · obtain ⟨its, rv, p, hz⟩ := I1.list hq
    exact wpAny_pyIter_list p.isList ⟨_, [_], _, _, H1, rfl, I1.kept (t' := s1.toks) fun b o e => Heap.get?_push_of_some _ e, turn_list a _, ⟨_, Heap.get?_push_size _ rfl, rfl, rfl⟩, new, q⟩
  · obtain ⟨its, rv, p, hz⟩ := I1.tuple hq
    exact wpAny_pyIter_tuple (show s1.heap.IsTuple a its.toArray from p) ⟨_, [_], _, _, H1, rfl, I1.kept (t' := s1.toks) fun b o e => Heap.get?_push_of_some _ e, turn_tuple a _, ⟨_, Heap.get?_push_size _ rfl, rfl, rfl⟩, new, q⟩
theorem iterOk_list {K : Fg} {Z : Hp} {a : Addr} {xs : List V} {ds : List PyData} (hr : Rd Z a (.lst xs)) (ha : DtAll K Z xs ds) : IterOk K (Itl K a) Z ds := fun H Z' l1 l2 => by
  have hs : SqL K H a xs := .inl ((l1.trans l2).rd hr)
  refine ⟨fun i d e => ?_, ⟨xs, hs, Nat.le_of_eq ha.len⟩⟩
  obtain ⟨v, hv, hd⟩ := ha.get e
  refine ⟨⟨xs, v, hs, hv⟩, fun x H' ⟨e1, e2⟩ => ?_⟩
  subst e1
  have ex := e2 xs hs
  rw [hv] at ex
  cases ex
  exact ⟨Z', fun _ _ h => ⟨h, rfl⟩, l2, l1.dp _ _ hd⟩
theorem iterOk_tup {K : Fg} {Z : Hp} {a : Addr} {xs : List V} {ds : List PyData} (hr : SqT K Z a xs) (ha : DtAll K Z xs ds) : IterOk K (Itt K a) Z ds := fun H Z' l1 l2 => by
  have hs : SqT K H a xs := (l1.trans l2).sqT hr
  refine ⟨fun i d e => ?_, ⟨xs, hs, Nat.le_of_eq ha.len⟩⟩
  obtain ⟨v, hv, hd⟩ := ha.get e
  refine ⟨⟨xs, v, hs, hv⟩, fun x H' ⟨e1, e2⟩ => ?_⟩
  subst e1
  have ex := e2 xs hs
  rw [hv] at ex
  cases ex
  exact ⟨Z', fun _ _ h => ⟨h, rfl⟩, l2, l1.dp _ _ hd⟩
theorem si_seq (h : SE X W e f) : SI X W tg e (iSeq f) := by
  obtain ⟨t, p, s⟩ := h
  refine ⟨_, pi_sq p, fun σ H Z env R o e Q k => ?_⟩
  rcases obind_some e with ⟨r, e1, h1, e⟩ | ⟨x, e1, h1, rfl⟩
  · refine s σ H Z env R _ h1 _ fun v H1 Z1 S1 i1 => ?_
    split at e
    · rename_i ds e2 h2
      cases e
      obtain ⟨Z2, S2, hd⟩ := fr_ok S1 i1 h2
      cases hd with
      | lst hr ha => exact ⟨_, rfl, .inl ⟨⟨_, .inl (S2.rep.zh.rd hr)⟩, k _ H1 Z2 S2 (iterOk_list hr ha)⟩⟩
    · rename_i ds e2 h2
      cases e
      obtain ⟨Z2, S2, hd⟩ := fr_ok S1 i1 h2
      cases hd with
      | tup hr ha => exact ⟨_, rfl, .inr ⟨⟨_, S2.rep.zh.sqT hr⟩, k _ H1 Z2 S2 (iterOk_tup hr ha)⟩⟩
    · cases e
  · exact s σ H Z env R _ h1 _ fun c d H1 Z1 S1 i1 => k c d H1 Z1 S1 i1
theorem iterOk_ints {K : Fg} {Z : Hp} (lo hi : Int) : IterOk K (Itr lo (hi - lo).toNat) Z (intsOf lo hi) := fun H Z' l1 l2 => by
  have hn : (intsOf lo hi).length = (hi - lo).toNat := by simp [intsOf]
  refine ⟨fun i d e => ?_, by rw [hn]; exact Nat.le_refl _⟩
  have hi' : i < (hi - lo).toNat := by
    have := (List.getElem?_eq_some_iff.mp e).1
    rwa [hn] at this
  refine ⟨hi', fun x H' ⟨e1, e2⟩ => ?_⟩
  subst e1
  subst e2
  have ed : d = .int (lo + i) := by
    unfold intsOf at e
    rw [List.getElem?_map, List.getElem?_range hi'] at e
    exact (Option.some.inj e).symm
  subst ed
  exact ⟨Z', fun _ _ h => ⟨h, rfl⟩, l2, .int _⟩
theorem intsTo_eq (n : Nat) : intsTo n = intsOf 0 n := by
  unfold intsTo intsOf
  simp
theorem si_range1 {p : Pos} (hm : X.mg "range" = none) (h : SE X W e f) (hg : Gl X "range" := by rfl) (hs : starEach [e] X.env = [(false, eval e X.env)] := by rfl) : SI X W tg (.Call (.Name "range" p) [e] [] pos) (iRange1 f) := by
  obtain ⟨t, p, s⟩ := h
  refine ⟨_, pi_range1 hg hm (pa_cons p pa_nil hs) hs, fun σ H Z env R o e Q k => ?_⟩
  rcases obind_some e with ⟨r, e1, h1, e⟩ | ⟨x, e1, h1, rfl⟩
  · refine s σ H Z env R _ h1 _ fun v H1 Z1 S1 i1 => ?_
    split at e
    · rename_i n hn
      split at e
      · rename_i hb
        cases e
        refine ⟨n, by rw [(IsO.dq S1.rep i1 hn).int], hb.1, hb.2, k _ H1 Z1 S1 ?_⟩
        have z := iterOk_ints (K := X.K) (Z := Z1) 0 n.toNat
        rw [← intsTo_eq] at z
        have e1 : ((n.toNat : Int) - 0).toNat = n.toNat := by omega
        rw [e1] at z
        exact z
      · cases e
    · cases e
  · exact s σ H Z env R _ h1 _ fun c d H1 Z1 S1 i1 => k c d H1 Z1 S1 i1
theorem si_range2 {p : Pos} {e2 : Expr} {g : M Opd} (hm : X.mg "range" = none) (h : SE X W e f) (h2 : SE X W e2 g) (hg : Gl X "range" := by rfl) (hs : starEach [e, e2] X.env = [(false, eval e X.env), (false, eval e2 X.env)] := by rfl) (hs2 : starEach [e2] X.env = [(false, eval e2 X.env)] := by rfl) : SI X W tg (.Call (.Name "range" p) [e, e2] [] pos) (iRange2 f g) := by
  obtain ⟨t, p, s⟩ := h
  obtain ⟨u, q, r⟩ := h2
  refine ⟨_, pi_range2 hg hm (pa_cons p (pa_cons q pa_nil hs2) (by rw [hs, hs2])) hs hs2, fun σ H Z env R o e Q k => ?_⟩
  rcases obind_some e with ⟨ra, e1, h1, e⟩ | ⟨x, e1, h1, rfl⟩
  · refine s σ H Z env R _ h1 _ fun v H1 Z1 S1 i1 => ?_
    rcases obind_some e with ⟨rb, e2, h2, e⟩ | ⟨x, e2, h2, rfl⟩
    · refine r σ H1 Z1 e1 S1.rep _ h2 _ fun u H2 Z2 S2 i2 => ?_
      split at e
      · rename_i n m hn hm
        split at e
        · rename_i hb
          cases e
          exact ⟨n, m, by rw [(IsO.dq S2.rep (IsO.step S1.rep S2 i1) hn).int, (IsO.dq S2.rep i2 hm).int], hb, k _ H2 Z2 (S1.trans S2) (iterOk_ints n m)⟩
        · cases e
      · cases e
    · exact r σ H1 Z1 e1 S1.rep _ h2 _ fun c d H2 Z2 S2 i2 => k c d H2 Z2 (S1.trans S2) i2
  · exact s σ H Z env R _ h1 _ fun c d H1 Z1 S1 i1 => k c d H1 Z1 S1 i1
/-! for -/
def forL (tg : PyData → BE → Option BE) (g : M Flw) : List PyData → M Flw
  | [] => fun env => some (.ok .nx env)
  | d :: ds => fun env => match tg d env with
    | some e1 => (match g e1 with
      | some (.ok .nx e2) => forL tg g ds e2
      | some (.ok .ct e2) => forL tg g ds e2
      | some (.ok .bk e2) => some (.ok .nx e2)
      | o => o)
    | none => none
def gFor (fi : M (List PyData)) (tg : PyData → BE → Option BE) (g : M Flw) : M Flw := fun env => obind (fi env) fun items e1 => forL tg g items e1
theorem ss_for {pn : Nat} {ts : List Nat} {body : List Stmt} {fi : M (List PyData)} {h : PyData → BE → Option BE} {g : M Flw} (hc : X.calm = true) (hp : PassesOwn (model X.prog X.w) X.A X.env X.xe) (hn : ∀ j, j < pn → j ∉ ts) (hi : SI X W tg e fi) (hg : SG X tg ts h) (hb : SB X W pn body g)
    (hs : ∀ x, foldedSetIterable e X.env x = pure x := by intro _; rfl) : SS X W pn (.For tg e body [] pos) (gFor fi h g) := by
  obtain ⟨wi, pi, si⟩ := hi
  obtain ⟨tgt, pg, sg⟩ := hg
  obtain ⟨u, q, r⟩ := hb
  refine ⟨_, ps_for hp hc pi pg q hs, fun σ H Z env R o e D k => ?_⟩
  rcases obind_some e with ⟨items, e1, h1, e⟩ | ⟨x, e1, h1, rfl⟩
  · refine si σ H Z env R _ h1 _ fun J H1 Z1 S1 J1 => ?_
    refine ⟨fun i m σ2 H2 => ∃ Z2 env2, Step X.K σ env H Z σ2 env2 H2 Z2 ∧ Pin pn σ σ2 ∧ Le Z1 Z2 ∧ m + i = items.length ∧ forL h g (items.drop i) env2 = some o, ⟨items.length, Z1, e1, S1, Pin.refl, Le.refl _, rfl, e⟩, ?_⟩
    rintro i m σ2 H2 ⟨Z2, env2, S2, P2, l2, hm, e⟩
    obtain ⟨it1, it2⟩ := J1 H2 Z2 l2 S2.rep.zh
    by_cases hlt : i < items.length
    · have hd : items[i]? = some items[i] := List.getElem?_eq_getElem hlt
      rw [List.drop_eq_getElem_cons hlt] at e
      obtain ⟨go, yl⟩ := it1 i _ hd
      refine .inr ⟨go, fun σ' H' => ∃ m', m' < m ∧ ∃ Z2 env2, Step X.K σ env H Z σ' env2 H' Z2 ∧ Pin pn σ σ' ∧ Le Z1 Z2 ∧ m' + (i + 1) = items.length ∧ forL h g (items.drop (i + 1)) env2 = some o, fun σ' H' h => h, fun x H' y => ?_⟩
      obtain ⟨Z3, f3, l3, hx⟩ := yl x H' y
      have S3 := S2.rep.more f3 l3
      unfold forL at e
      split at e
      · rename_i e3 h3
        refine sg x _ σ2 H' Z3 env2 e3 S3.rep hx h3 _ fun σ4 S4 _ n4 => ?_
        have S24 := (S2.trans S3).trans S4
        have P4 : Pin pn σ σ4 := P2.trans fun j hj => n4 j (hn j hj)
        have l4 : Le Z1 Z3 := l2.trans (S3.leZ S2.rep)
        have nxt : ∀ e5, forL h g (items.drop (i + 1)) e5 = some o → ∀ σ' H' Z', Step X.K σ4 e3 H' Z3 σ' e5 H' Z' → True := fun _ _ _ _ _ _ => trivial
        split at e
        · rename_i e5 h5
          exact r σ4 H' Z3 e3 S4.rep _ h5 _ fun σ' H5 Z5 S5 P5 => ⟨m - 1, by omega, Z5, e5, S24.trans S5, P4.trans P5, l4.trans (S5.leZ S4.rep), by omega, e⟩
        · rename_i e5 h5
          exact r σ4 H' Z3 e3 S4.rep _ h5 _ fun σ' H5 Z5 S5 P5 => ⟨m - 1, by omega, Z5, e5, S24.trans S5, P4.trans P5, l4.trans (S5.leZ S4.rep), by omega, e⟩
        · rename_i e5 h5
          cases e
          exact r σ4 H' Z3 e3 S4.rep _ h5 _ fun σ' H5 Z5 S5 P5 => k σ' H5 Z5 (S24.trans S5) (P4.trans P5)
        · rename_i n1 n2 n3
          refine r σ4 H' Z3 e3 S4.rep _ e _ ?_
          have k' := k.next S24 P4
          cases o with
          | ok fl e2 =>
            cases fl with
            | nx => exact absurd e (n1 _)
            | bk => exact absurd e (n3 _)
            | ct => exact absurd e (n2 _)
            | rt r => exact k'
          | ex x e2 => exact k'
      · cases e
    · have e0 : i = items.length := by omega
      subst e0
      rw [List.drop_length] at e
      cases e
      exact .inl ⟨it2, k σ2 H2 Z2 S2 P2⟩
  · exact si σ H Z env R _ h1 _ fun c d H1 Z1 S1 i1 => k c d σ H1 Z1 S1 Pin.refl i1

/-! ### one reading for all contexts -/
def canE (K : Fg) (W : WX) (f : M Opd) : TE := fun σ H Q => ∃ Z env o, Rep K H Z σ env ∧ f env = some o ∧ PostE K W σ env H Z Q o
theorem SE.pe (h : SE X W e f) : PE X e (canE X.K W f) := by
  obtain ⟨t, p, s⟩ := h
  exact ⟨fun pins st σ H Q I ⟨Z, env, o, R, e, k⟩ => p.run pins st σ H Q I (s σ H Z env R o e Q k)⟩
def canT (K : Fg) (W : WX) (f : M Bool) : TT := fun σ H Q => ∃ Z env o, Rep K H Z σ env ∧ f env = some o ∧ PostT K W σ env H Z Q o
theorem ST.pt {f : M Bool} (h : ST X W e f) : PT X e (canT X.K W f) := by
  obtain ⟨t, p, s⟩ := h
  exact ⟨fun pins st σ H Q I ⟨Z, env, o, R, e, k⟩ => p.run pins st σ H Q I (s σ H Z env R o e Q k)⟩
def canG (K : Fg) (ts : List Nat) (f : PyData → BE → Option BE) : TG := fun v σ H Q => ∃ Z env env' d, Rep K H Z σ env ∧ Dt K Z v d ∧ f d env = some env' ∧ ∀ σ', Step K σ env H Z σ' env' H Z → σ'.length = σ.length → (∀ j, j ∉ ts → σ'[j]? = σ[j]?) → Q σ' H
theorem SG.pg {ts : List Nat} {f : PyData → BE → Option BE} (h : SG X tg ts f) : PG X tg (canG X.K ts f) := by
  obtain ⟨t, p, s⟩ := h
  exact ⟨fun pins st σ H v u Q I r ⟨Z, env, env', d, R, hd, e, k⟩ => p.run pins st σ H v u Q I r (s v d σ H Z env env' R hd e Q k)⟩
def canS (K : Fg) (W : WX) (pn : Nat) (f : M Flw) : TS := fun D σ H => ∃ Z env o, Rep K H Z σ env ∧ f env = some o ∧ PostS K W pn σ env H Z D o
theorem SB.ps {pn : Nat} {b : List Stmt} {f : M Flw} (h : SB X W pn b f) : PSs X b (canS X.K W pn f) := by
  obtain ⟨t, p, s⟩ := h
  exact ⟨fun pins st σ H D I ⟨Z, env, o, R, e, k⟩ => p.run pins st σ H D I (s σ H Z env R o e D k)⟩

/-! ### comprehensions -/
def wipeB (env : BE) : List Nat → BE
  | [] => env
  | v :: vs => (wipeB env vs).set v none
/-- the slots at vs as ahead -/
def backB (env0 env : BE) : List Nat → BE
  | [] => env
  | v :: vs => (backB env0 env vs).set v (match env0[v]? with | some s => s | none => none)
def noOwn (env : BE) (vs : List Nat) : Bool := vs.all fun v => !isOwn env v
def W0 : WX := fun _ _ _ _ => False
def lcF (vs : List Nat) (tg : PyData → BE → Option BE) (ft : M Bool) (fe : M Opd) : List PyData → BE → List PyData → Option (List PyData × BE)
  | [], env, acc => some (acc, env)
  | d :: ds, env, acc => match tg d env with
    | some e1 => (match ft e1 with
      | some (.ok true e2) => (match fe e2 with
        | some (.ok r e3) => (match r.fr e3 with
          | some (y, e4) => if small acc.length then lcF vs tg ft fe ds (wipeB e4 vs) (acc ++ [y]) else none
          | none => none)
        | _ => none)
      | some (.ok false e2) => lcF vs tg ft fe ds (wipeB e2 vs) acc
      | _ => none)
    | none => none
def fLc (vs : List Nat) (fi : M (List PyData)) (tg : PyData → BE → Option BE) (ft : M Bool) (fe : M Opd) : M Opd := fun env => obind (fi env) fun items e1 => if noOwn e1 vs then (match lcF vs tg ft fe items (wipeB e1 vs) [] with
  | some (ds, e2) => some (.ok (.val (.new ds)) (backB e1 e2 vs))
  | none => none) else none
end
theorem wipeB_out {env : BE} {i : Nat} : ∀ {vs : List Nat}, i ∉ vs → (wipeB env vs)[i]? = env[i]?
  | [], _ => rfl
  | v :: vs, h => by
    unfold wipeB
    rw [List.getElem?_set_ne fun e => h (by simp [e])]
    exact wipeB_out fun m => h (List.mem_cons_of_mem _ m)
theorem wipeB_len (env : BE) : ∀ vs : List Nat, (wipeB env vs).length = env.length
  | [] => rfl
  | v :: vs => by unfold wipeB; rw [List.length_set, wipeB_len env vs]
theorem wipeB_some {env : BE} {i : Nat} {s : Sl} : ∀ {vs : List Nat}, (wipeB env vs)[i]? = some (some s) → env[i]? = some (some s) ∧ i ∉ vs
  | [], h => ⟨h, by simp⟩
  | v :: vs, h => by
    unfold wipeB at h
    by_cases hi : v = i
    · subst hi
      rw [List.getElem?_set] at h
      simp at h
    · rw [List.getElem?_set_ne hi] at h
      obtain ⟨h1, h2⟩ := wipeB_some h
      exact ⟨h1, by simp only [List.mem_cons, not_or]; exact ⟨fun e => hi e.symm, h2⟩⟩
theorem backB_len (e0 env : BE) : ∀ vs : List Nat, (backB e0 env vs).length = env.length
  | [] => rfl
  | v :: vs => by unfold backB; rw [List.length_set, backB_len e0 env vs]
theorem backB_out {e0 env : BE} {i : Nat} : ∀ {vs : List Nat}, i ∉ vs → (backB e0 env vs)[i]? = env[i]?
  | [], _ => rfl
  | v :: vs, h => by
    unfold backB
    rw [List.getElem?_set_ne fun e => h (by simp [e])]
    exact backB_out fun m => h (List.mem_cons_of_mem _ m)
theorem backB_in {e0 env : BE} {i : Nat} {s : Sl} (hl : e0.length = env.length) : ∀ {vs : List Nat}, i ∈ vs → (backB e0 env vs)[i]? = some (some s) → e0[i]? = some (some s)
  | [], m, _ => by simp at m
  | v :: vs, m, h => by
    unfold backB at h
    by_cases hi : v = i
    · subst hi
      rw [List.getElem?_set] at h
      simp only [if_true] at h
      split at h
      · cases hh : e0[v]? with
        | none => rw [hh] at h; cases h
        | some o => rw [hh] at h; cases h; rfl
      · cases h
    · rw [List.getElem?_set_ne hi] at h
      exact backB_in hl ((List.mem_cons.mp m).resolve_left fun e => hi e.symm) h
theorem noOwn_at {env : BE} {vs : List Nat} (h : noOwn env vs = true) {i : Nat} {ds : List PyData} (m : i ∈ vs) : env[i]? ≠ some (some (.own ds)) := fun e => by
  have z := (List.all_eq_true.mp h) i m
  unfold isOwn at z
  rw [e] at z
  cases z
section
variable {K : Fg} {H Z H0 Z0 : Hp} {σ σ' : St} {env env0 : BE} {vs : List Nat}
theorem Rep.wiped (R : Rep K H Z σ env) : Rep K H Z (wipe σ vs) (wipeB env vs) ∧ ∀ a, Own (wipeB env vs) (wipe σ vs) a → Own env σ a := by
  refine ⟨⟨R.zh, by rw [wipe_length, wipeB_len]; exact R.len, fun i d e => ?_, fun i ds e => ?_, fun i j ds es p e1 e2 q1 q2 => ?_⟩, fun a ⟨i, ds, e, q⟩ => ⟨i, ds, (wipeB_some e).1, (wipe_some q).1⟩⟩
  · obtain ⟨e, n⟩ := wipeB_some e
    rw [wipe_out n]
    exact R.imm i d e
  · obtain ⟨e, n⟩ := wipeB_some e
    rw [wipe_out n]
    exact R.own i ds e
  · exact R.inj i j ds es p (wipeB_some e1).1 (wipeB_some e2).1 (wipe_some q1).1 (wipe_some q2).1
theorem Step.wiped (S : Step K σ env0 H0 Z0 σ' env H Z) : Step K σ env0 H0 Z0 (wipe σ' vs) (wipeB env vs) H Z :=
  ⟨S.rep.wiped.1, S.fr, fun a o => S.le a (S.rep.wiped.2 a o), S.tr⟩
/-- behind a comprehension: the frame's own slots again -/
theorem Step.unwiped {e1 : BE} (R1 : Rep K H0 Z0 σ e1) (hn : noOwn e1 vs = true) (S : Step K (wipe σ vs) (wipeB e1 vs) H0 Z0 (wipe σ vs) env H Z) : Step K σ e1 H0 Z0 σ (backB e1 env vs) H Z := by
  have fr : ∀ a o, H0 a = some o → ¬ Own e1 σ a → H a = some o ∧ Z a = Z0 a := fun a o h n => S.fr a o h fun q => n (R1.wiped.2 a q)
  have lz : Le Z0 Z := S.leZ R1.wiped.1
  have hl : e1.length = env.length := by
    have h1 := S.rep.len
    rw [wipe_length] at h1
    exact R1.len.symm.trans h1
  have out : ∀ {i : Nat} {ds : List PyData}, (backB e1 env vs)[i]? = some (some (.own ds)) → i ∉ vs ∧ env[i]? = some (some (.own ds)) := fun {i ds} e => by
    by_cases m : i ∈ vs
    · exact absurd (backB_in hl m e) (noOwn_at hn m)
    · rw [backB_out m] at e
      exact ⟨m, e⟩
  have own' : ∀ a, Own (backB e1 env vs) σ a → Own env (wipe σ vs) a := fun a ⟨i, ds, e, q⟩ => by
    obtain ⟨m, e⟩ := out e
    exact ⟨i, ds, e, by rw [wipe_out m]; exact q⟩
  refine ⟨⟨S.rep.zh, by rw [backB_len, ← hl]; exact R1.len, fun i d e => ?_, fun i ds e => ?_, fun i j ds es p e1' e2' q1 q2 => ?_⟩, fr, fun a o => (S.le a (own' a o)).imp (fun q => R1.wiped.2 a q) id, S.tr⟩
  · by_cases m : i ∈ vs
    · obtain ⟨v, h1, h2⟩ := R1.imm i d (backB_in hl m e)
      exact ⟨v, h1, lz.dp _ _ h2⟩
    · rw [backB_out m] at e
      have z := S.rep.imm i d e
      rwa [wipe_out m] at z
  · obtain ⟨m, e⟩ := out e
    have z := S.rep.own i ds e
    rwa [wipe_out m] at z
  · obtain ⟨m1, e1'⟩ := out e1'
    obtain ⟨m2, e2'⟩ := out e2'
    exact S.rep.inj i j ds es p e1' e2' (by rw [wipe_out m1]; exact q1) (by rw [wipe_out m2]; exact q2)
end
theorem wipe_same {σ σ' : St} {ts vs : List Nat} (hl : σ'.length = σ.length) (h : ∀ j, j ∉ ts → σ'[j]? = (wipe σ vs)[j]?) (hs : ∀ j ∈ ts, j ∈ vs) : wipe σ' vs = wipe σ vs := by
  apply List.ext_getElem?
  intro i
  have key : ∀ (τ : St) (ws : List Nat), i ∈ ws → (wipe τ ws)[i]? = if i < τ.length then some none else none := by
    intro τ ws
    induction ws with
    | nil => intro m; simp at m
    | cons w ws ih =>
      intro m
      unfold wipe
      by_cases hw : w = i
      · subst hw
        rw [List.getElem?_set]
        simp [wipe_length]
      · rw [List.getElem?_set_ne hw]
        exact ih ((List.mem_cons.mp m).resolve_left fun e => hw e.symm)
  by_cases m : i ∈ vs
  · rw [key _ _ m, key _ _ m, hl]
  · rw [wipe_out m, h i fun z => m (hs i z)]
section
variable {X : Cx} {W : WX} {pos : Pos}
/-- the core of a comprehension -/
theorem lc_sim {wi : TI} {fi : M (List PyData)} {ts vs : List Nat} {h : PyData → BE → Option BE} {ft : M Bool} {fe : M Opd} (hs : ∀ j ∈ ts, j ∈ vs)
    (si : ∀ σ H Z env, Rep X.K H Z σ env → ∀ o, fi env = some o → ∀ R, PostI X.K W σ env H Z R o → wi σ H R) :
    ∀ σ H Z env, Rep X.K H Z σ env → ∀ o, fLc vs fi h ft fe env = some o → ∀ Q : VK, PostE X.K W σ env H Z Q o → tLc wi (canG X.K ts h) (canT X.K W0 ft) (canE X.K W0 fe) vs σ H Q := by
  intro σ H Z env R o e Q k
  rcases obind_some e with ⟨items, e1, h1, e⟩ | ⟨x, e1, h1, rfl⟩
  · refine si σ H Z env R _ h1 _ fun J H1 Z1 S1 J1 => ?_
    split at e
    · rename_i hno
      split at e
      · rename_i ds e9 h9
        cases e
        intro D hD
        have hzD := le_none S1.rep.zh hD
        -- at each turn: the state from the start of the block on, the list so far
        refine ⟨fun i m H2 => ∃ Z2 env2 acc acd, Step X.K (wipe σ vs) (wipeB e1 vs) H1 Z1 (wipe σ vs) env2 H2 Z2 ∧ Le Z1 Z2 ∧ H2 D = some (.lst acc) ∧ Z2 D = none ∧ ¬ Own env2 (wipe σ vs) D ∧ DtAll X.K Z2 acc acd ∧ m + i = items.length ∧ lcF vs h ft fe (items.drop i) env2 acd = some (ds, e9),
          ⟨items.length, Z1, wipeB e1 vs, [], [], ?_, Le.refl _, upd_same, hzD, fresh_own S1.rep.wiped.1 hD, .nil, rfl, h9⟩, ?_⟩
        · obtain ⟨n1, n2⟩ := new_fr (Z := Z1) (.lst []) hD S1.rep.zh
          exact S1.rep.wiped.1.more n1 n2
        rintro i m H2 ⟨Z2, env2, acc, acd, S2, l2, hD2, zD2, nD2, ha2, hm, e⟩
        obtain ⟨it1, it2⟩ := J1 H2 Z2 l2 S2.rep.zh
        by_cases hlt : i < items.length
        · have hd : items[i]? = some items[i] := List.getElem?_eq_getElem hlt
          rw [List.drop_eq_getElem_cons hlt] at e
          obtain ⟨go, yl⟩ := it1 i _ hd
          refine .inr ⟨go, fun H' => ∃ m', m' < m ∧ ∃ Z2 env2 acc acd, Step X.K (wipe σ vs) (wipeB e1 vs) H1 Z1 (wipe σ vs) env2 H' Z2 ∧ Le Z1 Z2 ∧ H' D = some (.lst acc) ∧ Z2 D = none ∧ ¬ Own env2 (wipe σ vs) D ∧ DtAll X.K Z2 acc acd ∧ m' + (i + 1) = items.length ∧ lcF vs h ft fe (items.drop (i + 1)) env2 acd = some (ds, e9), fun H' h => h, fun x H3 y => ?_⟩
          obtain ⟨Z3, f3, l3, hx⟩ := yl x H3 y
          have S3 := S2.rep.more f3 l3
          unfold lcF at e
          split at e
          · rename_i e3 h3
            refine ⟨Z3, env2, e3, _, S3.rep, hx, h3, fun σ4 S4 c4 n4 => ?_⟩
            have hw : wipe σ4 vs = wipe σ vs := wipe_same (by rw [c4, wipe_length]) n4 hs
            refine ⟨hw, ?_⟩
            have S34 := S3.trans S4
            -- D from here on: tracked, no slot's own
            have keepD : ∀ {env' H' Z'}, Step X.K (wipe σ vs) env2 H2 Z2 σ4 env' H' Z' → H' D = some (.lst acc) ∧ Z' D = none ∧ ¬ Own env' σ4 D := fun S => by
              obtain ⟨a, b⟩ := S.fr D _ hD2 nD2
              exact ⟨a, by rw [b]; exact zD2, fun q => (S.le D q).elim nD2 fun z => by rw [hD2] at z; cases z⟩
            split at e
            · rename_i e4 h4
              refine ⟨Z3, e3, _, S4.rep, h4, fun H5 Z5 S5 => ?_⟩
              refine iteT ?_
              split at e
              · rename_i r e5 h5
                refine ⟨Z5, e4, _, S5.rep, h5, fun v H6 Z6 S6 i6 => ?_⟩
                split at e
                · rename_i yd e6 h6
                  split at e
                  · rename_i hsm
                    obtain ⟨Z7, S7, hd7⟩ := fr_ok S6 i6 h6
                    have S27 := (S34.trans S5).trans S7
                    obtain ⟨k1, k2, k3⟩ := keepD S27
                    refine ⟨acc, k1, by rw [ha2.len]; exact small_lt hsm, m - 1, by omega, Z7, wipeB e6 vs, acc ++ [v], acd ++ [yd], ?_, l2.trans (S27.leZ S2.rep), upd_same, k2, fun q => k3 (S27.rep.wiped.2 D (by rw [hw]; exact q)), ((S27.leZ S2.rep).dpAll _ _ ha2).append (.cons hd7 .nil), by omega, e⟩
                    -- the new list has one item more
                    have S17 := (S2.trans S27).wiped (vs := vs)
                    rw [hw] at S17
                    have nD7 : ¬ Own (wipeB e6 vs) (wipe σ vs) D := fun q => k3 (S27.rep.wiped.2 D (by rw [hw]; exact q))
                    obtain ⟨fr, l⟩ := upd_fr (o := .lst (acc ++ [v])) S17.rep.zh k2
                    refine ⟨⟨l, S17.rep.len, S17.rep.imm, fun j es ej => ?_, S17.rep.inj⟩, fun a o ha na => ?_, S17.le, fun a o ha => ?_⟩
                    · obtain ⟨q, zs, a1, a2, a3, a4⟩ := S17.rep.own j es ej
                      exact ⟨q, zs, a1, a2, by rw [upd_ne fun z => nD7 (by rw [← z]; exact ⟨j, es, ej, a1⟩)]; exact a3, a4⟩
                    · obtain ⟨b1, b2⟩ := S17.fr a o ha na
                      exact ⟨by rw [upd_ne (ne_of_none ha hD)]; exact b1, b2⟩
                    · obtain ⟨o', ho'⟩ := S17.tr a o ha
                      exact ⟨o', by rw [upd_ne (ne_of_none ha hD)]; exact ho'⟩
                  · cases e
                · cases e
              · cases e
            · rename_i e4 h4
              refine ⟨Z3, e3, _, S4.rep, h4, fun H5 Z5 S5 => ?_⟩
              have S25 := S34.trans S5
              obtain ⟨k1, k2, k3⟩ := keepD S25
              have S15 := (S2.trans S25).wiped (vs := vs)
              rw [hw] at S15
              exact iteF ⟨m - 1, by omega, Z5, wipeB e4 vs, acc, acd, S15, l2.trans (S25.leZ S2.rep), k1, k2, fun q => k3 (S25.rep.wiped.2 D (by rw [hw]; exact q)), (S25.leZ S2.rep).dpAll _ _ ha2, by omega, e⟩
            · cases e
          · cases e
        · have e0 : i = items.length := by omega
          subst e0
          rw [List.drop_length] at e
          cases e
          have Su := Step.unwiped S1.rep hno S2
          refine .inl ⟨it2, k _ H2 Z2 (S1.trans Su) ⟨D, acc, rfl, hD2, zD2, ha2, fun q => ?_, S1.fresh hD⟩⟩
          rcases Su.le D q with z | z
          · exact fresh_own S1.rep hD z
          · -- own behind: then own within the block
            obtain ⟨j, es, ej, qj⟩ := q
            by_cases mj : j ∈ vs
            · have hl : e1.length = e9.length := by
                have a := S2.rep.len
                rw [wipe_length] at a
                exact S1.rep.len.symm.trans a
              exact noOwn_at hno mj (backB_in hl mj ej)
            · rw [backB_out mj] at ej
              exact nD2 ⟨j, es, ej, by rw [wipe_out mj]; exact qj⟩
      · cases e
    · cases e
  · exact si σ H Z env R _ h1 _ fun c d H1 Z1 S1 i1 => k c d H1 Z1 S1 i1
end
end BV

namespace BV
open PySem PySem.Spec L2
open PyProof.Rows hiding St

section
variable {X : Cx} {W : WX} {pos : Pos} {pn : Nat}
/-! ### comprehensions, raise, try -/
/-- the tests of a comprehension: none, one -/
def STs (X : Cx) (ifs : List Expr) (f : M Bool) : Prop := PTs X ifs (canT X.K W0 f)
def fYes : M Bool := fun env => some (.ok true env)
theorem sts_nil : STs X [] fYes := ⟨fun pins s σ H Q I ⟨Z, env, o, R, e, k⟩ => by
  cases e
  exact (pts_nil (X := X)).run pins s σ H Q I (k H Z (Step.refl R))⟩
theorem sts_one {c : Expr} {f : M Bool} (h : ST X W0 c f) : STs X [c] f := pts_one h.pt
theorem se_lc {tg iter elt : Expr} {ifs : List Expr} {scope : Scope} {fi : M (List PyData)} {ts : List Nat} {h : PyData → BE → Option BE} {ft : M Bool} {fe : M Opd} (own : List (Str × Nat)) (hc : X.calm = true) (hN : X.N.Nodup) (hi : SI X W tg iter fi) (hs : ∀ j ∈ ts, j ∈ own.map (·.2)) (ok : BlkOk X.N X.env.scope scope own)
    (hg : ∀ (s : Shared) (H : Hp) (C : Addr) (cl : List (Str × Addr)) (fp : List Addr), SG (X.blk s H scope (compEnvC scope cl C X.env) fp) tg ts h)
    (ht : ∀ (s : Shared) (H : Hp) (C : Addr) (cl : List (Str × Addr)) (fp : List Addr), STs (X.blk s H scope (compEnvC scope cl C X.env) fp) ifs ft)
    (he : ∀ (s : Shared) (H : Hp) (C : Addr) (cl : List (Str × Addr)) (fp : List Addr), SE (X.blk s H scope (compEnvC scope cl C X.env) fp) W0 elt fe)
    (hf : ∀ x, foldedSetIterable iter X.env x = pure x := by intro _; rfl) : SE X W (.ListComp elt [⟨tg, iter, ifs, 0⟩] scope pos) (fLc (own.map (·.2)) fi h ft fe) := by
  obtain ⟨wi, pi, si⟩ := hi
  exact ⟨_, pe_lc (g := canG X.K ts h) (tt := canT X.K W0 ft) (te := canE X.K W0 fe) hc hN pi ok (fun s H C cl fp => (hg s H C cl fp).pg) (fun s H C cl fp => ht s H C cl fp) (fun s H C cl fp => (he s H C cl fp).pe) hf, lc_sim hs si⟩
theorem ss_setLc (i : Nat) {y : Str} {py spos : Pos} {tg iter elt : Expr} {ifs : List Expr} {scope : Scope} {fi : M (List PyData)} {ts : List Nat} {h : PyData → BE → Option BE} {ft : M Bool} {fe : M Opd} (own : List (Str × Nat)) (hp : pn ≤ i) (hc : X.calm = true) (hN : X.N.Nodup) (hi : SI X W tg iter fi) (hs : ∀ j ∈ ts, j ∈ own.map (·.2)) (ok : BlkOk X.N X.env.scope scope own)
    (hg : ∀ (s : Shared) (H : Hp) (C : Addr) (cl : List (Str × Addr)) (fp : List Addr), SG (X.blk s H scope (compEnvC scope cl C X.env) fp) tg ts h)
    (ht : ∀ (s : Shared) (H : Hp) (C : Addr) (cl : List (Str × Addr)) (fp : List Addr), STs (X.blk s H scope (compEnvC scope cl C X.env) fp) ifs ft)
    (he : ∀ (s : Shared) (H : Hp) (C : Addr) (cl : List (Str × Addr)) (fp : List Addr), SE (X.blk s H scope (compEnvC scope cl C X.env) fp) W0 elt fe)
    (hsw : swapsWith (.ListComp elt [⟨tg, iter, ifs, 0⟩] scope pos) (some (.Name y py)) spos.line X.env = pure true)
    (hy : X.N[i]? = some y := by rfl) (hyl : X.env.scope.names.lookup y = some .local := by rfl)
    (hf : ∀ x, foldedSetIterable iter X.env x = pure x := by intro _; rfl) : SS X W pn (.Assign [.Name y py] (.ListComp elt [⟨tg, iter, ifs, 0⟩] scope pos) spos) (gSet i (fLc (own.map (·.2)) fi h ft fe)) := by
  obtain ⟨wi, pi, si⟩ := hi
  refine ⟨_, ps_setLc (g := canG X.K ts h) (tt := canT X.K W0 ft) (te := canE X.K W0 fe) hc hN hy hyl hsw pi ok (fun s H C cl fp => (hg s H C cl fp).pg) (fun s H C cl fp => ht s H C cl fp) (fun s H C cl fp => (he s H C cl fp).pe) hf, fun σ H Z env R o e D k => ?_⟩
  have sim := lc_sim (X := X) (W := W) (ft := ft) (fe := fe) (h := h) hs si
  rcases obind_some e with ⟨r, e1, h1, e⟩ | ⟨x, e1, h1, rfl⟩
  · refine sim σ H Z env R _ h1 _ fun v H1 Z1 S1 i1 => ?_
    split at e
    · rename_i e2 h2
      cases e
      obtain ⟨Z2, S2⟩ := putO_ok S1 i1 h2
      exact k _ H1 Z2 S2 (Pin.set hp)
    · cases e
  · exact sim σ H Z env R _ h1 _ fun c d H1 Z1 S1 i1 => k c d σ H1 Z1 S1 Pin.refl i1
/-- raise C('..'), an own class without fields -/
def gRaise (c : Str) : M Flw := fun env => some (.ex ⟨c, none⟩ env)
theorem ss_raise {C : Addr} {bmB : List Value} {B newId initId : String} {x m : Str} {j : Nat} {p p2 pos2 : Pos} (hc : X.calm = true) (tk : Takes X W) (F : ExcBaseFacts B newId initId bmB) (q : PySem.W.excIn X.K C bmB newId = true) (gC : X.mg x = some (.ref C)) (nC : PySem.W.nsIn X.K mainGlobals x = some (some (.ref C))) (kC : PySem.W.keepIn X.K (.ref C) = true) (r : Raises X (.ref C)) (hg : Gl X x := by rfl)
    (hdb : (x == ("__debug__" : Str)) = false := by decide) : SS X W pn (.Raise (some (.Call (.Name x p) [.Constant (.str m) j p2] [] pos2)) none pos) (gRaise x) := by
  refine ⟨_, ps_raise hc tk (pmk_own F q gC kC r hg hdb), fun σ H Z env R o e D k => ?_⟩
  cases e
  exact k _ none σ H Z (Step.refl R) Pin.refl ⟨nC, rfl⟩
/-- try: .. except x: suite -/
def gTry (mt : Str → Option Bool) (g s : M Flw) : M Flw := fun env => match g env with
  | some (.ex x e1) => (match mt x.cls with
    | some true => (match s e1 with
      | some (.ok f e2) => some (.ok f e2)
      | _ => none)
    | some false => some (.ex x e1)
    | none => none)
  | o => o
theorem ss_try {x : Str} {c : Value} {body suite : List Stmt} {b₀ : Stmt} {np pos' : Pos} {g s : M Flw} {mt : Str → Option Bool} (hs : X.stack = X.env :: X.outer) (hf : X.env.frame = some X.env.locals) (hc : Names X x c) (tk : Takes X W)
    (hm : ∀ n a b, mt n = some b → PySem.W.nsIn X.K mainGlobals n = some (some a) → PySem.W.exmOne X.K a c = some b)
    (hb : ∀ (W' : WX) (pn' : List (Addr × Obj)) (xe : Value → Shared → Prop), Takes (X.tr pn' xe) W' → PassesOwn (model X.prog X.w) X.A X.env xe → SB (X.tr pn' xe) W' pn body g)
    (hsu : ∀ (a : Addr) (oe : Obj) (cls : Value) (d : Option Addr) (pn' : List (Addr × Obj)), Zc cls d oe → (∃ vs, oe.data = .fields vs) → SB (X.suite a ((a, oe) :: pn')) W0 pn (b₀ :: suite) s) :
    SS X W pn (.Try body [.ExceptHandler (some (.Name x np)) none (b₀ :: suite) pos'] [] [] pos) (gTry mt g s) := by
  refine ⟨_, ps_try_only (tb := fun W' => canS X.K W' pn g) (ts := fun _ _ _ => canS X.K W0 pn s) (Wout := W) hs hf hc tk (fun W' pn' xe t p => (hb W' pn' xe t p).ps) (fun a oe cls d pn' h1 h2 => (hsu a oe cls d pn' h1 h2).ps), fun σ H Z env R o e D k => ?_⟩
  unfold gTry at e
  split at e
  · rename_i ex e1 h1
    refine ⟨Z, env, _, R, h1, fun cc dd σ' H' Z' S P ix => ?_⟩
    obtain ⟨ec, ed⟩ := ix
    split at e
    · rename_i h2
      split at e
      · rename_i fl e2 h3
        cases e
        have k' := k.next S P
        refine ⟨true, hm _ _ _ h2 ec, fun _ a ha => ⟨Z', e1, _, S.rep, h3, ?_⟩, (fun z => by cases z)⟩
        cases fl <;> exact k'
      · cases e
    · rename_i h2
      cases e
      exact ⟨false, hm _ _ _ h2 ec, (fun z => by cases z), fun _ => k cc dd σ' H' Z' S P ⟨ec, ed⟩⟩
    · cases e
  · rename_i hn
    refine ⟨Z, env, o, R, e, ?_⟩
    cases o with
    | ok fl e2 => cases fl <;> exact k
    | ex x2 e2 => exact absurd e (hn _ _)
/-! ### a def -/
/-- the slots at a call: the arguments, then nothing -/
def envP (n : Nat) (ds : List PyData) : BE := ds.map (fun d => some (.imm d)) ++ List.replicate (n - ds.length) none
def envM (n : Nat) (d0 ds : List PyData) : BE := some (.own d0) :: (ds.map (fun d => some (.imm d)) ++ List.replicate (n - (ds.length + 1)) none)
/-- an answer out of a def -/
def resO (pn : Nat) (r : Opd) (env : BE) : Option Val := match r with
  | .val v => some v
  | .slot i => match env[i]? with
    | some (some (.imm d)) => some (.imm d)
    | some (some (.own ds)) => if pn ≤ i then some (.new ds) else none
    | _ => none
def runP (n : Nat) (g : M Flw) (ds : List PyData) : Option Res := match g (envP n ds) with
  | some (.ok (.rt r) e) => (resO 0 r e).map .ok
  | some (.ok .nx _) => some (.ok (.imm .none))
  | some (.ex x _) => some (.error x)
  | _ => none
def own0 (env : BE) : Option (List PyData) := match env[0]? with
  | some (some (Sl.own d1)) => some d1
  | _ => none
def runM (n : Nat) (g : M Flw) (d0 ds : List PyData) : Option (Res × List PyData) := match g (envM n d0 ds) with
  | some (.ok (.rt r) e) => (match resO 1 r e, own0 e with
    | some v, some d1 => some (.ok v, d1)
    | _, _ => none)
  | some (.ok .nx e) => (own0 e).map fun d1 => (.ok (.imm .none), d1)
  | some (.ex x e) => (own0 e).map fun d1 => (.error x, d1)
  | _ => none
end
section
variable {K : Fg} {H Z H' Z' : Hp} {σ σ' : St} {env env' : BE} {vs ws xs : List V} {ds d0 : List PyData} {n : Nat} {p : Addr}
theorem map_get {v : V} {vs : List V} {n i : Nat} : (vs.map some ++ List.replicate n none)[i]? = some (some v) ↔ vs[i]? = some v := by
  by_cases h : i < vs.length
  · rw [List.getElem?_append_left (by simpa using h), List.getElem?_map]
    cases vs[i]? <;> simp
  · rw [List.getElem?_append_right (by simpa using h), List.getElem?_eq_none (l := vs) (by omega)]
    by_cases h2 : i - (vs.map some).length < n
    · rw [List.getElem?_replicate, if_pos h2]
      simp
    · rw [List.getElem?_replicate, if_neg h2]
      simp
theorem env_get {s : Sl} {ds : List PyData} {n i : Nat} : (ds.map (fun d => some (Sl.imm d)) ++ List.replicate n none)[i]? = some (some s) ↔ ∃ d, ds[i]? = some d ∧ s = .imm d := by
  by_cases h : i < ds.length
  · rw [List.getElem?_append_left (by simpa using h), List.getElem?_map, List.getElem?_eq_getElem h]
    simp [eq_comm]
  · rw [List.getElem?_append_right (by simpa using h), List.getElem?_eq_none (l := ds) (by omega)]
    by_cases h2 : i - (ds.map fun d => some (Sl.imm d)).length < n
    · rw [List.getElem?_replicate, if_pos h2]
      simp
    · rw [List.getElem?_replicate, if_neg h2]
      simp
theorem rep_P {N : List Str} (l : Le Z H) (h : DtAll K Z vs ds) : Rep K H Z (start N vs) (envP N.length ds) := by
  have hl := h.len
  have noown : ∀ (i : Nat) es, (envP N.length ds)[i]? ≠ some (some (.own es)) := fun i es e => by
    obtain ⟨d, _, e2⟩ := env_get.mp e
    cases e2
  refine ⟨l, by simp [L2.start, envP, hl], fun i d e => ?_, fun i es e => (noown i es e).elim, fun i j es es' q e => (noown i es e).elim⟩
  obtain ⟨d', e1, e2⟩ := env_get.mp e
  cases e2
  obtain ⟨v, hv, hd⟩ := h.get e1
  exact ⟨v, map_get.mpr hv, hd⟩
theorem rep_M {N : List Str} (hn : 0 < N.length) (l : Le Z H) (hp : H p = some (.lst xs)) (hz : Z p = none) (hx : DtAll K Z xs d0) (h : DtAll K Z ws ds) : Rep K H Z (start N (.ref p :: ws)) (envM N.length d0 ds) := by
  have hl := h.len
  have e0 : (envM N.length d0 ds) = some (.own d0) :: (ds.map (fun d => some (Sl.imm d)) ++ List.replicate (N.length - (ds.length + 1)) none) := rfl
  have s0 : start N (.ref p :: ws) = some (.ref p) :: (ws.map some ++ List.replicate (N.length - (ws.length + 1)) none) := rfl
  rw [e0, s0]
  have noown : ∀ (i : Nat) es, (some (Sl.own d0) :: (ds.map (fun d => some (Sl.imm d)) ++ List.replicate (N.length - (ds.length + 1)) none))[i]? = some (some (.own es)) → i = 0 ∧ es = d0 := fun i es e => by
    cases i with
    | zero => cases e; exact ⟨rfl, rfl⟩
    | succ i =>
      obtain ⟨d, _, e2⟩ := env_get.mp (show (ds.map (fun d => some (Sl.imm d)) ++ List.replicate (N.length - (ds.length + 1)) none)[i]? = some (some (.own es)) from e)
      cases e2
  refine ⟨l, by simp [hl], fun i d e => ?_, fun i es e => ?_, fun i j es es' q e e' _ _ => (noown i es e).1.trans (noown j es' e').1.symm⟩
  · cases i with
    | zero => cases e
    | succ i =>
      obtain ⟨d', e1, e2⟩ := env_get.mp (show (ds.map (fun d => some (Sl.imm d)) ++ List.replicate (N.length - (ds.length + 1)) none)[i]? = some (some (.imm d)) from e)
      cases e2
      obtain ⟨v, hv, hd⟩ := h.get e1
      exact ⟨v, map_get.mpr hv, hd⟩
  · obtain ⟨rfl, rfl⟩ := noown i es e
    exact ⟨p, xs, rfl, hz, hp, hx⟩
end
section
variable {P : Program} {w : World} {K : Fg} {mg : Str → Option Value} {base : Heap}
/-- what a body may lean on: nothing is handled, room, what leaves it -/
structure BodyOk (X : Cx) (W : WX) (k : Nat) : Prop where
  calm : X.calm = true
  room : Room k X.A
  pass : PassesOwn (model X.prog X.w) X.A X.env X.xe
  tk : Takes X W
theorem fn_P {x qual : Str} {st : Stmt} {f : Addr} {fd : FuncData} {N ps : List Str} {k : Nat} {g : M Flw} (G : List PyData → Option Res) (F : Fun K x qual st f fd) (S : FnScope N ps (defScope st)) (hG : ∀ ds o, G ds = some o → ds.length = ps.length ∧ runP N.length g ds = some o)
    (body : ∀ (cdv : Value) (A : Around) (outer : List Env) (s : Shared) (H : Hp) (E : XK), BodyOk (cxOf (L2.CX P w) P w K mg base N qual (defScope st) f cdv A outer s H E) (fun c d _ H' => E c d H') k →
      SB (cxOf (L2.CX P w) P w K mg base N qual (defScope st) f cdv A outer s H E) (fun c d _ H' => E c d H') 0 (defBody st) g) : FnOk P w K mg base (L2.CX P w) (k + 1) f fd ps (spP K G) := by
  refine F.okX S (fun vs H Q E h => ?_) (fun cdv A outer s H vs Q E hr h => ?_)
  · obtain ⟨Z, ds, o, l, hd, e, _⟩ := h
    rw [hd.len]
    exact (hG ds o e).1
  · obtain ⟨Z, ds, o, l, hd, e, q⟩ := h
    have e := (hG ds o e).2
    have B := body cdv A outer s H E ⟨rfl, hr, passes_of rfl, takes_of rfl rfl rfl rfl⟩
    obtain ⟨t, p, sim⟩ := B
    refine ⟨t, p, ?_⟩
    have R : Rep K H Z (start N vs) (envP N.length ds) := rep_P l hd
    have fr : ∀ {σ' env' H' Z'}, Step K (start N vs) (envP N.length ds) H Z σ' env' H' Z' → Fr0 none H Z H' Z' := fun S a o h _ => S.fr a o h fun ⟨i, es, e1, _⟩ => by
      obtain ⟨d, _, e2⟩ := env_get.mp e1
      cases e2
    unfold runP at e
    split at e
    · rename_i r e1 h1
      rw [Option.map_eq_some_iff] at e
      obtain ⟨v, hv, rfl⟩ := e
      refine sim _ H Z _ R _ h1 _ fun u σ' H' Z' S1 _ i1 => ?_
      refine q u H' Z' (fr S1) S1.rep.zh ?_
      unfold resO at hv
      split at hv
      · cases hv
        cases v with
        | imm d => exact i1
        | new es =>
          obtain ⟨p', zs, a1, a2, a3, a4, _, a6⟩ := i1
          exact ⟨p', zs, a1, a2, a3, a4, (fun ⟨i, _, e, _⟩ => by simp at e), a6⟩
      · rename_i i
        split at hv
        · rename_i d hd'
          cases hv
          obtain ⟨u', hu, hdu⟩ := S1.rep.imm i d hd'
          have i1 : σ'[i]? = some (some u) := i1
          rw [i1] at hu
          cases hu
          exact hdu
        · rename_i es hd'
          split at hv
          · cases hv
            obtain ⟨p', zs, hu, hz, hh, ha⟩ := S1.rep.own i es hd'
            have i1 : σ'[i]? = some (some u) := i1
            rw [i1] at hu
            cases hu
            refine ⟨p', zs, rfl, hh, hz, ha, (fun ⟨i, _, e, _⟩ => by simp at e), ?_⟩
            rcases S1.le p' ⟨i, es, hd', i1⟩ with ⟨j, es', e1, _⟩ | z
            · obtain ⟨d, _, e2⟩ := env_get.mp e1
              cases e2
            · exact z
          · cases hv
        · cases hv
    · rename_i e1 h1
      cases e
      exact sim _ H Z _ R _ h1 _ fun σ' H' Z' S1 _ => q .non H' Z' (fr S1) S1.rep.zh Dt.non
    · rename_i x e1 h1
      cases e
      exact sim _ H Z _ R _ h1 _ fun c d σ' H' Z' S1 _ i1 => q c d H' Z' (fr S1) S1.rep.zh i1
    · cases e
theorem fn_M {x qual : Str} {st : Stmt} {f : Addr} {fd : FuncData} {N ps : List Str} {k : Nat} {g : M Flw} (G : List PyData → List PyData → Option (Res × List PyData)) (F : Fun K x qual st f fd) (S : FnScope N ps (defScope st)) (hN : 0 < N.length) (hG : ∀ d0 ds o, G d0 ds = some o → ds.length + 1 = ps.length ∧ runM N.length g d0 ds = some o)
    (body : ∀ (cdv : Value) (A : Around) (outer : List Env) (s : Shared) (H : Hp) (E : XK), BodyOk (cxOf (L2.CX P w) P w K mg base N qual (defScope st) f cdv A outer s H E) (fun c d _ H' => E c d H') k →
      SB (cxOf (L2.CX P w) P w K mg base N qual (defScope st) f cdv A outer s H E) (fun c d _ H' => E c d H') 1 (defBody st) g) : FnOk P w K mg base (L2.CX P w) (k + 1) f fd ps (spM K G) := by
  refine F.okX S (fun vs H Q E h => ?_) (fun cdv A outer s H vs Q E hr h => ?_)
  · obtain ⟨Z, p, xs, ws, d0, ds, o, d1, rfl, l, hp, hz, hx, hd, e, _⟩ := h
    rw [List.length_cons, hd.len]
    exact (hG d0 ds _ e).1
  · obtain ⟨Z, p, xs, ws, d0, ds, o, d1, rfl, l, hp, hz, hx, hd, e, q⟩ := h
    have e := (hG d0 ds _ e).2
    have B := body cdv A outer s H E ⟨rfl, hr, passes_of rfl, takes_of rfl rfl rfl rfl⟩
    obtain ⟨t, pp, sim⟩ := B
    refine ⟨t, pp, ?_⟩
    have R : Rep K H Z (start N (.ref p :: ws)) (envM N.length d0 ds) := rep_M hN l hp hz hx hd
    have ownp : ∀ a, Own (envM N.length d0 ds) (start N (.ref p :: ws)) a → a = p := fun a ⟨i, es, e1, e2⟩ => by
      cases i with
      | zero =>
        have e2 : some (some (V.ref p)) = some (some (V.ref a)) := e2
        cases e2
        rfl
      | succ i =>
        obtain ⟨d, _, e3⟩ := env_get.mp (show (ds.map (fun d => some (Sl.imm d)) ++ List.replicate (N.length - (ds.length + 1)) none)[i]? = some (some (.own es)) from e1)
        cases e3
    have fr : ∀ {σ' env' H' Z'}, Step K (start N (.ref p :: ws)) (envM N.length d0 ds) H Z σ' env' H' Z' → Fr0 (some p) H Z H' Z' := fun S a o h n => S.fr a o h fun z => n (by rw [ownp a z])
    -- the first slot behind
    have back : ∀ {σ' env' H' Z'}, Step K (start N (.ref p :: ws)) (envM N.length d0 ds) H Z σ' env' H' Z' → Pin 1 (start N (.ref p :: ws)) σ' → ∀ {d1}, own0 env' = some d1 → ∃ ys, σ'[0]? = some (some (.ref p)) ∧ env'[0]? = some (some (.own d1)) ∧ H' p = some (.lst ys) ∧ Z' p = none ∧ DtAll K Z' ys d1 := fun {σ' env' H' Z'} S P {d1} e => by
      have s0 : σ'[0]? = some (some (.ref p)) := (P 0 (by decide)).trans rfl
      unfold own0 at e
      split at e
      · rename_i d1' h
        cases e
        obtain ⟨p', ys, a1, a2, a3, a4⟩ := S.rep.own 0 _ h
        rw [s0] at a1
        cases a1
        exact ⟨ys, s0, h, a3, a2, a4⟩
      · cases e
    unfold runM at e
    split at e
    · rename_i r e1 h1
      split at e
      · rename_i v d1' hv ho
        cases e
        refine sim _ H Z _ R _ h1 _ fun u σ' H' Z' S1 P1 i1 => ?_
        obtain ⟨ys, s0, c0, c1, c2, c3⟩ := back S1 P1 ho
        refine q u H' Z' ys (fr S1) S1.rep.zh c1 c2 c3 ?_
        unfold resO at hv
        split at hv
        · cases hv
          cases v with
          | imm d => exact i1
          | new es =>
            obtain ⟨p', zs, a1, a2, a3, a4, _, a6⟩ := i1
            exact ⟨p', zs, a1, a2, a3, a4, (fun ⟨i, _, e, _⟩ => by simp at e), a6⟩
        · rename_i i
          split at hv
          · rename_i d hd'
            cases hv
            obtain ⟨u', hu, hdu⟩ := S1.rep.imm i d hd'
            have i1 : σ'[i]? = some (some u) := i1
            rw [i1] at hu
            cases hu
            exact hdu
          · rename_i es hd'
            split at hv
            · rename_i hi
              cases hv
              obtain ⟨p', zs, hu, hz', hh, ha⟩ := S1.rep.own i es hd'
              have i1 : σ'[i]? = some (some u) := i1
              rw [i1] at hu
              cases hu
              refine ⟨p', zs, rfl, hh, hz', ha, (fun ⟨i, _, e, _⟩ => by simp at e), ?_⟩
              rcases S1.le p' ⟨i, es, hd', i1⟩ with z | z
              · have ep := ownp p' z
                subst ep
                have := S1.rep.inj i 0 _ _ p' hd' c0 i1 s0
                omega
              · exact z
            · cases hv
          · cases hv
      · cases e
    · rename_i e1 h1
      rw [Option.map_eq_some_iff] at e
      obtain ⟨d1', ho, e⟩ := e
      cases e
      refine sim _ H Z _ R _ h1 _ fun σ' H' Z' S1 P1 => ?_
      obtain ⟨ys, s0, c0, c1, c2, c3⟩ := back S1 P1 ho
      exact q .non H' Z' ys (fr S1) S1.rep.zh c1 c2 c3 Dt.non
    · rename_i x e1 h1
      rw [Option.map_eq_some_iff] at e
      obtain ⟨d1', ho, e⟩ := e
      cases e
      refine sim _ H Z _ R _ h1 _ fun c d σ' H' Z' S1 P1 i1 => ?_
      obtain ⟨ys, s0, c0, c1, c2, c3⟩ := back S1 P1 ho
      exact q c d H' Z' ys (fr S1) S1.rep.zh c1 c2 c3 i1
    · cases e
end
end BV

namespace BV
open PySem PySem.Spec L2
open PyProof.Rows hiding St

theorem hu65 {k : Nat} {A : Around} (r : Room k A) : A.units + 65 < cLine := by
  have := r.un
  omega
theorem tl_2 {f g : PyData → BE → Option BE} : ∀ ds env env', tsCons f (tsCons g tsNil) ds env = some env' → ds.length = 2
  | [], _, _, e => by cases e
  | [d], env, _, e => by
    simp only [tsCons] at e
    split at e <;> cases e
  | [_, _], _, _, _ => rfl
  | d :: d2 :: d3 :: r, env, _, e => by
    simp only [tsCons, tsNil] at e
    split at e
    · split at e <;> cases e
    · cases e
theorem tl_3 {f g h : PyData → BE → Option BE} : ∀ ds env env', tsCons f (tsCons g (tsCons h tsNil)) ds env = some env' → ds.length = 3
  | [], _, _, e => by cases e
  | d :: ds, env, env', e => by
    unfold tsCons at e
    dsimp only at e
    split at e
    · rw [List.length_cons, tl_2 ds _ _ e]
    · cases e

section
variable {X : Cx} {W : WX} {pos : Pos} {a b e : Expr} {fa fb : M Opd}
/-! ### and, or as values -/
def fAndV (fa fb : M Opd) : M Opd := fun env => obind (isB fa env) fun b e1 => if b then fb e1 else some (.ok (.val (.imm (.bool false))) e1)
def fOrV (fa fb : M Opd) : M Opd := fun env => obind (isB fa env) fun b e1 => if b then some (.ok (.val (.imm (.bool true))) e1) else fb e1

/-! ### * of lists and tuples -/
def rRepR : R2 := fun x y H Q => ∃ l k xs, x = .ref l ∧ y = .int k ∧ Rd H l (.lst xs) ∧ -(2 ^ 63) ≤ k ∧ k < 2 ^ 63 ∧ xs.length * k.toNat ≤ sizeLine ∧
  ∀ p, H p = none → Q (.ref p) (upd H p (.lst (List.replicate k.toNat xs).flatten))
theorem op_repR : OpR X (binaryOp .Mult) rRepR := by
  intro pins s σ H x y v u Q I rx ry h
  obtain ⟨l, k, xs, rfl, rfl, hR, b1, b2, hz, q⟩ := h
  cases rx
  obtain ⟨tk, rfl⟩ := ry
  obtain ⟨_, its, n, r, e⟩ := hR.ok I.hok
  have len : its.length = xs.length := r.length.symm
  have big : its.toArray.size * k.toNat ≤ sizeLine := by rw [List.size_toArray, len]; exact hz
  have cap : ¬ its.toArray.size * k.toNat > (2 ^ 63 - 1) / 8 := by
    have z : (sizeLine : Nat) ≤ (2 ^ 63 - 1) / 8 := by decide
    omega
  have fit : ¬ (!Builtin.List.listFitsIndex k) = true := by rw [fitsIndex_both b1 b2]; exact Bool.false_ne_true
  have long : ¬ Builtin.List.listTooLong (its.toArray.size * k.toNat) = true := by rw [notLongL big]; exact Bool.false_ne_true
  have made : List.foldl (fun x1 x2 => x1 ++ x2) #[] (List.replicate (if its.toArray.isEmpty = true then 0 else k.toNat) its.toArray) = (List.replicate k.toNat its).flatten.toArray := by
    have f0 : ∀ m : Nat, List.foldl (fun x1 x2 => x1 ++ x2) #[] (List.replicate m its.toArray) = (List.replicate m its).flatten.toArray := size_rep its
    rw [f0]
    cases its with
    | nil => simp
    | cons z zs => rw [if_neg (by simp)]
  refine wpAny_binaryOp_repeat_ref (T := "list") (U := "int") (by decide) ⟨_, e, rfl⟩ (fun s' => typeIs_int s' k tk) noFill_list_mul F.fills_int_mul F.slot_int_rmul repeat_list F.slot_int_index.lookup
    (call_meets F.slot_int_rmul (typeIs_int s k tk) F.entry_int_rmul (F.args_int_rmul_2 _ _) (int___rmul___int_list k tk l its.toArray n) ⟨e, rfl, ⟨_, e, rfl⟩, ?_⟩)
  refine call_meets F.slot_list_mul ⟨_, e, rfl⟩ F.entry_list_mul (F.args_list_mul_2 _ _) (AutoListH.list___mul___list_int_3 l its.toArray n k tk fit cap long) ⟨e, ?_⟩
  rw [made]
  exact ⟨.ref _, _, I.lnew (t' := s.toks) (r.rep k.toNat) (by rw [PyProof.Rows.lm_len_rep_flat, Nat.mul_comm]; exact hz), rfl, q _ I.fresh⟩
def dTimes : PyData → PyData → Option Val
  | .int i, .int j => if within64 i || within64 j then some (.imm (.int (i * j))) else none
  | .list ds, .int k => if -(2 ^ 63) ≤ k ∧ k < 2 ^ 63 ∧ small (ds.length * k.toNat) = true then some (.new (List.replicate k.toNat ds).flatten) else none
  | .tuple ds, .int k => if 2 ≤ k ∧ k ≤ 1000 ∧ ds.length ≤ 1000 ∧ ds ≠ [] then some (.imm (.tuple (List.replicate k.toNat ds).flatten)) else none
  | _, _ => none
def rTimes (K : Fg) : R2 := fun x y H Q => rI CMul (fun i j => .int (i * j)) x y H Q ∨ rRepR x y H Q ∨ rRepT K x y H Q
theorem op_times : OpR X (binaryOp .Mult) (rTimes X.K) := op_or op_mul (op_or op_repR op_repT)
end
theorem DtAll.rep {K : Fg} {H : Hp} {xs : List V} {ds : List PyData} (h : DtAll K H xs ds) : ∀ n : Nat, DtAll K H (List.replicate n xs).flatten (List.replicate n ds).flatten
  | 0 => .nil
  | n + 1 => by
    rw [List.replicate_succ, List.replicate_succ, List.flatten_cons, List.flatten_cons]
    exact h.append (DtAll.rep h n)
section
variable {K : Fg}
theorem od_times : OpD K (rTimes K) dTimes := by
  intro H Z x y d1 d2 o l h1 h2 e Q k
  unfold dTimes at e
  split at e
  · rename_i i j
    exact .inl (od_mul (K := K) H Z x y (.int i) (.int j) o l h1 h2 (by
      unfold dMul onI
      dsimp only
      split at e
      · rename_i hw
        cases e
        rw [if_pos hw]
        rfl
      · cases e) Q k)
  · rename_i ds i
    split at e
    · rename_i hb
      cases e
      obtain ⟨a, xs, rfl, hr, ha⟩ := h1.list l
      exact .inr (.inl ⟨a, i, xs, rfl, h2.int, hr, hb.1, hb.2.1, by rw [ha.len]; exact small_line hb.2.2, fun p hp => new_list l hp (ha.rep _) k⟩)
    · cases e
  · rename_i ds i
    split at e
    · rename_i hb
      cases e
      obtain ⟨a, xs, rfl, hr, ha, _⟩ := h1.tuple l
      refine .inr (.inr ⟨a, i, xs, rfl, h2.int, hr, fun z => ?_, hb.1, hb.2.1, by rw [ha.len]; exact hb.2.2.1, fun p hp => new_tup l hp (ha.rep _) k⟩)
      subst z
      cases ha
      exact hb.2.2.2 rfl
    · cases e
  · cases e
def dPow := onI fun i j => if 0 ≤ j ∧ j ≤ 1000000 ∧ i.natAbs < 2 ^ 64 then some (.int (i ^ j.toNat)) else none
theorem od_pow : OpD K (rI CPow fun i j => .int (i ^ j.toNat)) dPow := opd_I fun i j d e => by
  split at e
  · rename_i h
    cases e
    exact ⟨h, fun H => .int _⟩
  · cases e

/-! ### extend -/
theorem md_extend : MtD K (fun x vs H Q => ∃ l b xs zs, x = .ref l ∧ vs = [.ref b] ∧ H l = some (.lst xs) ∧ Rd H b (.lst zs) ∧ xs.length + zs.length ≤ sizeLine ∧ Q .non (upd H l (.lst (xs ++ zs)))) mExtend := by
  intro H Z p xs ws d0 ds o d1 l h hz ha hw e Q k
  unfold mExtend at e
  split at e
  · split at e
    · rename_i hs
      cases e
      cases hw with
      | cons h1 h2 =>
        cases h2
        cases h1 with
        | lst hr hx =>
          exact ⟨p, _, xs, _, rfl, rfl, h, l.rd hr, by rw [ha.len, hx.len]; exact small_line hs, k .non _ (ha.append hx) .non⟩
    · cases e
  · cases e

/-! ### x[::-1] -/
def dRev : PyData → Option Val
  | .list ds => some (.new ds.reverse)
  | .tuple ds => some (.imm (.tuple ds.reverse))
  | _ => none

/-! ### sorted -/
def allAlike (ds : List PyData) : Bool := ds.all fun a => ds.all fun b => PySem.W.alike a b
def isTup1 : PyData → Bool
  | .tuple (_ :: _) => true
  | _ => false
def isPlain : PyData → Bool
  | .none => false
  | .tuple _ => false
  | _ => true
def sortable (ds : List PyData) : Bool := ds.all isTup1 || ds.all isPlain
def deepOk (ds : List PyData) : Bool := ds.all fun d => decide (d.depth ≤ 60)
def sortD (ds : List PyData) : List PyData := ds.mergeSort (PySem.W.dataLe false id)
def dSorted : List PyData → Option Val
  | [.list ds] => if allAlike ds && sortable ds && deepOk ds && small ds.length then some (.new (sortD ds)) else none
  | _ => none
end
end BV

namespace BV
open PySem PySem.Spec L2
open PyProof.Rows hiding St

section
variable {X : Cx} {W : WX} {pos : Pos} {a b e : Expr} {fa fb : M Opd}
/-! ### xs.extend(ys), ys any list -/
theorem mt_extendR : MtR X "list.extend" (fun x vs H Q => ∃ l b xs zs, x = .ref l ∧ vs = [.ref b] ∧ H l = some (.lst xs) ∧ Rd H b (.lst zs) ∧ xs.length + zs.length ≤ sizeLine ∧ Q .non (upd H l (.lst (xs ++ zs)))) := by
  intro pins s σ H x vs v us Q I rx rv h
  obtain ⟨l, b, xs, zs, rfl, rfl, hH, hR, hz, q⟩ := h
  cases rx
  obtain ⟨u, rfl, ru⟩ := rv.one
  cases ru
  obtain ⟨_, its, n, r, e⟩ := hR.ok I.hok
  obtain ⟨_, its0, n0, r0, hl0, e0⟩ := I.lstM hH
  have c := r.length
  have fits : its0.toArray.size + its.toArray.size ≤ sizeLine := by rw [List.size_toArray, List.size_toArray]; omega
  have long : ¬ (!its0.toArray.isEmpty && Builtin.List.listTooLong (its0.toArray.size + its.toArray.size)) = true := by
    rw [notLongL fits, Bool.and_false]
    exact Bool.false_ne_true
  refine call_meets F.slot_list_extend ⟨_, e0, rfl⟩ F.entry_list_extend (F.args_list_extend_2 _ _)
    (AutoSeq1.list_extend_list_list_0 l its0.toArray n0 b its.toArray n long (by rw [List.size_toArray]; omega) (by omega)) ⟨e0, e, ?_⟩
  exact ⟨.non, _, I.lset (its' := its0 ++ its) hH e0 (by simp) (r0.append r) (by rw [List.length_append]; omega), rfl, q⟩

/-! ### sorted of a list of data -/
theorem each_of {K : Fg} {Z : Hp} : ∀ {vs : List V} {us : List Value} {ds : List PyData}, Vals vs us → DtAll K Z vs ds → PySem.W.EachIs (fun u d => ∃ v, RelV v u ∧ Dt K Z v d) us ds
  | _, _, _, .nil, .nil => .nil
  | _, _, _, .cons r t, .cons d ds => .cons ⟨_, r, d⟩ (each_of t ds)
theorem of_each {K : Fg} {Z : Hp} : ∀ {us : List Value} {ds : List PyData}, PySem.W.EachIs (fun u d => ∃ v, RelV v u ∧ Dt K Z v d) us ds → ∃ vs, Vals vs us ∧ DtAll K Z vs ds
  | _, _, .nil => ⟨[], .nil, .nil⟩
  | _, _, .cons ⟨v, r, d⟩ t => by
    obtain ⟨vs, h1, h2⟩ := of_each t
    exact ⟨v :: vs, .cons r h1, .cons d h2⟩
theorem each_reads {pins : List (Addr × Obj)} {s : Shared} {σ : St} {H Z : Hp} (I : Inv X pins σ H s) (l : Le Z H) : ∀ {vs : List V} {us : List Value} {ds : List PyData}, Vals vs us → DtAll X.K Z vs ds → PySem.W.EachIs (fun u d => ∃ as, Reads s.heap u (id d) as) us ds
  | _, _, _, .nil, .nil => .nil
  | _, _, _, .cons r t, .cons d ds => .cons (Dp.reads I _ _ _ (Dt.dp _ _ (l.dp _ _ d)) r) (each_reads I l t ds)
def rSortP (K : Fg) : List V → Hp → VK → Prop := fun vs H Q => ∃ (Z : Hp) (a : Addr) (xs : List V) (ds : List PyData), vs = [V.ref a] ∧ Le Z H ∧ Rd H a (.lst xs) ∧ DtAll K Z xs ds ∧
  (allAlike ds && sortable ds && deepOk ds && small ds.length) = true ∧ ∀ p ys, H p = none → DtAll K Z ys (sortD ds) → Q (.ref p) (upd H p (.lst ys))
theorem allAlike_ok {ds : List PyData} (h : allAlike ds = true) : PySem.W.AllAlike ds := fun d hd d' hd' => by
  have z := (List.all_eq_true.mp h) d hd
  exact (List.all_eq_true.mp z) d' hd'
theorem sortable_ok {ds : List PyData} (h : sortable ds = true) : PySem.W.Sortable ds := by
  unfold sortable at h
  rw [Bool.or_eq_true] at h
  rcases h with h | h
  · refine .inl fun d hd => ?_
    have z := (List.all_eq_true.mp h) d hd
    unfold isTup1 at z
    split at z
    · exact ⟨_, _, rfl⟩
    · cases z
  · refine .inr fun d hd => ?_
    have z := (List.all_eq_true.mp h) d hd
    unfold isPlain at z
    split at z
    · cases z
    · cases z
    · rename_i n1 n2
      exact ⟨fun e => n1 e, fun xs e => n2 xs e⟩
theorem cr_sortP {k : Nat} (hr : Room k X.A) : CallR X (.builtin "sorted") (rSortP X.K) := by
  intro pins s σ H vs us Q I r h
  obtain ⟨Z, a, xs, ds, rfl, l, hR, ha, hc, q⟩ := h
  simp only [Bool.and_eq_true] at hc
  obtain ⟨⟨⟨c1, c2⟩, c3⟩, c4⟩ := hc
  obtain ⟨its, rv, hl, _⟩ := I.list (show SqL X.K H a xs from .inl hR)
  rw [Vals.ref1 r]
  have e1 := each_of rv ha
  have e2 := each_reads I l rv ha
  refine PySem.W.sorted_data (enc := id) hl.isList e1 e2 (by rw [List.map_id]; exact allAlike_ok c1) (by rw [List.map_id]; exact sortable_ok c2) (small_line c4) (fun b hb => ?_) fun out ho eo => ?_
  · have z := of_decide_eq_true ((List.all_eq_true.mp c3) b hb)
    have z : b.depth ≤ 60 := z
    have := hr.un
    show X.A.units + 2 + b.depth < cLine
    omega
  · obtain ⟨ys, hv, hd⟩ := of_each eo
    obtain ⟨ep, he'⟩ := PyProof.Rows.sortedAll_at s.heap its (List.toArray out)
    have hlen : ys.length ≤ sizeLine := by rw [hv.length, ho]; exact small_line c4
    exact ⟨.ref _, upd H (s.heap.objs.size + 1) (.lst ys), I.laid (t' := s.toks) (fun _ _ => PyProof.Rows.sortedAll_old) (Nat.le_succ _) ⟨hlen, out, ep, hv, he'⟩, rfl, q _ ys (I.hok.fresh (Nat.le_succ _)) hd⟩
theorem cd_sortP {K : Fg} : ClD K (rSortP K) dSorted := by
  intro H Z xs ds o l h e Q k
  unfold dSorted at e
  split at e
  · rename_i ds
    split at e
    · rename_i hc
      cases e
      match xs, h with
      | [x], h =>
        obtain ⟨a, ys, rfl, hr, ha⟩ := h.1.list l
        exact ⟨Z, a, ys, ds, rfl, l, hr, ha, hc, fun p zs hp hz => new_list l hp hz k⟩
    · cases e
  · cases e

/-! ### x[::-1] -/
def tRev (K : Fg) (te : TE) : TE := fun σ H Q => te σ H fun x H1 => ∃ a xs, x = .ref a ∧ ((SqL K H1 a xs ∧ ∀ p, H1 p = none → Q (.ref p) (upd H1 p (.lst xs.reverse))) ∨ (SqT K H1 a xs ∧ ∀ p, H1 p = none → Q (.ref p) (upd H1 p (.tup xs.reverse))))
theorem applied_back {prog : Program} {w : World} {A : Around} {E : Value → Shared → Prop} {s : Shared} {sl : Addr} {vl vu vs : Value} {n : Nat} {Q : Int × Int × Nat → Shared → Prop} (hs : s.heap.IsSliceOf sl vl vu vs) (pl : IsPart vl none) (pu : IsPart vu none) (ps : IsPart vs (some (-1)))
    (h : Q ((n : Int) - 1, -1, n) s) : wpAny (model prog w) A (Builtin.Slice.sliceApplied (.ref sl) (pure (n : Int))) Q E s := by
  obtain ⟨os, hos, hcs, hds⟩ := id hs
  unfold Builtin.Slice.sliceApplied Builtin.Slice.sliceFields
  refine wpAny_bind (wpAny_bind (wpAny_field hos hds (x := vl) rfl (wpAny_bind (wpAny_field hos hds (x := vu) rfl (wpAny_bind (wpAny_field hos hds (x := vs) rfl (wpAny_pure ?_)))))))
  refine wpAny_bind (HT.slicePart_ ps ?_)
  show wpAny _ _ (if ((-1 : Int) == 0) = true then _ else _) _ _ s
  rw [if_neg (by decide)]
  refine wpAny_bind (HT.slicePart_ pl (wpAny_bind (HT.slicePart_ pu (wpAny_bind (wpAny_pure ?_)))))
  have e1 : Builtin.Slice.sliceAdjust none none (-1) (n : Int) = ((n : Int) - 1, -1) := rfl
  show wpAny _ _ (match Builtin.Slice.sliceAdjust none none (-1) (n : Int) with | (lo, hi) => pure (lo, (-1 : Int), Builtin.Slice.slicePlaces lo hi (-1))) _ _ s
  rw [e1]
  show wpAny _ _ (pure ((n : Int) - 1, (-1 : Int), Builtin.Slice.slicePlaces ((n : Int) - 1) (-1) (-1))) _ _ s
  have e2 : Builtin.Slice.slicePlaces ((n : Int) - 1) (-1) (-1) = n := by
    unfold Builtin.Slice.slicePlaces
    rw [if_neg (by decide)]
    by_cases hn : n = 0
    · subst hn
      rfl
    · rw [if_pos (by omega)]
      have e3 : ((n : Int) - 1 - -1 - 1) / (- -1) + 1 = (n : Int) := by
        show ((n : Int) - 1 - -1 - 1) / 1 + 1 = (n : Int)
        rw [Int.ediv_one]
        omega
      rw [e3]
      rfl
  rw [e2]
  exact wpAny_pure h
theorem filterMap_some {α β : Type} {f : α → Option β} {g : α → β} : ∀ {l : List α}, (∀ m ∈ l, f m = some (g m)) → l.filterMap f = l.map g
  | [], _ => rfl
  | x :: l, h => by
    rw [List.filterMap_cons, h x List.mem_cons_self, List.map_cons, filterMap_some fun m hm => h m (List.mem_cons_of_mem _ hm)]
theorem pick_back (xs : Array Value) : ((List.range xs.size).filterMap fun (m : Nat) => xs[((xs.size : Int) - 1 + (m : Int) * -1).toNat]?).toArray = xs.toList.reverse.toArray := by
  congr 1
  apply List.ext_getElem?
  intro i
  have e : ∀ m ∈ List.range xs.size, (fun (m : Nat) => xs[((xs.size : Int) - 1 + (m : Int) * -1).toNat]?) m = some ((fun m => xs.toList.reverse[m]?.getD .none) m) := fun m hm => by
    have hm := List.mem_range.mp hm
    have e1 : ((xs.size : Int) - 1 + (m : Int) * -1).toNat = xs.size - 1 - m := by omega
    have h1 : m < xs.toList.reverse.length := by simpa using hm
    show xs[((xs.size : Int) - 1 + (m : Int) * -1).toNat]? = _
    rw [e1]
    simp only []
    rw [List.getElem?_eq_getElem h1, List.getElem_reverse]
    simp
  have e2 : (List.range xs.size).filterMap (fun (m : Nat) => xs[((xs.size : Int) - 1 + (m : Int) * -1).toNat]?) = (List.range xs.size).map (fun m => xs.toList.reverse[m]?.getD .none) := by
    exact filterMap_some e
  rw [e2, List.getElem?_map]
  by_cases hi : i < xs.size
  · rw [List.getElem?_range hi]
    have h1 : i < xs.toList.reverse.length := by simpa using hi
    simp only [Option.map_some]
    rw [List.getElem?_eq_getElem h1]
    rfl
  · rw [List.getElem?_eq_none (by simpa using hi), List.getElem?_eq_none (l := xs.toList.reverse) (by simpa using hi)]
    rfl
theorem getItem_tuple_back {prog : Program} {w : World} {A : Around} {E : Value → Shared → Prop} {s : Shared} {t sl : Addr} {items : Array Value} {vl vu vs : Value} {Q : Value → Shared → Prop} (ht : IsTup s.heap t items) (hs : s.heap.IsSliceOf sl vl vu vs) (pl : IsPart vl none) (pu : IsPart vu none) (ps : IsPart vs (some (-1)))
    (h : Q (.ref s.heap.objs.size) { s with heap := s.heap.push { cls := .type "tuple", data := .seq items.toList.reverse.toArray } })
    (hsz : items.size ≤ sizeLine) : wpAny (model prog w) A (getItem (.ref t) (.ref sl)) Q E s := by
  have hok : sizeOk (.seq items.toList.reverse.toArray) := by
    show items.toList.reverse.toArray.size ≤ sizeLine
    simpa using hsz
  obtain ⟨os, hos, hcs, hds⟩ := id hs
  have hTs : s.TypeIs (.ref sl) "slice" := ⟨os, hos, hcs⟩
  unfold getItem
  try with_reducible refine wpAny_holding ?_
  first | refine wpAny_bind (wpAny_pure ?_) | skip
  refine wpAny_bind (wpAny_sequenceKey ht.typeIs (by decide) ?_)
  refine wpAny_bind (wpAny_callSpecial?_slot (name := Str.ofString "__getitem__") ht.typeIs PyProof.Rows.slot_tuple_getitem
    (wpAny_call_entry PyProof.Rows.slot_tuple_getitem ht.typeIs entry_tuple_getitem ?_ (args_tuple_getitem _ _)))
  show wpAny _ _ (Builtin.Tuple.tupleItemsOf (.ref t) >>= _) _ _ s
  refine wpAny_bind (tupleItemsOf_ ht ?_)
  refine wpAny_bind (wpAny_typeOf hTs ?_)
  rw [if_pos (by decide)]
  refine wpAny_bind (applied_back hs pl pu ps ?_)
  have hno : ¬ ((((items.size : Int) - 1) == 0 && (-1 : Int) == 1 && items.size == items.size) = true) := by
    intro q
    rw [Bool.and_eq_true, Bool.and_eq_true] at q
    exact absurd q.1.2 (by decide)
  show wpAny _ _ (if (((items.size : Int) - 1) == 0 && (-1 : Int) == 1 && items.size == items.size) = true then _ else _) _ _ s
  rw [if_neg hno, pick_back]
  first
    | exact wpAny_bind (m := Builtin.Tuple.tupleExact _) (wpAny_newObj_type (wpAny_pure ⟨_, rfl, wpAny_pure h⟩) hok)
    | exact wpAny_bind (m := Builtin.Tuple.tupleExact _) (wpAny_newObj_type (wpAny_bind (wpAny_pure (wpAny_pure ⟨_, rfl, wpAny_pure h⟩))) hok)
    | exact wpAny_bind (wpAny_bind (m := Builtin.Tuple.tupleExact _) (wpAny_newObj_type (wpAny_pure (wpAny_pure ⟨_, rfl, wpAny_pure h⟩)) hok))
    | exact wpAny_bind (wpAny_bind (m := Builtin.Tuple.tupleExact _) (wpAny_newObj_type (wpAny_pure ⟨_, rfl, wpAny_pure h⟩) hok))
theorem pe_rev {te : TE} {k : Nat} {p1 p2 p3 : Pos} (he : PE X e te) : PE X (.Subscript e (.Slice none none (some (.UnaryOp .USub (.Constant (.int 1) k p1) p2)) p3) pos) (tRev X.K te) := by
  refine ⟨fun pins s σ H Q I h => ?_⟩
  refine Subscript_ (thn (he.run pins s σ H _ I h) fun v s1 ⟨x, H1, I1, r1, a, xs, ex, q1⟩ => ?_)
  subst ex
  cases r1
  have hst : PO X (some (.UnaryOp .USub (.Constant (.int 1) k p1) p2)) (tPart (tUn (rU fun i => .int (-i)) (tC (.int 1)))) := po_some (pe_un un_neg pe_int)
  refine wpAny_Slice (thn (po_none.run pins s1 σ H1 (fun o H2 => o = none ∧ H2 = H1) I1 ⟨rfl, rfl⟩) fun vl s2 ⟨l, H2, I2, pl, el, e2⟩ => ?_)
  subst el e2
  refine thn (po_none.run pins s2 σ H2 (fun o H3 => o = none ∧ H3 = H2) I2 ⟨rfl, rfl⟩) fun vu s3 ⟨u, H3, I3, pu, eu, e3⟩ => ?_
  subst eu e3
  refine thn (hst.run pins s3 σ H3 (fun o H4 => o = some (-1) ∧ H4 = H3) I3 ⟨1, rfl, -1, rfl, rfl, rfl⟩) fun vs s4 ⟨o, H4, I4, ps, eo, e4⟩ => ?_
  subst eo e4
  have I5 : Inv X pins σ H4 { s4 with heap := s4.heap.push { cls := .type "slice", data := .fields #[vl, vu, vs] } } := I4.kept (t' := s4.toks) fun b ob q => Heap.get?_push_of_some _ q
  show wpAny (model X.prog X.w) X.A (subscriptTail e (.Slice none none (some (.UnaryOp .USub (.Constant (.int 1) k p1) p2)) p3) (.ref a) (.ref s4.heap.objs.size)) (EP X pins σ Q) X.xe { s4 with heap := s4.heap.push { cls := .type "slice", data := .fields #[vl, vu, vs] } }
  rcases q1 with ⟨hx, q⟩ | ⟨hx, q⟩
  · obtain ⟨its, r, ht, hz⟩ := I5.list hx
    have hlen := r.length
    refine tail_any (ops := [.ref a, .ref s4.heap.objs.size]) ht.isList.typeIs (PySem.slot_list_getitem.lookup) ?_ (by with_unfolding_all rfl)
    refine wpAny_getItem_list_slice ht.isList (Heap.IsSliceOf.new _ vl vu vs) pl pu ps (by decide) ?_ (by rw [List.size_toArray]; omega)
    rw [PySem.W.krv_pick]
    exact ⟨.ref _, _, I5.laid (t' := s4.toks) (o := .lst xs.reverse) (fun b ob q => Heap.get?_push_of_some _ q) (Nat.le_refl _) ⟨by rw [List.length_reverse]; exact hz, _, 0, r.reverse, Heap.get?_push_size _ rfl⟩, rfl, q _ (I5.hok.fresh (Nat.le_refl _))⟩
  · obtain ⟨its, r, ht, hz⟩ := I5.tuple hx
    have hlen := r.length
    refine tail_any (ops := [.ref a, .ref s4.heap.objs.size]) ht.typeIs (PyProof.Rows.slot_tuple_getitem.lookup) ?_ (by with_unfolding_all rfl)
    refine getItem_tuple_back ht (Heap.IsSliceOf.new _ vl vu vs) pl pu ps ?_ (by rw [List.size_toArray]; omega)
    exact ⟨.ref _, _, I5.laid (t' := s4.toks) (o := .tup xs.reverse) (fun b ob q => Heap.get?_push_of_some _ q) (Nat.le_refl _) ⟨by rw [List.length_reverse]; exact hz, _, r.reverse, by
      have z := IsTup.new { s4 with heap := s4.heap.push { cls := .type "slice", data := .fields #[vl, vu, vs] } }.heap its.reverse.toArray
      simpa using z⟩, rfl, q _ (I5.hok.fresh (Nat.le_refl _))⟩
theorem se_rev {k : Nat} {p1 p2 p3 : Pos} (ha : SE X W a fa) : SE X W (.Subscript a (.Slice none none (some (.UnaryOp .USub (.Constant (.int 1) k p1) p2)) p3) pos) (fUn dRev fa) := by
  refine se_op1 (r := fun x H1 Q => ∃ a xs, x = .ref a ∧ ((SqL X.K H1 a xs ∧ ∀ p, H1 p = none → Q (.ref p) (upd H1 p (.lst xs.reverse))) ∨ (SqT X.K H1 a xs ∧ ∀ p, H1 p = none → Q (.ref p) (upd H1 p (.tup xs.reverse))))) (fun ta pa => pe_rev pa) ?_ ha
  intro H Z x d1 o l h e Q k
  unfold dRev at e
  split at e
  · cases e
    obtain ⟨a, xs, rfl, hr, ha⟩ := h.list l
    exact ⟨a, xs, rfl, .inl ⟨.inl hr, fun p hp => new_list l hp ha.reverse k⟩⟩
  · cases e
    obtain ⟨a, xs, rfl, hr, ha, _⟩ := h.tuple l
    exact ⟨a, xs, rfl, .inr ⟨hr, fun p hp => new_tup l hp ha.reverse k⟩⟩
  · cases e

/-! ### list(range(..)) -/
def dListRange : List PyData → Option Val
  | [.int n] => if -(2 ^ 62) ≤ n ∧ n ≤ 100000 then some (.new (intsTo n.toNat)) else none
  | [.int n, .int m] => if -(2 ^ 62) ≤ n ∧ n ≤ 100000 ∧ 0 ≤ n ∧ -(2 ^ 62) ≤ m ∧ m ≤ 100000 then some (.new (intsOf n m)) else none
  | _ => none
theorem rg_at {K : Fg} {Z : Hp} (lo hi : Int) : DtAll K Z (rgV lo hi) (intsOf lo hi) := by
  unfold rgV intsOf
  generalize (hi - lo).toNat = n
  have key : ∀ l : List Nat, DtAll K Z (l.map fun (i : Nat) => V.int (lo + (i : Int))) (l.map fun (i : Nat) => PyData.int (lo + (i : Int))) := fun l => by
    induction l with
    | nil => exact .nil
    | cons x l ih => exact .cons (.int _) ih
  exact key _
theorem se_listrange {p p2 : Pos} (hc : X.calm = true) (hm : X.mg "list" = none) (hm2 : X.mg "range" = none) (h1 : SE X W a fa) (hg : Gl X "list" := by rfl) (hg2 : Gl X "range" := by rfl) (na : starEach [a] X.env = (false, eval a X.env) :: starEach [] X.env := by rfl) (na2 : starEach [.Call (.Name "range" p2) [a] [] p] X.env = (false, eval (.Call (.Name "range" p2) [a] [] p) X.env) :: starEach [] X.env := by rfl) {p3 : Pos} :
    SE X W (.Call (.Name "list" p3) [.Call (.Name "range" p2) [a] [] p] [] pos) (fCl dListRange (fCons fa fNil)) := by
  obtain ⟨t, pp, s⟩ := h1
  refine ⟨_, pe_listRg hc hg hm (prg_1 hg2 hm2 pp na) na2, fun σ H Z env R o e Q k => ?_⟩
  rcases obind_some e with ⟨rs, e1, h1, e⟩ | ⟨x, e1, h1, rfl⟩
  · rcases obind_some h1 with ⟨r, e2, h2, h1⟩ | ⟨x, e2, h2, h⟩
    · cases h1
      refine s σ H Z env R _ h2 _ fun v H1 Z1 S1 i1 => ?_
      split at e
      · rename_i ds hd
        simp only [dAll] at hd
        split at hd
        · rename_i d ds' hr hn
          cases hn
          cases hd
          rw [Option.map_eq_some_iff] at e
          obtain ⟨r', hr', rfl⟩ := e
          unfold dListRange at hr'
          split at hr'
          · rename_i n he
            cases he
            split at hr'
            · rename_i hb
              cases hr'
              refine ⟨n, (IsO.dq S1.rep i1 hr).int, ⟨by decide, by decide, by omega, by omega, by omega⟩, fun p hp => ?_⟩
              have fin : ∀ w H' Z', (∀ a u, H1 a = some u → H' a = some u ∧ Z' a = Z1 a) → Le Z' H' → IsV X.K H1 H' Z' [] [] w (.new (intsTo n.toNat)) → Q w H' := fun w H4 Z4 f4 l4 i4 =>
                k w H4 Z4 (S1.trans (S1.rep.more f4 l4)) (IsV.base (fun a => S1.fresh) (IsV.up S1.rep i4))
              have z := rg_at (K := X.K) (Z := Z1) 0 n
              have en : intsOf 0 n = intsTo n.toNat := by
                rw [intsTo_eq]
                unfold intsOf
                have : (n - 0).toNat = ((n.toNat : Int) - 0).toNat := by omega
                rw [this]
              rw [en] at z
              exact new_list S1.rep.zh hp z fin
            · cases hr'
          · rename_i he
            cases he
          · cases hr'
        · cases hd
      · cases e
    · cases h
  · rcases obind_some h1 with ⟨r, e2, h2, h1⟩ | ⟨x, e2, h2, h⟩
    · cases h1
    · cases h
      exact s σ H Z env R _ h2 _ fun c d H1 Z1 S1 i1 => k c d H1 Z1 S1 i1
end
end BV

/-! BV11: set(xs) of a list or a tuple of tuples of ints, of any length with few unlike items; sorted of it. -/
namespace BV
open PySem PySem.Spec L2
open PyProof.Rows hiding St

section
variable {P : Program} {w : World} {A : Around} {E : Value → Shared → Prop} {s : Shared}
/-- few unlike items: whatever a set has got on the way, there is room for one more -/
def FewIn (ks : List (Addr × List Int)) : Prop := ∀ L : List (Addr × List Int), (∀ p ∈ L, p ∈ ks) → (L.map (·.2)).Nodup → L.length + 1 < 64
/-- the loop that fills a set, turn by turn -/
theorem fill_set {I : Addr} {fp wr : List Addr} {G : Array GenState → Array GenState → Prop} {n : Nat} {Pv : Nat → Value → Prop} {St : Nat → Shared → Prop} {R : Result → Shared → Prop}
    (W : WalksS P w A.in1 I fp wr G n Pv St) (S : Addr) (nf : S ∉ fp) (ks : List (Addr × List Int)) (hn : n = ks.length) (few : FewIn ks) (val : ∀ i v, Pv i v → ∃ p, ks[i]? = some p ∧ v = .ref p.1)
    (h0 : Heap) (tups : ∀ p ∈ ks, IsT P w h0 p.2 p.1) (S0 : h0.get? S = none) (w0 : ∀ b ∈ wr, h0.get? b = none) (hu : A.in1.units < cLine) (turnsLeft : Nat) :
    ∀ (i : Nat) (s : Shared), i + turnsLeft = n → St i s → (∀ b o, h0.get? b = some o → s.heap.get? b = some o) → (∃ L es ep t, SetTR P w s.heap S L es ep t ∧ Got ks i L) →
      (∀ s' L es ep t, Moved (S :: wr) G s s' → SetTR P w s'.heap S L es ep t → Got ks n L → (∀ b o, h0.get? b = some o → s'.heap.get? b = some o) → R (.ok (.ret .none)) s') →
      codeAny (model P w) A (.builtin "set.update.loop" ⟨[.ref S, .ref I], []⟩) R s := by
  have nw : S ∉ wr := fun h => nf (W.sub _ h)
  have wider : ∀ b ∈ wr, b ∈ S :: wr := fun b hb => List.mem_cons_of_mem _ hb
  have older : ∀ {s s' : Shared}, Moved wr G s s' → (∀ b o, h0.get? b = some o → s.heap.get? b = some o) → ∀ b o, h0.get? b = some o → s'.heap.get? b = some o := fun m k b o e =>
    m.heap b o (fun hb => by rw [w0 b hb] at e; cases e) (k b o e)
  have all : ∀ {i : Nat} {L : List (Addr × List Int)}, Got ks i L → ∀ p ∈ L, p ∈ ks := fun g p hp => List.mem_of_mem_take (g.sub p hp)
  induction turnsLeft with
  | zero =>
    intro i s hi st k0 ⟨L, es, ep, t, tr, g⟩ fin
    obtain rfl : i = n := by omega
    refine codeAny_builtin F.entry_set_update_loop ?_
    rw [Around.under_plainId F.plain_set_update_loop _]
    show wpAny _ A.in1 (pyNext (.ref I) >>= _) _ _ s
    refine wpAny_bind (W.done s _ _ st fun s' m => ?_)
    show wpAny _ A.in1 (ret Value.none) _ _ s'
    have k1 := older m k0
    exact wpAny_pure (fin s' L es ep t (m.mono wider) (tr.keep (fun o e => m.heap S o nw e) fun p hp => isT_keep (tups p (all g p hp)) k1) g k1)
  | succ left ih =>
    intro i s hi st k0 ⟨L, es, ep, t, tr, g⟩ fin
    refine codeAny_builtin F.entry_set_update_loop ?_
    rw [Around.under_plainId F.plain_set_update_loop _]
    show wpAny _ A.in1 (pyNext (.ref I) >>= _) _ _ s
    refine wpAny_bind (W.item i s _ _ (by omega) st fun v s' pv st' m => ?_)
    obtain ⟨p, hp, rfl⟩ := val i v pv
    have k1 := older m k0
    have tr' : SetTR P w s'.heap S L es ep t := tr.keep (fun o e => m.heap S o nw e) fun q hq => isT_keep (tups q (all g q hq)) k1
    have hx : IsT P w s'.heap p.2 p.1 := isT_keep (tups p (List.mem_of_getElem? hp)) k1
    show wpAny _ A.in1 (holding [Value.ref p.1] (setAdd S (.ref p.1)) >>= _) _ _ s'
    refine wpAny_bind (wpAny_holding ?_)
    unfold setAdd
    refine wpAny_holding (wpAny_bind (wpAny_pyHash_tuple hu hx ?_))
    refine add_at (s := { s' with toks := s'.toks + (p.2.length + 1) }) tr' hx hu (few L (all g) tr.nd) fun b h' L' es' ep' t' but tr2 same more => ?_
    have g' : Got ks (i + 1) L' := by
      by_cases c : p.2 ∈ L.map (·.2)
      · rw [same c]
        exact g.same hp c
      · exact g.more hp (more c)
    have k2 : ∀ b o, h0.get? b = some o → h'.get? b = some o := fun b o e => (but.2 b (fun z => by rw [z, S0] at e; cases e)).trans (k1 b o e)
    refine wpAny_pure ⟨plainId_quiet F.plain_set_update_loop _, ih (i + 1) _ (by omega) (W.frame _ s' _ _ st' (Nat.le_add_right _ _) fun b hb o e => ?_) k2 ⟨L', es', ep', t', tr2, g'⟩ fun s'' L2 es2 ep2 t2 m'' tr'' g'' k'' => ?_⟩
    · rw [but.2 b (fun z : b = S => nf (by rw [← z]; exact hb))]
      exact e
    · refine fin s'' L2 es2 ep2 t2 (Moved.trans W.gtrans ((m.mono wider).then_heap (Nat.le_add_right _ _) fun b o hb e => ?_) m'') tr'' g'' k''
      rw [but.2 b (fun z : b = S => hb (by rw [z]; exact List.mem_cons_self))]
      exact e
end

section
variable {P : Program} {w : World} {A : Around} {E : Value → Shared → Prop} {s : Shared}
abbrev emptySet (w : World) : Obj := { cls := .type "set", dict := none, data := .set #[] 0 (.fresh 0 0 (!w.params.followText "set-order")) }

set_option maxHeartbeats 6400000 in
/-- set(xs), xs a list at l -/
theorem call_set_list {l : Addr} {items : Array Value} (ks : List (Addr × List Int)) {Q : Value → Shared → Prop} (hh : A.handled = none) (hl : s.heap.IsList l items) (hit : items.toList = ks.map fun p => Value.ref p.1) (tups : ∀ p ∈ ks, IsT P w s.heap p.2 p.1) (few : FewIn ks) (hu : A.units + 3 < cLine)
    (h : ∀ (h' : Heap) (tk : Nat) L es ep t, SetTR P w h' s.heap.objs.size L es ep t → Got ks ks.length L → (∀ b o, s.heap.get? b = some o → h'.get? b = some o) → Q (.ref s.heap.objs.size) { s with heap := h', toks := tk }) :
    wpAny (model P w) A (call (.type "set") [.ref l]) Q E s := by
  have size : items.size = ks.length := by
    have q := congrArg List.length hit
    rwa [Array.length_toList, List.length_map] at q
  obtain ⟨c, tl, hmro⟩ := F.called_set.mro
  have hmade := F.called_set.made
  have hsub := F.called_set.sub
  refine wpAny_call (codeAny_of_tree ?_)
  show wpAny _ _ (callAny (.type "set") _) _ _ _
  refine wpAny_pure ⟨Code.quiet_builtin _ (by decide +kernel), codeAny_builtin F.entry_type_call ?_⟩
  rw [Around.under_plain (weight_type_call_type "set" [.ref l] []) rfl]
  have h1 := F.called_set.notType
  have h2 := F.called_set.canCreate
  have hct := F.typeCall_set_1 (.ref l)
  repeat (any_goals (first | assumption | wp_step))
  refine codeAny_mono (code_set_led1 (.ref l) (E := E) (Q₁ := fun obj s₁ => obj = .ref s.heap.objs.size ∧ s₁ = { s with heap := s.heap.push (emptySet w) }) ⟨rfl, rfl⟩) fun r s₁ hr => ?_
  cases r with
  | error e => exact hr
  | ok fl =>
    cases fl with
    | ret obj =>
      obtain ⟨rfl, rfl⟩ := hr
      have hS : (s.heap.push (emptySet w)).get? s.heap.objs.size = some (emptySet w) := Heap.get?_push_size _ rfl
      have hT : Shared.TypeIs { s with heap := s.heap.push (emptySet w) } (.ref s.heap.objs.size) "set" := ⟨_, hS, rfl⟩
      have hli := F.called_set.init.lookup
      have hbi := F.called_set.init.bind (.ref s.heap.objs.size)
      repeat (any_goals (first | assumption | wp_step))
      refine codeAny_mono (codeAny_call_builtin (R := wants (fun r s₂ => r = .none ∧ ∃ h' tk L es ep t, s₂ = { s with heap := h', toks := tk } ∧ SetTR P w h' s.heap.objs.size L es ep t ∧ Got ks ks.length L ∧
          (∀ b o, s.heap.get? b = some o → h'.get? b = some o)) E) F.called_set.init.plain F.entry_set_init (check_set_init_1 hT ?_)) fun r₂ s₂ hr₂ => ?_
      · obtain ⟨ol, hol, hcl, nl, hdl⟩ := hl
        obtain ⟨ocls, odict, odata, oslots⟩ := ol
        simp only at hcl hdl
        subst hcl
        subst hdl
        have hol' : (s.heap.push (emptySet w)).get? l = some { cls := .type "list", dict := odict, data := .seq items nl, slots := oslots } := Heap.get?_push_of_some _ hol
        have hsls := F.sub_list_set
        have hslf := F.sub_list_frozenset
        have hne : (Value.type "list" == Value.type "dict") = false := by decide
        have hl1 : (s.heap.push (emptySet w)).IsList l items := ⟨_, hol', rfl, nl, rfl⟩
        unfold Builtin.«set.__init__» noKeywords Builtin.Frozenset.updateFrom
        generalize hPI : pyIter = PI
        wp_walk
        subst hPI
        refine wpAny_pyIter_list hl1 ?_
        refine wpAny_bind (wpAny_runValue ?_)
        have hlS : l < s.heap.objs.size := Heap.lt_size hol
        have hh3 : A.in1.in1.in1.handled = none := by simp [hh]
        have hneI : l ≠ (s.heap.push (emptySet w)).objs.size := by
          rw [Heap.size_push]
          exact Nat.ne_of_lt (Nat.lt_succ_of_lt hlS)
        have nf : s.heap.objs.size ∉ [(s.heap.push (emptySet w)).objs.size, l] := by
          rw [Heap.size_push]
          simp only [List.mem_cons, List.mem_singleton, List.not_mem_nil, or_false, not_or]
          exact ⟨Nat.ne_of_lt (Nat.lt_succ_self _), Nat.ne_of_gt hlS⟩
        have val : ∀ (i : Nat) (v : Value), items[i]? = some v → ∃ p, ks[i]? = some p ∧ v = .ref p.1 := fun i v hv => by
          have q : items.toList[i]? = some v := by
            rw [Array.getElem?_toList]
            exact hv
          rw [hit, List.getElem?_map] at q
          cases hq : ks[i]? with
          | none => rw [hq] at q; cases q
          | some p =>
            rw [hq] at q
            exact ⟨p, rfl, (Option.some.inj q).symm⟩
        have gone : ∀ b, s.heap.objs.size ≤ b → s.heap.get? b = none := fun b hb => by
          cases q : s.heap.get? b with
          | none => rfl
          | some o => exact absurd (Nat.lt_of_lt_of_le (Heap.lt_size q) hb) (Nat.lt_irrefl _)
        refine fill_set ((Walks.list hh3 _ l hneI items).toS) s.heap.objs.size nf ks size few val s.heap tups (gone _ (Nat.le_refl _)) (fun b hb => gone b (by
            rw [List.mem_singleton.mp hb, Heap.size_push]
            exact Nat.le_succ _)) hu items.size 0 _ (by omega)
          ⟨⟨_, Heap.get?_push_size _ rfl, rfl, rfl⟩, (hl1.push _)⟩ (fun b o e => Heap.get?_push_of_some _ (Heap.get?_push_of_some _ e)) ?ahead ?behind
        case ahead =>
          have hget : ((s.heap.push (emptySet w)).push { cls := .type "list_iterator", data := .fields #[.ref l, .int 0 0] }).get? s.heap.objs.size = some (emptySet w) := Heap.get?_push_of_some _ hS
          exact ⟨[], #[], 0, _, setTR_fresh hget, Got.zero ks⟩
        case behind =>
          intro s' L es ep t hm hS' g' hkp
          obtain ⟨h', g2, d', tk', os'⟩ := s'
          have eg : g2 = s.gens := hm.gens
          have ed : d' = s.drawn := hm.drawn
          have eo : os' = s.os := hm.os
          subst eg
          subst ed
          subst eo
          show wpAny _ _ _ _ _ _
          refine wpAny_pure ?_
          show wpAny _ _ (ret Value.none) _ _ _
          rw [size] at g'
          exact wpAny_pure ⟨rfl, h', tk', L, es, ep, t, rfl, hS', g', hkp⟩
      · cases r₂ with
        | error e => exact hr₂
        | ok fl₂ =>
          cases fl₂ with
          | ret r =>
            obtain ⟨rfl, h', tk, L, es, ep, t, rfl, hS', g', hk'⟩ := hr₂
            repeat (any_goals (first | assumption | wp_step))
            exact h _ _ _ _ _ _ hS' g' hk'
          | _ => exact hr₂.elim
    | _ => exact hr.elim

set_option maxHeartbeats 6400000 in
/-- set(xs), xs a tuple at l -/
theorem call_set_tuple {l : Addr} {items : Array Value} (ks : List (Addr × List Int)) {Q : Value → Shared → Prop} (hh : A.handled = none) (hl : s.heap.IsTuple l items) (hit : items.toList = ks.map fun p => Value.ref p.1) (tups : ∀ p ∈ ks, IsT P w s.heap p.2 p.1) (few : FewIn ks) (hu : A.units + 3 < cLine)
    (h : ∀ (h' : Heap) (tk : Nat) L es ep t, SetTR P w h' s.heap.objs.size L es ep t → Got ks ks.length L → (∀ b o, s.heap.get? b = some o → h'.get? b = some o) → Q (.ref s.heap.objs.size) { s with heap := h', toks := tk }) :
    wpAny (model P w) A (call (.type "set") [.ref l]) Q E s := by
  have size : items.size = ks.length := by
    have q := congrArg List.length hit
    rwa [Array.length_toList, List.length_map] at q
  obtain ⟨c, tl, hmro⟩ := F.called_set.mro
  have hmade := F.called_set.made
  have hsub := F.called_set.sub
  refine wpAny_call (codeAny_of_tree ?_)
  show wpAny _ _ (callAny (.type "set") _) _ _ _
  refine wpAny_pure ⟨Code.quiet_builtin _ (by decide +kernel), codeAny_builtin F.entry_type_call ?_⟩
  rw [Around.under_plain (weight_type_call_type "set" [.ref l] []) rfl]
  have h1 := F.called_set.notType
  have h2 := F.called_set.canCreate
  have hct := F.typeCall_set_1 (.ref l)
  repeat (any_goals (first | assumption | wp_step))
  refine codeAny_mono (code_set_led1 (.ref l) (E := E) (Q₁ := fun obj s₁ => obj = .ref s.heap.objs.size ∧ s₁ = { s with heap := s.heap.push (emptySet w) }) ⟨rfl, rfl⟩) fun r s₁ hr => ?_
  cases r with
  | error e => exact hr
  | ok fl =>
    cases fl with
    | ret obj =>
      obtain ⟨rfl, rfl⟩ := hr
      have hS : (s.heap.push (emptySet w)).get? s.heap.objs.size = some (emptySet w) := Heap.get?_push_size _ rfl
      have hT : Shared.TypeIs { s with heap := s.heap.push (emptySet w) } (.ref s.heap.objs.size) "set" := ⟨_, hS, rfl⟩
      have hli := F.called_set.init.lookup
      have hbi := F.called_set.init.bind (.ref s.heap.objs.size)
      repeat (any_goals (first | assumption | wp_step))
      refine codeAny_mono (codeAny_call_builtin (R := wants (fun r s₂ => r = .none ∧ ∃ h' tk L es ep t, s₂ = { s with heap := h', toks := tk } ∧ SetTR P w h' s.heap.objs.size L es ep t ∧ Got ks ks.length L ∧
          (∀ b o, s.heap.get? b = some o → h'.get? b = some o)) E) F.called_set.init.plain F.entry_set_init (check_set_init_1 hT ?_)) fun r₂ s₂ hr₂ => ?_
      · obtain ⟨ol, hol, hcl, nl, hdl⟩ := hl
        obtain ⟨ocls, odict, odata, oslots⟩ := ol
        simp only at hcl hdl
        subst hcl
        subst hdl
        have hol' : (s.heap.push (emptySet w)).get? l = some { cls := .type "tuple", dict := odict, data := .seq items nl, slots := oslots } := Heap.get?_push_of_some _ hol
        have hsls := F.sub_tuple_set
        have hslf := F.sub_tuple_frozenset
        have hne : (Value.type "tuple" == Value.type "dict") = false := by decide
        have hl1 : (s.heap.push (emptySet w)).IsTuple l items := ⟨_, hol', rfl, nl, rfl⟩
        unfold Builtin.«set.__init__» noKeywords Builtin.Frozenset.updateFrom
        generalize hPI : pyIter = PI
        wp_walk
        subst hPI
        refine wpAny_pyIter_tuple hl1 ?_
        refine wpAny_bind (wpAny_runValue ?_)
        have hlS : l < s.heap.objs.size := Heap.lt_size hol
        have hh3 : A.in1.in1.in1.handled = none := by simp [hh]
        have hneI : l ≠ (s.heap.push (emptySet w)).objs.size := by
          rw [Heap.size_push]
          exact Nat.ne_of_lt (Nat.lt_succ_of_lt hlS)
        have nf : s.heap.objs.size ∉ [(s.heap.push (emptySet w)).objs.size, l] := by
          rw [Heap.size_push]
          simp only [List.mem_cons, List.mem_singleton, List.not_mem_nil, or_false, not_or]
          exact ⟨Nat.ne_of_lt (Nat.lt_succ_self _), Nat.ne_of_gt hlS⟩
        have val : ∀ (i : Nat) (v : Value), items[i]? = some v → ∃ p, ks[i]? = some p ∧ v = .ref p.1 := fun i v hv => by
          have q : items.toList[i]? = some v := by
            rw [Array.getElem?_toList]
            exact hv
          rw [hit, List.getElem?_map] at q
          cases hq : ks[i]? with
          | none => rw [hq] at q; cases q
          | some p =>
            rw [hq] at q
            exact ⟨p, rfl, (Option.some.inj q).symm⟩
        have gone : ∀ b, s.heap.objs.size ≤ b → s.heap.get? b = none := fun b hb => by
          cases q : s.heap.get? b with
          | none => rfl
          | some o => exact absurd (Nat.lt_of_lt_of_le (Heap.lt_size q) hb) (Nat.lt_irrefl _)
        refine fill_set ((Walks.tuple hh3 _ l hneI items).toS) s.heap.objs.size nf ks size few val s.heap tups (gone _ (Nat.le_refl _)) (fun b hb => gone b (by
            rw [List.mem_singleton.mp hb, Heap.size_push]
            exact Nat.le_succ _)) hu items.size 0 _ (by omega)
          ⟨⟨_, Heap.get?_push_size _ rfl, rfl, rfl⟩, (hl1.push _)⟩ (fun b o e => Heap.get?_push_of_some _ (Heap.get?_push_of_some _ e)) ?ahead ?behind
        case ahead =>
          have hget : ((s.heap.push (emptySet w)).push { cls := .type "tuple_iterator", data := .fields #[.ref l, .int 0 0] }).get? s.heap.objs.size = some (emptySet w) := Heap.get?_push_of_some _ hS
          exact ⟨[], #[], 0, _, setTR_fresh hget, Got.zero ks⟩
        case behind =>
          intro s' L es ep t hm hS' g' hkp
          obtain ⟨h', g2, d', tk', os'⟩ := s'
          have eg : g2 = s.gens := hm.gens
          have ed : d' = s.drawn := hm.drawn
          have eo : os' = s.os := hm.os
          subst eg
          subst ed
          subst eo
          show wpAny _ _ _ _ _ _
          refine wpAny_pure ?_
          show wpAny _ _ (ret Value.none) _ _ _
          rw [size] at g'
          exact wpAny_pure ⟨rfl, h', tk', L, es, ep, t, rfl, hS', g', hkp⟩
      · cases r₂ with
        | error e => exact hr₂
        | ok fl₂ =>
          cases fl₂ with
          | ret r =>
            obtain ⟨rfl, h', tk, L, es, ep, t, rfl, hS', g', hk'⟩ := hr₂
            repeat (any_goals (first | assumption | wp_step))
            exact h _ _ _ _ _ _ hS' g' hk'
          | _ => exact hr₂.elim
    | _ => exact hr.elim
end
end BV

namespace BV
open PySem PySem.Spec L2
open PyProof.Rows hiding St

/-! ### pairs of ints, in order -/
abbrev Pr := Int × Int
def pd (p : Pr) : PyData := .tuple [.int p.1, .int p.2]
def ltP (p q : Pr) : Prop := p.1 < q.1 ∨ (p.1 = q.1 ∧ p.2 < q.2)
instance (p q : Pr) : Decidable (ltP p q) := inferInstanceAs (Decidable (_ ∨ _))
def insP (p : Pr) : List Pr → List Pr
  | [] => [p]
  | q :: r => if ltP p q then p :: q :: r else if p = q then q :: r else q :: insP p r
def sortP (ps : List Pr) : List Pr := ps.foldr insP []
theorem ltP_irrefl (p : Pr) : ¬ ltP p p := fun h => by
  unfold ltP at h
  omega
theorem ltP_trans {p q r : Pr} (a : ltP p q) (b : ltP q r) : ltP p r := by
  unfold ltP at *
  omega
theorem ltP_total {p q : Pr} (h : ¬ ltP p q) (h2 : p ≠ q) : ltP q p := by
  unfold ltP at *
  obtain ⟨a, b⟩ := p
  obtain ⟨c, d⟩ := q
  have : ¬ (a = c ∧ b = d) := fun ⟨x, y⟩ => h2 (by rw [x, y])
  simp only at h ⊢
  omega
theorem mem_insP {p q : Pr} : ∀ {l : List Pr}, q ∈ insP p l ↔ q = p ∨ q ∈ l
  | [] => by simp [insP]
  | x :: r => by
    unfold insP
    split
    · simp
    · split
      · rename_i _ h
        subst h
        simp
      · simp only [List.mem_cons, mem_insP]
        constructor
        · rintro (h | h | h) <;> simp [h]
        · rintro (h | h | h) <;> simp [h]
theorem mem_sortP {q : Pr} : ∀ {ps : List Pr}, q ∈ sortP ps ↔ q ∈ ps
  | [] => by simp [sortP]
  | p :: ps => by
    show q ∈ insP p (sortP ps) ↔ _
    rw [mem_insP, mem_sortP, List.mem_cons]
theorem sorted_insP {p : Pr} : ∀ {l : List Pr}, l.Pairwise ltP → (insP p l).Pairwise ltP
  | [], _ => by simp [insP]
  | x :: r, h => by
    obtain ⟨h1, h2⟩ := List.pairwise_cons.mp h
    unfold insP
    split
    · rename_i c
      refine List.pairwise_cons.mpr ⟨fun y hy => ?_, h⟩
      rcases List.mem_cons.mp hy with rfl | hy
      · exact c
      · exact ltP_trans c (h1 y hy)
    · split
      · exact h
      · rename_i c c2
        refine List.pairwise_cons.mpr ⟨fun y hy => ?_, sorted_insP h2⟩
        rcases mem_insP.mp hy with rfl | hy
        · exact ltP_total c c2
        · exact h1 y hy
theorem sorted_sortP : ∀ ps : List Pr, (sortP ps).Pairwise ltP
  | [] => List.Pairwise.nil
  | p :: ps => sorted_insP (sorted_sortP ps)
/-- in order and the same members: the same list -/
theorem sorted_unique : ∀ {l m : List Pr}, l.Pairwise ltP → m.Pairwise ltP → (∀ q, q ∈ l ↔ q ∈ m) → l = m
  | [], [], _, _, _ => rfl
  | [], y :: m, _, _, h => by
    have := (h y).mpr List.mem_cons_self
    simp at this
  | x :: l, [], _, _, h => by
    have := (h x).mp List.mem_cons_self
    simp at this
  | x :: l, y :: m, h1, h2, h => by
    obtain ⟨a1, a2⟩ := List.pairwise_cons.mp h1
    obtain ⟨b1, b2⟩ := List.pairwise_cons.mp h2
    have exy : x = y := by
      rcases List.mem_cons.mp ((h x).mp List.mem_cons_self) with e | hx
      · exact e
      · rcases List.mem_cons.mp ((h y).mpr List.mem_cons_self) with e | hy
        · exact e.symm
        · exact absurd (ltP_trans (a1 y hy) (b1 x hx)) (ltP_irrefl x)
    subst exy
    rw [sorted_unique a2 b2 fun q => ⟨fun hq => ?_, fun hq => ?_⟩]
    · rcases List.mem_cons.mp ((h q).mp (List.mem_cons_of_mem _ hq)) with e | z
      · subst e
        exact absurd (a1 q hq) (ltP_irrefl q)
      · exact z
    · rcases List.mem_cons.mp ((h q).mpr (List.mem_cons_of_mem _ hq)) with e | z
      · subst e
        exact absurd (b1 q hq) (ltP_irrefl q)
      · exact z
def pairOf : PyData → Option Pr
  | .tuple [.int a, .int b] => some (a, b)
  | _ => none
def pairsOf : List PyData → Option (List Pr)
  | [] => some []
  | d :: ds => match pairOf d, pairsOf ds with
    | some p, some ps => some (p :: ps)
    | _, _ => none
theorem pairOf_eq {d : PyData} {p : Pr} (h : pairOf d = some p) : d = pd p := by
  unfold pairOf at h
  split at h
  · cases h
    rfl
  · cases h
theorem pairOf_pd (p : Pr) : pairOf (pd p) = some p := rfl
theorem pairsOf_eq : ∀ {ds : List PyData} {ps : List Pr}, pairsOf ds = some ps → ds = ps.map pd
  | [], ps, h => by cases h; rfl
  | d :: ds, ps, h => by
    simp only [pairsOf] at h
    split at h
    · rename_i p qs h1 h2
      cases h
      rw [pairOf_eq h1, pairsOf_eq h2]
      rfl
    · cases h
theorem pairsOf_map : ∀ ps : List Pr, pairsOf (ps.map pd) = some ps
  | [] => rfl
  | p :: ps => by simp [pairsOf, pairOf_pd, pairsOf_map ps]
def in64 (p : Pr) : Bool := decide (0 ≤ p.1 ∧ p.1 < 64 ∧ 0 ≤ p.2 ∧ p.2 < 64)
def dSortSet : List PyData → Option Val
  | [d] => match (seqOf d).bind pairsOf with
    | some ps => if ps.all in64 && decide ((sortP ps).length ≤ 62) then some (.new ((sortP ps).map pd)) else none
    | none => none
  | _ => none

section
variable {X : Cx} {W : WX} {pos : Pos} {a : Expr} {fs : M (List Opd)}
def rSetC (K : Fg) (P : Program) (w : World) : List V → Hp → VK → Prop := fun xs H Q => ∃ (l : Addr) (ks : List (Addr × List Int)), xs = [V.ref l] ∧ (SqL K H l (ks.map fun p => V.ref p.1) ∨ SqT K H l (ks.map fun p => V.ref p.1)) ∧ (∀ p ∈ ks, SqT K H p.1 (p.2.map V.int)) ∧ FewIn ks ∧
  ∀ a L, H a = none → (∀ p ∈ L, p ∈ ks) → (∀ p ∈ ks, p.2 ∈ L.map (·.2)) → Q (.ref a) (upd H a (SetTO P w a L))
theorem cr_setC (hc : X.calm = true) (hu : X.A.units + 64 < cLine) : CallR X (.type "set") (rSetC X.K X.prog X.w) := by
  intro pins s σ H xs us Q I r h
  obtain ⟨l, ks, rfl, hl, hk, hf, q⟩ := h
  rw [Vals.ref1 r]
  have hn : H s.heap.objs.size = none := I.hok.fresh (Nat.le_refl _)
  have fin : ∀ (h' : Heap) (tk : Nat) L es ep t, SetTR X.prog X.w h' s.heap.objs.size L es ep t → Got ks ks.length L → (∀ b o, s.heap.get? b = some o → h'.get? b = some o) → EP X pins σ Q (.ref s.heap.objs.size) { s with heap := h', toks := tk } := fun h' tk L es ep t R g k =>
    ⟨.ref s.heap.objs.size, upd H s.heap.objs.size (SetTO X.prog X.w s.heap.objs.size L), I.laid (t' := tk) k (Nat.le_refl _) (setTO_new R.t0), rfl, q _ L hn (fun p hp => List.mem_of_mem_take (g.sub p hp)) fun p hp => g.all p (by rw [List.take_length]; exact hp)⟩
  rcases hl with hl | hl
  · obtain ⟨its, rv, pl, hz⟩ := I.list hl
    exact call_set_list (P := X.prog) (w := X.w) ks (I.ok.hd hc) pl.isList (by simpa using refs_of_vals rv) (fun p hp => I.isT (hk p hp)) hf (by omega) fin
  · obtain ⟨its, rv, pl, hz⟩ := I.tuple hl
    exact call_set_tuple (P := X.prog) (w := X.w) ks (I.ok.hd hc) pl (by simpa using refs_of_vals rv) (fun p hp => I.isT (hk p hp)) hf (by omega) fin
/-- the rows of a list of pairs -/
theorem rows_of {K : Fg} {Z : Hp} : ∀ {vs : List V} {ps : List Pr}, DtAll K Z vs (ps.map pd) → ∃ ks : List (Addr × List Int), vs = ks.map (fun p => V.ref p.1) ∧ ks.map (·.2) = ps.map (fun p => [p.1, p.2]) ∧ ∀ p ∈ ks, SqT K Z p.1 (p.2.map V.int)
  | _, [], h => by
    cases h
    exact ⟨[], rfl, rfl, fun p hp => by simp at hp⟩
  | _, p :: ps, h => by
    cases h with
    | cons h1 h2 =>
      obtain ⟨ks, e1, e2, hk⟩ := rows_of h2
      cases h1 with
      | @tup t xs _ hr ha =>
        refine ⟨(t, [p.1, p.2]) :: ks, by rw [e1]; rfl, by rw [List.map_cons, e2]; rfl, fun q hq => ?_⟩
        rcases List.mem_cons.mp hq with rfl | hq
        · have e := DtAll.intsV (ns := [p.1, p.2]) ha
          rw [e] at hr
          exact hr
        · exact hk q hq
theorem pr_of_row : ∀ {l : List (Addr × List Int)} {ps : List Pr}, (∀ q ∈ l, ∃ p ∈ ps, q.2 = [p.1, p.2]) → ∃ qs : List Pr, l.map (·.2) = qs.map (fun p => [p.1, p.2]) ∧ ∀ q ∈ qs, q ∈ ps
  | [], ps, _ => ⟨[], rfl, fun q hq => by simp at hq⟩
  | x :: l, ps, h => by
    obtain ⟨p, hp, e⟩ := h x List.mem_cons_self
    obtain ⟨qs, e2, hs⟩ := pr_of_row fun q hq => h q (List.mem_cons_of_mem _ hq)
    refine ⟨p :: qs, by rw [List.map_cons, List.map_cons, e, e2], fun q hq => ?_⟩
    rcases List.mem_cons.mp hq with rfl | hq
    · exact hp
    · exact hs q hq
theorem two_inj {p q : Pr} (h : [p.1, p.2] = [q.1, q.2]) : p = q := by
  injection h with h1 h2
  injection h2 with h2 _
  exact Prod.ext h1 h2
theorem map_two_mem {p : Pr} {qs : List Pr} (h : [p.1, p.2] ∈ qs.map (fun p => [p.1, p.2])) : p ∈ qs := by
  obtain ⟨q, hq, e⟩ := List.mem_map.mp h
  rw [← two_inj e]
  exact hq
theorem nodup_two {qs : List Pr} (h : (qs.map (fun p => [p.1, p.2])).Nodup) : qs.Nodup := nodup_of_map h
theorem pair_nodup_len : ∀ (l D : List Pr), l.Nodup → (∀ x ∈ l, x ∈ D) → l.length ≤ D.length
  | [], _, _, _ => Nat.zero_le _
  | x :: l, D, hn, hs => by
    obtain ⟨h1, h2⟩ := List.nodup_cons.mp hn
    have hx : x ∈ D := hs x List.mem_cons_self
    have ih := pair_nodup_len l (D.erase x) h2 fun y hy => (List.mem_erase_of_ne fun e => h1 (by rw [← e]; exact hy)).2 (hs y (List.mem_cons_of_mem _ hy))
    have e := List.length_erase_of_mem hx
    have hp : 0 < D.length := List.length_pos_of_mem hx
    rw [List.length_cons]
    omega
theorem dts_of {K : Fg} {Z : Hp} : ∀ {L : List (Addr × List Int)} {qs : List Pr}, L.map (·.2) = qs.map (fun p => [p.1, p.2]) → (∀ p ∈ L, SqT K Z p.1 (p.2.map V.int)) → DtAll K Z (L.map fun q => V.ref q.1) (qs.map pd)
  | [], [], _, _ => .nil
  | [], _ :: _, e, _ => by simp at e
  | _ :: _, [], e, _ => by simp at e
  | x :: L, q :: qs, e, h => by
    rw [List.map_cons, List.map_cons] at e
    injection e with e1 e2
    refine .cons ?_ (dts_of e2 fun p hp => h p (List.mem_cons_of_mem _ hp))
    have z := h x List.mem_cons_self
    rw [e1] at z
    exact .tup z (.cons (.int _) (.cons (.int _) .nil))
theorem se_sortset {k : Nat} {p1 p2 pos2 : Pos} (hc : X.calm = true) (hr : Room k X.A) (hm : X.mg "sorted" = none) (hm2 : X.mg "set" = none) (ha : SA X W [a] fs) (hg : Gl X "sorted" := by rfl) (hg2 : Gl X "set" := by rfl)
    (he : starEach [a] X.env = (false, eval a X.env) :: starEach [] X.env := by rfl) (he2 : starEach [.Call (.Name "set" p2) [a] [] pos2] X.env = (false, eval (.Call (.Name "set" p2) [a] [] pos2) X.env) :: starEach [] X.env := by rfl) :
    SE X W (.Call (.Name "sorted" p1) [.Call (.Name "set" p2) [a] [] pos2] [] pos) (fCl dSortSet fs) := by
  obtain ⟨t, p, s⟩ := ha
  refine ⟨_, pe_callB (cr_sortedT hc) hg hm boot_sorted (pa_cons (pe_callTy (cr_setC hc hr.units) hg2 hm2 PyProof.Rows.boot_set p (by decide) (by decide) he) pa_nil he2), fun σ H Z env R o e Q k => ?_⟩
  rcases obind_some e with ⟨rs, e1, h1, e⟩ | ⟨x, e1, h1, rfl⟩
  · refine s σ H Z env R _ h1 _ fun v H1 Z1 S1 i1 => ?_
    split at e
    · rename_i ds hd
      rw [Option.map_eq_some_iff] at e
      obtain ⟨r', hr', rfl⟩ := e
      have dq := IsOs.dq S1.rep i1 hd
      unfold dSortSet at hr'
      split at hr'
      · rename_i d
        split at hr'
        · rename_i ps hps
          split at hr'
          · rename_i hb
            cases hr'
            rw [Bool.and_eq_true] at hb
            obtain ⟨b1, b2⟩ := hb
            have b2 := of_decide_eq_true b2
            rw [Option.bind_eq_some_iff] at hps
            obtain ⟨es, hs, hps⟩ := hps
            have hes := pairsOf_eq hps
            subst hes
            match v, dq with
            | [x], dq =>
              have l := S1.rep.zh
              -- the items' addresses
              obtain ⟨c, xs, rfl, hx, hxa⟩ : ∃ (c : Addr) (xs : List V), x = .ref c ∧ (SqL X.K H1 c xs ∨ SqT X.K H1 c xs) ∧ DtAll X.K Z1 xs (ps.map pd) := by
                cases d with
                | list es =>
                  cases hs
                  obtain ⟨c, xs, e, hr, ha⟩ := dq.1.list l
                  exact ⟨c, xs, e, .inl (.inl hr), ha⟩
                | tuple es =>
                  cases hs
                  obtain ⟨c, xs, e, hr, ha, _⟩ := dq.1.tuple l
                  exact ⟨c, xs, e, .inr hr, ha⟩
                | _ => cases hs
              obtain ⟨ks, e1, e2, hk⟩ := rows_of hxa
              subst e1
              have hrow : ∀ q ∈ ks, ∃ p ∈ ps, q.2 = [p.1, p.2] := fun q hq => by
                have z : q.2 ∈ ps.map (fun p => [p.1, p.2]) := by
                  rw [← e2]
                  exact List.mem_map.mpr ⟨q, hq, rfl⟩
                obtain ⟨p, hp, e⟩ := List.mem_map.mp z
                exact ⟨p, hp, e.symm⟩
              refine ⟨c, ks, rfl, hx, fun p hp => l.sqT (hk p hp), fun L hL nd => ?_, fun sa L hsa hL hall => ?_⟩
              · obtain ⟨qs, f1, f2⟩ := pr_of_row (l := L) (ps := ps) fun q hq => hrow q (hL q hq)
                rw [f1] at nd
                have z := pair_nodup_len qs (sortP ps) (nodup_two nd) fun x hx => mem_sortP.mpr (f2 x hx)
                have len : L.length = qs.length := by
                  have := congrArg List.length f1
                  rwa [List.length_map, List.length_map] at this
                omega
              · have kt : ∀ p ∈ L, SqT X.K (upd H1 sa (SetTO X.prog X.w sa L)) p.1 (p.2.map V.int) := fun p hp => by
                  have le : Le H1 (upd H1 sa (SetTO X.prog X.w sa L)) := fun b u e => by
                    rw [upd_ne (ne_of_none e hsa)]
                    exact e
                  exact le.sqT (l.sqT (hk p (hL p hp)))
                refine ⟨sa, L, 2, 64, rfl, upd_same, kt, by decide, fun p hp => ?_, fun L' p' pm nd few pw hp' => ?_⟩
                · obtain ⟨q, hq, e⟩ := hrow p (hL p hp)
                  have z := of_decide_eq_true ((List.all_eq_true.mp b1) q hq)
                  refine ⟨by rw [e]; rfl, fun y hy => ?_⟩
                  rw [e] at hy
                  rcases List.mem_cons.mp hy with e | hy
                  · rw [e]
                    exact ⟨z.1, z.2.1⟩
                  · rw [List.mem_singleton.mp hy]
                    exact ⟨z.2.2.1, z.2.2.2⟩
                · obtain ⟨qs, f1, f2⟩ := pr_of_row (l := L') (ps := ps) fun q hq => hrow q (hL q (pm.mem_iff.mp hq))
                  -- the sorted pairs
                  have nq : qs.Nodup := nodup_two (by rw [← f1]; exact nd)
                  have pwq : qs.Pairwise (fun p q => TS.code 64 [p.1, p.2] ≤ TS.code 64 [q.1, q.2]) := by
                    have z : (L'.map (·.2)).Pairwise (fun q r => TS.code 64 q ≤ TS.code 64 r) := List.pairwise_map.mpr pw
                    rw [f1] at z
                    exact (List.pairwise_map (R := fun q r => TS.code 64 q ≤ TS.code 64 r)).mp z
                  have srt : qs.Pairwise ltP := by
                    refine List.Pairwise.imp_of_mem (fun {p q} hp hq h => ?_) (List.Pairwise.and pwq nq)
                    have zp := of_decide_eq_true ((List.all_eq_true.mp b1) p (f2 p hp))
                    have zq := of_decide_eq_true ((List.all_eq_true.mp b1) q (f2 q hq))
                    have c1 := h.1
                    rw [code_pair, code_pair] at c1
                    have ne : ¬ (p.1 = q.1 ∧ p.2 = q.2) := fun ⟨x, y⟩ => h.2 (Prod.ext x y)
                    unfold ltP
                    omega
                  have eqs : qs = sortP ps := by
                    refine sorted_unique srt (sorted_sortP ps) fun q => ⟨fun hq => mem_sortP.mpr (f2 q hq), fun hq => ?_⟩
                    have hq := mem_sortP.mp hq
                    have m : [q.1, q.2] ∈ ks.map (·.2) := by
                      rw [e2]
                      exact List.mem_map.mpr ⟨q, hq, rfl⟩
                    obtain ⟨r, hr, er⟩ := List.mem_map.mp m
                    have m2 := hall r hr
                    rw [er] at m2
                    have m3 : [q.1, q.2] ∈ L'.map (·.2) := ((pm.map (·.2)).mem_iff).mpr m2
                    rw [f1] at m3
                    exact map_two_mem m3
                  subst eqs
                  -- two new objects: the set, the list
                  have hp1 : H1 p' = none := by
                    by_cases hz : p' = sa
                    · rw [hz]; exact hsa
                    · rw [upd_ne hz] at hp'
                      exact hp'
                  have hps' : p' ≠ sa := fun z => by
                    rw [z, upd_same] at hp'
                    cases hp'
                  have le1 : Le Z1 (upd H1 sa (SetTO X.prog X.w sa L)) := fun b u e => by
                    rw [upd_ne (ne_of_none (l b u e) hsa)]
                    exact l b u e
                  have dd := dts_of (K := X.K) (Z := Z1) f1 fun p hp => hk p (hL p (pm.mem_iff.mp hp))
                  refine k _ _ Z1 (S1.trans (S1.rep.more (fun b u e => ⟨?_, rfl⟩) ?_)) ⟨p', _, rfl, upd_same, le_none l hp1, dd, fresh_own S1.rep hp1, S1.fresh hp1⟩
                  · rw [upd_ne (ne_of_none e hp1), upd_ne (ne_of_none e hsa)]
                    exact e
                  · intro b u e
                    rw [upd_ne (ne_of_none (l b u e) hp1)]
                    exact le1 b u e
          · cases hr'
        · cases hr'
      · cases hr'
    · cases e
  · exact s σ H Z env R _ h1 _ fun c d H1 Z1 S1 i1 => k c d H1 Z1 S1 i1
end
end BV

namespace BV
open PySem PySem.Spec L2
open PyProof.Rows hiding St

section
variable {X : Cx} {W : WX} {pos : Pos} {a b c e : Expr} {fa fb fc : M Opd} {pn : Nat}
/-! ### isinstance of a built-in class -/
def tyN : PyData → Option String
  | .none => some "NoneType"
  | .bool _ => some "bool"
  | .int _ => some "int"
  | .str _ => some "str"
  | .list _ => some "list"
  | .tuple _ => some "tuple"
  | .dict _ => none
def dIsi (T : String) : PyData → Option Val := fun d => (tyN d).bind fun n => (kitB n T).map fun b => .imm (.bool b)
theorem tyX_at {K : Fg} {H Z : Hp} {v : V} {d : PyData} {n : String} (l : Le Z H) (h : Dq K H Z v d) (e : tyN d = some n) : TyX K H v (.type n) := by
  cases d with
  | none => cases e; rw [h.non]; exact .base .non
  | bool b => cases e; rw [h.bl]; exact .base (.bl b)
  | int i => cases e; rw [h.int]; exact .base (.int i)
  | str s => cases e; rw [h.str]; exact .base (.str s)
  | list ds =>
    cases e
    obtain ⟨a, xs, rfl, hr, _⟩ := h.list l
    rcases hr with hr | ⟨o, hr⟩
    · exact .base (.lst hr)
    · exact .base (.frz hr)
  | tuple ds =>
    cases e
    obtain ⟨a, xs, rfl, hr, _⟩ := h.tuple l
    rcases hr with (hr | ⟨o, hr⟩) | ⟨o, its, m, h1, h2, _⟩
    · exact .base (.tup hr)
    · exact .fTuple hr
    · exact .kTuple h1 h2
  | dict _ => cases e
theorem se_isi {T : String} {x : Str} {p p2 : Pos} (hm : X.mg "isinstance" = none) (hmT : X.mg x = none) (hv : bootBuiltins x = some (.type T)) (ha : SE X W a fa) (hg : Gl X "isinstance" := by rfl) (hgT : Gl X x := by rfl) (hn : x ≠ "__name__" := by decide) (hd : (x == ("__debug__" : Str)) = false := by decide)
    (he : starEach [a, .Name x p2] X.env = (false, eval a X.env) :: starEach [.Name x p2] X.env := by rfl) (hpl : (backTo pos (starEach [.Name x p2] X.env)).any (·.1) = false := by rfl) (he2 : starEach [.Name x p2] X.env = (false, eval (.Name x p2) X.env) :: starEach [] X.env := by rfl) :
    SE X W (.Call (.Name "isinstance" p) [a, .Name x p2] [] pos) (fUn (dIsi T) fa) := by
  refine se_op1 (r := fun x H Q => rIsi X.K [x, .ty T] H Q) (fun ta pa => ?_) ?_ ha
  · have z := pe_callB (X := X) (p := p) (pos := pos) call_isi hg hm PyProof.Rows.boot_isinstance (pa_cons pa (pa_cons (pe_bltn (v := .ty T) hgT hmT hv rfl hn hd) pa_nil he2) he) (by decide) (by decide) he hpl
    exact z
  · intro H Z x d1 o l h e Q k
    unfold dIsi at e
    rw [Option.bind_eq_some_iff] at e
    obtain ⟨n, en, e⟩ := e
    rw [Option.map_eq_some_iff] at e
    obtain ⟨r, er, rfl⟩ := e
    exact ⟨x, .ty T, .type n, .type T, r, rfl, .ty T, tyX_at l h en, kit_ty er, k _ H Z (fun _ _ e => ⟨e, rfl⟩) l (.bl _)⟩
/-! ### is True, is False -/
def dIsB : PyData → PyData → Option Val
  | .bool a, .bool b => some (.imm (.bool (decide (a = b))))
  | _, _ => none
def dNotIsB : PyData → PyData → Option Val
  | .bool a, .bool b => some (.imm (.bool (!decide (a = b))))
  | _, _ => none
theorem od_isB {K : Fg} : OpD K rIsB dIsB := by
  intro H Z x y d1 d2 o l h1 h2 e Q k
  unfold dIsB at e
  split at e
  · cases e
    exact ⟨_, _, h1.bl, h2.bl, k _ H Z (fun _ _ e => ⟨e, rfl⟩) l (.bl _)⟩
  · cases e
theorem od_notB {K : Fg} : OpD K rNotB dNotIsB := by
  intro H Z x y d1 d2 o l h1 h2 e Q k
  unfold dNotIsB at e
  split at e
  · cases e
    exact ⟨_, _, h1.bl, h2.bl, k _ H Z (fun _ _ e => ⟨e, rfl⟩) l (.bl _)⟩
  · cases e
/-! ### a < b < c -/
def boolV : Option Val → Option Bool
  | some (.imm (.bool b)) => some b
  | _ => none
def fChain (F G : PyData → PyData → Option Val) (fa fb fc : M Opd) : M Opd := fun env =>
  obind (fa env) fun ra e1 => obind (fb e1) fun rb e2 => match ra.d e2, rb.d e2 with
    | some x, some y => (match boolV (F x y) with
      | some true => obind (fc e2) fun rc e3 => match rb.d e3, rc.d e3 with
        | some y, some z => (match boolV (G y z) with
          | some b => some (.ok (.val (.imm (.bool b))) e3)
          | none => none)
        | _, _ => none
      | some false => some (.ok (.val (.imm (.bool false))) e2)
      | none => none)
    | _, _ => none
theorem boolV_some {o : Option Val} {b : Bool} (h : boolV o = some b) : o = some (.imm (.bool b)) := by
  unfold boolV at h
  split at h
  · cases h
    rfl
  · cases h
theorem chain_sim {r r' : R2} {F G : PyData → PyData → Option Val} {ta tb tc : TE} (D1 : OpD X.K r F) (D2 : OpD X.K r' G)
    (sa : ∀ σ H Z env, Rep X.K H Z σ env → ∀ o, fa env = some o → ∀ Q : VK, PostE X.K W σ env H Z Q o → ta σ H Q)
    (sb : ∀ σ H Z env, Rep X.K H Z σ env → ∀ o, fb env = some o → ∀ Q : VK, PostE X.K W σ env H Z Q o → tb σ H Q)
    (sc : ∀ σ H Z env, Rep X.K H Z σ env → ∀ o, fc env = some o → ∀ Q : VK, PostE X.K W σ env H Z Q o → tc σ H Q) :
    ∀ σ H Z env, Rep X.K H Z σ env → ∀ o, fChain F G fa fb fc env = some o → ∀ Q : VK, PostE X.K W σ env H Z Q o → tChain r r' ta tb tc σ H Q := by
  intro σ H Z env R o e Q k
  rcases obind_some e with ⟨ra, e1, h1, e⟩ | ⟨x, e1, h1, rfl⟩
  · refine sa σ H Z env R _ h1 _ fun v H1 Z1 S1 i1 => ?_
    rcases obind_some e with ⟨rb, e2, h2, e⟩ | ⟨x, e2, h2, rfl⟩
    · refine sb σ H1 Z1 e1 S1.rep _ h2 _ fun u H2 Z2 S2 i2 => ?_
      have S12 := S1.trans S2
      split at e
      · rename_i x y hx hy
        split at e
        · rename_i hb
          refine D1 H2 Z2 v u x y _ S2.rep.zh (IsO.dq S2.rep (IsO.step S1.rep S2 i1) hx) (IsO.dq S2.rep i2 hy) (boolV_some hb) _ fun w H3 Z3 f3 l3 i3 => ?_
          have i3 : Dt X.K Z3 w (.bool true) := i3
          cases i3
          have S3 := S2.rep.more f3 l3
          refine ⟨true, rfl, iteT ?_⟩
          rcases obind_some e with ⟨rc, e3, h3, e⟩ | ⟨x, e3, h3, rfl⟩
          · refine sc σ H3 Z3 e2 S3.rep _ h3 _ fun w H4 Z4 S4 i4 => ?_
            split at e
            · rename_i y' z hy' hz
              split at e
              · rename_i bb hb2
                cases e
                refine D2 H4 Z4 u w y' z _ S4.rep.zh (IsO.dq S4.rep (IsO.step S3.rep S4 (IsO.step S2.rep S3 i2)) hy') (IsO.dq S4.rep i4 hz) (boolV_some hb2) Q fun w' H5 Z5 f5 l5 i5 => ?_
                exact k w' H5 Z5 (((S12.trans S3).trans S4).trans (S4.rep.more f5 l5)) i5
              · cases e
            · cases e
          · exact sc σ H3 Z3 e2 S3.rep _ h3 _ fun c d H4 Z4 S4 i4 => k c d H4 Z4 ((S12.trans S3).trans S4) i4
        · rename_i hb
          cases e
          refine D1 H2 Z2 v u x y _ S2.rep.zh (IsO.dq S2.rep (IsO.step S1.rep S2 i1) hx) (IsO.dq S2.rep i2 hy) (boolV_some hb) _ fun w H3 Z3 f3 l3 i3 => ?_
          have i3 : Dt X.K Z3 w (.bool false) := i3
          cases i3
          exact ⟨false, rfl, iteF (k _ H3 Z3 (S12.trans (S2.rep.more f3 l3)) (.bl false))⟩
        · cases e
      · cases e
    · exact sb σ H1 Z1 e1 S1.rep _ h2 _ fun c d H2 Z2 S2 i2 => k c d H2 Z2 (S1.trans S2) i2
  · exact sa σ H Z env R _ h1 _ fun c d H1 Z1 S1 i1 => k c d H1 Z1 S1 i1
theorem se_chain {op op' : CmpOp} {r r' : R2} {F G : PyData → PyData → Option Val} (ho : OpR X (compareOp op) r) (D1 : OpD X.K r F) (ho' : OpR X (compareOp op') r') (D2 : OpD X.K r' G) (ha : SE X W a fa) (hb : SE X W b fb) (hc : SE X W c fc)
    (hm : lastMarks [op, op'] [b, c] = false := by with_unfolding_all rfl) : SE X W (.Compare a [op, op'] [b, c] pos) (fChain F G fa fb fc) := by
  obtain ⟨ta, pa, sa⟩ := ha
  obtain ⟨tb, pb, sb⟩ := hb
  obtain ⟨tc, pc, sc⟩ := hc
  exact ⟨_, pe_chain ho ho' pa pb pc hm, chain_sim D1 D2 sa sb sc⟩
theorem st_chain {op op' : CmpOp} {r r' : R2} {F G : PyData → PyData → Option Val} (ho : OpR X (compareOp op) r) (D1 : OpD X.K r F) (ho' : OpR X (compareOp op') r') (D2 : OpD X.K r' G) (ha : SE X W a fa) (hb : SE X W b fb) (hc : SE X W c fc)
    (hm : lastMarks [op, op'] [b, c] = false := by with_unfolding_all rfl) : ST X W (.Compare a [op, op'] [b, c] pos) (toB (fChain F G fa fb fc)) := by
  obtain ⟨ta, pa, sa⟩ := ha
  obtain ⟨tb, pb, sb⟩ := hb
  obtain ⟨tc, pc, sc⟩ := hc
  refine ⟨_, pt_chain ho ho' pa pb pc hm, fun σ H Z env R o e Q k => ?_⟩
  rcases obind_some e with ⟨r1, e1, h1, e⟩ | ⟨x, e1, h1, rfl⟩
  · split at e
    · rename_i bb
      cases e
      refine chain_sim D1 D2 sa sb sc σ H Z env R _ h1 _ fun v H1 Z1 S1 i1 => ?_
      have i1 : Dt X.K Z1 v (.bool bb) := i1
      cases i1
      exact ⟨bb, rfl, k H1 Z1 S1⟩
    · cases e
  · exact chain_sim D1 D2 sa sb sc σ H Z env R _ h1 _ fun c d H1 Z1 S1 i1 => k c d H1 Z1 S1 i1
/-! ### a, b = x, y; x += e -/
def gPar (i j : Nat) (fs : M (List PyData)) : M Flw := fun env => obind (fs env) fun ds e1 => match ds with
  | [x, y] => some (.ok .nx ((e1.set i (some (.imm x))).set j (some (.imm y))))
  | _ => none
theorem ss_par (i j : Nat) {x y : Str} {fs : M (List PyData)} {px py pt : Pos} {kt k2 : Nat} {pt2 : Pos} (hpi : pn ≤ i) (hpj : pn ≤ j) (hc : X.calm = true) (hN : X.N.Nodup) (hij : i ≠ j) (ha : SF X W [a, b] fs) (hi : X.N[i]? = some x := by rfl) (hj : X.N[j]? = some y := by rfl)
    (hx : X.env.scope.names.lookup x = some .local := by rfl) (hy : X.env.scope.names.lookup y = some .local := by rfl)
    (hw : swappedStores [.Tuple [.Name x px, .Name y py] kt pt] (.Tuple [a, b] k2 pt2) X.env = pure (some [x, y]) := by rfl)
    (hs : swapsWithSole [.Tuple [.Name x px, .Name y py] kt pt] (.Tuple [a, b] k2 pt2) pos.line X.env = pure false := by rfl) :
    SS X W pn (.Assign [.Tuple [.Name x px, .Name y py] kt pt] (.Tuple [a, b] k2 pt2) pos) (gPar i j fs) := by
  obtain ⟨t, p, s⟩ := ha
  refine ⟨_, ps_par hc hN hi hj hij hx hy p hw hs, fun σ H Z env R o e D k => ?_⟩
  rcases obind_some e with ⟨ds, e1, h1, e⟩ | ⟨x, e1, h1, rfl⟩
  · refine s σ H Z env R _ h1 _ fun vs H1 Z1 S1 i1 => ?_
    split at e
    · cases e
      cases i1 with
      | cons a1 a2 =>
        cases a2 with
        | cons a2 a3 =>
          cases a3
          have T1 := S1.rep.setImm (i := i) a1
          have T2 := T1.rep.setImm (i := j) a2
          exact ⟨_, _, rfl, k _ H1 Z1 ((S1.trans T1).trans T2) (Pin.trans (Pin.set hpi) (Pin.set hpj))⟩
    · cases e
  · exact s σ H Z env R _ h1 _ fun c d H1 Z1 S1 i1 => k c d σ H1 Z1 S1 Pin.refl i1
def gAug (F : PyData → PyData → Option Val) (i : Nat) (f : M Opd) : M Flw := fun env => match env[i]? with
  | some (some (.imm x)) => obind (f env) fun r e1 => (match r.d e1 with
    | some y => (match F x y with
      | some (.imm z) => some (.ok .nx (e1.set i (some (.imm z))))
      | _ => none)
    | none => none)
  | _ => none
theorem ss_aug {op : Operator} {g : Int → Int → Int} {G : Int → Int → Option PyData} (i : Nat) {x : Str} {pos' : Pos} (hp : pn ≤ i) (hN : X.N.Nodup) (he : SE X W e fa) (ip : PIp X op (ipI g)) (hg : ∀ a b d, G a b = some d → d = .int (g a b)) (hi : X.N[i]? = some x := by rfl) (hx : Loc X.env.scope x := by first | exact Or.inl rfl | exact Or.inr rfl) (hf : X.fn x = true ∨ X.env.scope.names.lookup x = some .local := by first | exact .inl rfl | exact .inr rfl | assumption) :
    SS X W pn (.AugAssign (.Name x pos') op e pos) (gAug (onI G) i fa) := by
  obtain ⟨t, p, s⟩ := he
  refine ⟨_, ps_aug hN hi hx p ip hf, fun σ H Z env R o e D k => ?_⟩
  unfold gAug at e
  split at e
  · rename_i d hd
    obtain ⟨v, hv, hdt⟩ := R.imm i d hd
    refine ⟨v, hv, ?_⟩
    rcases obind_some e with ⟨r, e1, h1, e⟩ | ⟨x, e1, h1, rfl⟩
    · refine s σ H Z env R _ h1 _ fun u H1 Z1 S1 i1 => ?_
      split at e
      · rename_i y hy
        split at e
        · rename_i z hz
          cases e
          unfold onI at hz
          split at hz
          · rename_i a b
            rw [Option.map_eq_some_iff] at hz
            obtain ⟨d, ed, e2⟩ := hz
            cases e2
            have := hg a b _ ed
            subst this
            cases hdt
            exact ⟨a, b, rfl, (IsO.dq S1.rep i1 hy).int, k _ H1 Z1 (S1.trans (S1.rep.setImm (.int _))) (Pin.set hp)⟩
          · cases hz
        · cases e
      · cases e
    · exact s σ H Z env R _ h1 _ fun c d H1 Z1 S1 i1 => k c d σ H1 Z1 S1 Pin.refl i1
  · cases e
theorem ss_aug_add (i : Nat) {x : Str} {pos' : Pos} (hp : pn ≤ i) (hN : X.N.Nodup) (he : SE X W e fa) (hi : X.N[i]? = some x := by rfl) (hx : Loc X.env.scope x := by first | exact Or.inl rfl | exact Or.inr rfl) (hf : X.fn x = true ∨ X.env.scope.names.lookup x = some .local := by first | exact .inl rfl | exact .inr rfl | assumption) :
    SS X W pn (.AugAssign (.Name x pos') .Add e pos) (gAug dAdd i fa) := ss_aug i hp hN he ip_add (fun a b d e => by cases e; rfl) hi hx hf
theorem ss_aug_sub (i : Nat) {x : Str} {pos' : Pos} (hp : pn ≤ i) (hN : X.N.Nodup) (he : SE X W e fa) (hi : X.N[i]? = some x := by rfl) (hx : Loc X.env.scope x := by first | exact Or.inl rfl | exact Or.inr rfl) (hf : X.fn x = true ∨ X.env.scope.names.lookup x = some .local := by first | exact .inl rfl | exact .inr rfl | assumption) :
    SS X W pn (.AugAssign (.Name x pos') .Sub e pos) (gAug dSub i fa) := ss_aug i hp hN he ip_sub (fun a b d e => by cases e; rfl) hi hx hf
end
end BV

namespace BV
open PySem PySem.Spec L2
open PyProof.Rows hiding St

theorem tuple_mulSame (l : Addr) (items : Array Value) (n : Nat) (dd : Option Addr) (sl : Array (Option Value)) (x : Int) (u : Tok) (c0 : (decide (x < -(2 ^ 63)) || decide (x ≥ 2 ^ 63)) = false) (c1 : (items.isEmpty || x == 1) = true) :
    Meets (Builtin.«tuple.__mul__» ⟨[.ref l, .int x u], []⟩) (fun _ R s => s.heap.get? l = some { cls := .type "tuple", dict := dd, data := .seq items n, slots := sl } ∧ R (.ok (.ret (Value.ref l))) s) :=
  .of_wp fun prog w A R s h => by
    obtain ⟨hp, g, d, tk, os⟩ := s
    obtain ⟨hl, h⟩ := h
    have f1 := AutoSeq1.idx_int
    wp_walk using PySem.AutoSeq1.wpAny_loadPart' hl
    repeat (first
      | (refine wpAny_ite_false (decide_eq_false (by rw [c0]; exact Bool.false_ne_true)) ?_; wp_walk using PySem.AutoSeq1.wpAny_loadPart' hl)
      | (refine wpAny_ite_true (decide_eq_true c1) ?_; wp_walk using PySem.AutoSeq1.wpAny_loadPart' hl))
    all_goals exact ⟨_, rfl, h⟩
theorem tuple_mulNone (l : Addr) (items : Array Value) (n : Nat) (dd : Option Addr) (sl : Array (Option Value)) (x : Int) (u : Tok) (c0 : (decide (x < -(2 ^ 63)) || decide (x ≥ 2 ^ 63)) = false) (c1 : (items.isEmpty || x == 1) = false) (c2 : (decide (x ≤ 0) || items.isEmpty) = true) :
    Meets (Builtin.«tuple.__mul__» ⟨[.ref l, .int x u], []⟩) (fun _ R s => s.heap.get? l = some { cls := .type "tuple", dict := dd, data := .seq items n, slots := sl } ∧
      R (.ok (.ret (Value.ref s.heap.objs.size))) { s with heap := s.heap.push { cls := Value.type "tuple", data := Data.seq #[] }, toks := s.toks }) :=
  .of_wp fun prog w A R s h => by
    obtain ⟨hp, g, d, tk, os⟩ := s
    obtain ⟨hl, h⟩ := h
    have f1 := AutoSeq1.idx_int
    wp_walk using PySem.AutoSeq1.wpAny_loadPart' hl
    repeat (first
      | (refine wpAny_ite_false (decide_eq_false (by rw [c0]; exact Bool.false_ne_true)) ?_; wp_walk using PySem.AutoSeq1.wpAny_loadPart' hl)
      | (refine wpAny_ite_false (decide_eq_false (by rw [c1]; exact Bool.false_ne_true)) ?_; wp_walk using PySem.AutoSeq1.wpAny_loadPart' hl)
      | (refine wpAny_ite_true (decide_eq_true c2) ?_; wp_walk using PySem.AutoSeq1.wpAny_loadPart' hl))
    all_goals exact ⟨_, rfl, h⟩
section
variable {X : Cx} {W : WX} {pos : Pos}
/-- t * k, all k -/
def rRepU (K : Fg) : R2 := fun x y H Q => ∃ l k xs, x = .ref l ∧ y = .int k ∧ SqT K H l xs ∧ -(2 ^ 63) ≤ k ∧ k ≤ 1000 ∧ xs.length ≤ 1000 ∧
  ((xs = [] ∨ k = 1) → Q (.ref l) H) ∧ (xs ≠ [] → k ≤ 0 → ∀ p, H p = none → Q (.ref p) (upd H p (.tup []))) ∧ (xs ≠ [] → 2 ≤ k → ∀ p, H p = none → Q (.ref p) (upd H p (.tup (List.replicate k.toNat xs).flatten)))
theorem op_repU : OpR X (binaryOp .Mult) (rRepU X.K) := by
  intro pins s σ H x y v u Q I rx ry h
  obtain ⟨l, k, xs, rfl, rfl, hT, k1, k2, hz, q1, q2, q3⟩ := h
  by_cases hbig : xs ≠ [] ∧ 2 ≤ k
  · exact op_repT pins s σ H _ _ v u Q I rx ry ⟨l, k, xs, rfl, rfl, hT, hbig.1, hbig.2, k2, hz, q3 hbig.1 hbig.2⟩
  cases rx
  obtain ⟨t, rfl⟩ := ry
  obtain ⟨its, r, ⟨⟨cls, dd, data, sl⟩, ho, hc, n, hd⟩, hs⟩ := I.tuple hT
  simp only at hc hd
  subst hc hd
  have c0 : (decide (k < -(2 ^ 63)) || decide (k ≥ 2 ^ 63)) = false := by
    rw [decide_eq_false (by omega), decide_eq_false (by omega)] <;> rfl
  have emp : its.toArray.isEmpty = xs.isEmpty := by cases r <;> simp
  by_cases hsame : xs = [] ∨ k = 1
  · have c1 : (its.toArray.isEmpty || k == 1) = true := by
      rw [emp, Bool.or_eq_true]
      rcases hsame with e | e
      · subst e
        exact .inl rfl
      · exact .inr (by simp [e])
    refine wpAny_binaryOp_repeat_ref (T := "tuple") (U := "int") (by decide) ⟨_, ho, rfl⟩ (fun s' => typeIs_int s' k t) noFill_tuple_mul F.fills_int_mul F.slot_int_rmul repeat_tuple F.slot_int_index.lookup
      (call_meets F.slot_int_rmul (typeIs_int s k t) F.entry_int_rmul (F.args_int_rmul_2 _ _) (int_rmul_tuple k t l its.toArray n dd sl)
        ⟨ho, rfl, ⟨_, ho, rfl⟩, call_meets F.slot_tuple_mul ⟨_, ho, rfl⟩ F.entry_tuple_mul (F.args_tuple_mul_2 _ _) (tuple_mulSame l its.toArray n dd sl k t c0 c1) ⟨ho, ?_⟩⟩)
    exact ⟨.ref l, H, I, rfl, q1 hsame⟩
  · have hne : xs ≠ [] := fun e => hsame (.inl e)
    have hk1 : k ≠ 1 := fun e => hsame (.inr e)
    have hk0 : k ≤ 0 := by
      have : ¬ 2 ≤ k := fun z => hbig ⟨hne, z⟩
      omega
    have hi : its.toArray.isEmpty = false := by
      rw [emp]
      cases xs with
      | nil => exact absurd rfl hne
      | cons _ _ => rfl
    have c1 : (its.toArray.isEmpty || k == 1) = false := by
      rw [hi, Bool.false_or]
      exact beq_eq_false_iff_ne.mpr hk1
    have c2 : (decide (k ≤ 0) || its.toArray.isEmpty) = true := by
      rw [decide_eq_true hk0, Bool.true_or]
    refine wpAny_binaryOp_repeat_ref (T := "tuple") (U := "int") (by decide) ⟨_, ho, rfl⟩ (fun s' => typeIs_int s' k t) noFill_tuple_mul F.fills_int_mul F.slot_int_rmul repeat_tuple F.slot_int_index.lookup
      (call_meets F.slot_int_rmul (typeIs_int s k t) F.entry_int_rmul (F.args_int_rmul_2 _ _) (int_rmul_tuple k t l its.toArray n dd sl)
        ⟨ho, rfl, ⟨_, ho, rfl⟩, call_meets F.slot_tuple_mul ⟨_, ho, rfl⟩ F.entry_tuple_mul (F.args_tuple_mul_2 _ _) (tuple_mulNone l its.toArray n dd sl k t c0 c1 c2) ⟨ho, ?_⟩⟩)
    exact ⟨.ref s.heap.objs.size, _, I.laid (t' := s.toks) (o := .tup []) (fun b ob q => Heap.get?_push_of_some _ q) (Nat.le_refl _) ⟨Nat.zero_le _, [], .nil, IsTup.new s.heap #[]⟩, rfl, q2 hne hk0 _ (I.hok.fresh (Nat.le_refl _))⟩
def dMulA : PyData → PyData → Option Val
  | .int i, .int j => if within64 i || within64 j then some (.imm (.int (i * j))) else none
  | .list ds, .int k => if -(2 ^ 63) ≤ k ∧ k < 2 ^ 63 ∧ small (ds.length * k.toNat) = true then some (.new (List.replicate k.toNat ds).flatten) else none
  | .tuple ds, .int k => if -(2 ^ 63) ≤ k ∧ k ≤ 1000 ∧ ds.length ≤ 1000 then some (.imm (.tuple (List.replicate k.toNat ds).flatten)) else none
  | _, _ => none
def rMulA (K : Fg) : R2 := fun x y H Q => rI CMul (fun i j => .int (i * j)) x y H Q ∨ rRepR x y H Q ∨ rRepU K x y H Q
theorem op_mulA : OpR X (binaryOp .Mult) (rMulA X.K) := op_or op_mul (op_or op_repR op_repU)
theorem od_mulA {K : Fg} : OpD K (rMulA K) dMulA := by
  intro H Z x y d1 d2 o l h1 h2 e Q k
  unfold dMulA at e
  split at e
  · rename_i i j
    split at e
    · rename_i hw
      cases e
      refine .inl ⟨i, j, h1.int, h2.int, ?_, k _ H Z (fun _ _ e => ⟨e, rfl⟩) l (.int _)⟩
      simp only [within64, Bool.or_eq_true, Bool.and_eq_true, decide_eq_true_eq] at hw
      exact hw
    · cases e
  · rename_i ds i
    split at e
    · rename_i hb
      cases e
      obtain ⟨a, xs, rfl, hr, ha⟩ := h1.list l
      exact .inr (.inl ⟨a, i, xs, rfl, h2.int, hr, hb.1, hb.2.1, by rw [ha.len]; exact small_line hb.2.2, fun p hp => new_list l hp (ha.rep _) k⟩)
    · cases e
  · rename_i ds i
    split at e
    · rename_i hb
      cases e
      obtain ⟨a, xs, rfl, hr, ha, hz⟩ := h1.tuple l
      refine .inr (.inr ⟨a, i, xs, rfl, h2.int, hr, hb.1, hb.2.1, by rw [ha.len]; exact hb.2.2, fun hs => ?_, fun hne hk p hp => ?_, fun hne hk p hp => new_tup l hp (ha.rep _) k⟩)
      · have e : (List.replicate i.toNat ds).flatten = ds := by
          rcases hs with e | e
          · subst e
            cases ha
            simp
          · subst e
            simp
        rw [e] at k
        exact k _ H Z (fun _ _ e => ⟨e, rfl⟩) l (.tup hz ha)
      · have e : (List.replicate i.toNat ds).flatten = [] := by
          have : i.toNat = 0 := by omega
          rw [this]
          rfl
        rw [e] at k
        exact new_tup l hp .nil k
    · cases e
  · cases e

/-! ### a call whose answer holds no object: the arguments are the caller's own again behind it -/
def scalar : Val → Bool
  | .imm .none => true
  | .imm (.bool _) => true
  | .imm (.int _) => true
  | .imm (.str _) => true
  | _ => false
def fCallB (G : List PyData → Option Res) (fa : M (List Opd)) : M Opd := fun env => obind (fa env) fun rs e1 => match dAll rs e1 with
  | some ds => (match G ds with
    | some (.ok r) => if scalar r then some (.ok (.val r) e1) else none
    | _ => none)
  | none => none
/-- a heap in which all operands stand for good -/
theorem lend {K : Fg} {H Z : Hp} (l : Le Z H) : ∀ {vs : List V} {ds : List PyData}, DqAll K H Z vs ds → ∃ Zt, Le Z Zt ∧ Le Zt H ∧ DtAll K Zt vs ds
  | [], [], _ => ⟨Z, Le.refl Z, l, .nil⟩
  | v :: vs, d :: ds, h => by
    obtain ⟨Zt, l1, l2, ha⟩ := lend l h.2
    rcases h.1 with hd | ⟨p, xs, es, rfl, rfl, hp, he⟩
    · exact ⟨Zt, l1, l2, .cons (l1.dp _ _ hd) ha⟩
    · have l3 : Le Zt (fun a => if a = p then some (.lst xs) else Zt a) := fun a o e => by
        by_cases hap : a = p
        · subst hap
          have := l2 a o e
          rw [hp] at this
          cases this
          simp
        · simp [hap, e]
      refine ⟨fun a => if a = p then some (.lst xs) else Zt a, l1.trans l3, fun a o e => ?_, .cons (.lst (.inl (by simp)) ((l1.trans l3).dpAll _ _ he)) (l3.dpAll _ _ ha)⟩
      by_cases hap : a = p
      · subst hap
        simp at e
        rw [hp, e]
      · simp [hap] at e
        exact l2 a o e
  | [], _ :: _, h => h.elim
  | _ :: _, [], h => h.elim
theorem se_callS {k : Nat} {f : Addr} {fd : FuncData} {ps : List Str} {x : Str} {p : Pos} {e : Expr} {es : List Expr} {G : List PyData → Option Res} {fs : M (List Opd)} (F : FnOk X.prog X.w X.K X.mg X.base (L2.CX X.prog X.w) k f fd ps (spP X.K G)) (hr : Room k X.A) (hm : X.mg x = some (.ref f)) (hk : PySem.W.keepIn X.K (.ref f) = true) (hb : Binds X.K fd ps []) (tk : Takes X W)
    (ha : SA X W (e :: es) fs) (hg : Gl X x := by rfl) (hdb : (x == ("__debug__" : Str)) = false := by decide) (he : starEach (e :: es) X.env = (false, eval e X.env) :: starEach es X.env := by rfl) (hpl : (backTo pos (starEach es X.env)).any (·.1) = false := by rfl) :
    SE X W (.Call (.Name x p) (e :: es) [] pos) (fCallB G fs) := by
  obtain ⟨ta, pa, sa⟩ := ha
  refine ⟨_, pe_callS F hr hg hm hk hb (fun σ => passAt tk σ) pa hdb he hpl, fun σ H Z env R o e Q k => ?_⟩
  rcases obind_some e with ⟨rs, e1, h1, e⟩ | ⟨x, e1, h1, rfl⟩
  · refine sa σ H Z env R _ h1 _ fun vs H1 Z1 S1 i1 => ?_
    split at e
    · rename_i ds hd
      split at e
      · rename_i r hG
        split at e
        · rename_i hs
          cases e
          obtain ⟨Zt, l1, l2, hda⟩ := lend S1.rep.zh (IsOs.dq S1.rep i1 hd)
          refine ⟨Zt, ds, _, l2, hda, hG, fun v H' Z' fr l iv => ?_⟩
          have f3 := fr0_more fr
          refine k v H' Z1 (S1.trans (S1.rep.more (fun a u e => ⟨(f3 a u e).1, rfl⟩) fun a u e => (f3 a u (S1.rep.zh a u e)).1)) ?_
          unfold scalar at hs
          split at hs
          · have iv : Dt X.K Z' v .none := iv
            cases iv
            exact Dt.non
          · have iv : Dt X.K Z' v (.bool _) := iv
            cases iv
            exact Dt.bl _
          · have iv : Dt X.K Z' v (.int _) := iv
            cases iv
            exact Dt.int _
          · have iv : Dt X.K Z' v (.str _) := iv
            cases iv
            exact Dt.str _
          · cases hs
        · cases e
      · cases e
    · cases e
  · exact sa σ H Z env R _ h1 _ fun c d H1 Z1 S1 i1 => k c d H1 Z1 S1 i1
end
end BV

namespace BV
open PySem PySem.Spec L2
open PyProof.Rows hiding St
/-! the mirror of closed -/
abbrev Mat := List (List Bool)
def getB (M : Mat) (i j : Nat) : Bool := (M.getD i []).getD j false
def setB (M : Mat) (i j : Nat) : Mat := M.set i ((M.getD i []).set j true)
def stepW (k i : Nat) (M : Mat) (j : Nat) : Mat := if getB M i k && getB M k j then setB M i j else M
def warshJ (n k i : Nat) (M : Mat) : Mat := (List.range n).foldl (stepW k i) M
def warshI (n k : Nat) (M : Mat) : Mat := (List.range n).foldl (fun M i => warshJ n k i M) M
def warsh (n : Nat) (M : Mat) : Mat := (List.range n).foldl (fun M k => warshI n k M) M
def mat0 (n : Nat) (ds : List PyData) : Mat := (List.range n).map fun (i : Nat) => (List.range n).map fun (j : Nat) => anyEq (pd ((i : Int), (j : Int))) ds
def matPairs (n : Nat) (M : Mat) : List Pr := (List.range n).flatMap fun (i : Nat) => ((List.range n).filter fun (j : Nat) => getB M i j).map fun (j : Nat) => ((i : Int), (j : Int))
def G_closed : List PyData → Option Res
  | [d, .int m] => match seqOf d with
    | some ds => if 0 ≤ m ∧ m ≤ 300 ∧ PyData.canLayAll0 ds = true then
        (let M := warsh m.toNat (mat0 m.toNat ds)
        if (List.range m.toNat).any (fun i => getB M i i) then some (.error ⟨"Clash", none⟩) else some (.ok (.imm (.tuple ((matPairs m.toNat M).map pd)))))
      else none
    | none => none
  | _ => none
end BV

/-! BV15: the law itself: its first row makes the deck out of the script, all else is by value. -/
namespace BV
open PySem PySem.Spec L2
open PyProof.Rows hiding St

/-- the law's promise: a script of at most 63 ints, True -/
def spL (K : Fg) : Sp := fun vs H Q _ => ∃ (a : Addr) (ns : List Int), vs = [.ref a] ∧ SqL K H a (ns.map V.int) ∧ ns.length ≤ 63 ∧ ∀ H', Q (.bl true) H'
/-- the slots behind the law's first row: the script (told no more), the deck -/
def envL (n : Nat) (ns : List Int) : BE := none :: some (.own [.list (ns.map .int), .int 0]) :: List.replicate (n - 2) none
theorem cut63 {ns : List Int} (h : ns.length ≤ 63) : cutV (ns.map V.int) none (some 63) = ns.map V.int := by
  unfold cutV
  rw [HT.sIx_none, show HT.sIx (ns.map V.int).length (ns.map V.int).length (some 63) = min 63 (ns.map V.int).length from HT.sIx_nat _ _ 63, List.drop_zero, Nat.sub_zero]
  apply List.take_of_length_le
  rw [List.length_map]
  omega
section
variable {P : Program} {w : World} {K : Fg} {mg : Str → Option Value} {base : Heap}
theorem fn_L {x qual : Str} {st : Stmt} {f : Addr} {fd : FuncData} {N : List Str} {k : Nat} {g : M Flw} {s0 : Stmt} {rest : List Stmt} {ps : List Str} (F : Fun K x qual st f fd) (S : FnScope N ps (defScope st)) (hps : ps.length = 1) (hN : 2 ≤ N.length) (hb : defBody st = s0 :: rest)
    (hG : ∀ ns : List Int, ns.length ≤ 63 → ∃ e, g (envL N.length ns) = some (.ok (.rt (.val (.imm (.bool true)))) e))
    (body : ∀ (cdv : Value) (A : Around) (outer : List Env) (s : Shared) (H : Hp) (E : XK), BodyOk (cxOf (L2.CX P w) P w K mg base N qual (defScope st) f cdv A outer s H E) (fun c d _ H' => E c d H') k →
      PS (cxOf (L2.CX P w) P w K mg base N qual (defScope st) f cdv A outer s H E) s0 (tAsg (tLst (tCons (tSl (rSlL K) (tVar 0) tNoPart (tPart (tC (.int 63)))) (tCons (tC (.int 0)) tNil))) (gName 1)) ∧
      SB (cxOf (L2.CX P w) P w K mg base N qual (defScope st) f cdv A outer s H E) (fun c d _ H' => E c d H') 0 rest g) : FnOk P w K mg base (L2.CX P w) (k + 1) f fd ps (spL K) := by
  refine F.okX S (fun vs H Q E h => ?_) (fun cdv A outer s H vs Q E hr h => ?_)
  · obtain ⟨a, ns, rfl, _⟩ := h
    exact hps.symm
  · obtain ⟨a, ns, rfl, hS, hlen, q⟩ := h
    obtain ⟨p0, t, p, sim⟩ := body cdv A outer s H E ⟨rfl, hr, passes_of rfl, takes_of rfl rfl rfl rfl⟩
    rw [hb]
    refine ⟨_, pss_cons p0 p, ?_⟩
    have s0e : L2.start N [V.ref a] = some (.ref a) :: List.replicate (N.length - 1) none := rfl
    rw [s0e]
    refine ⟨.ref a, rfl, 63, rfl, a, ns.map V.int, rfl, hS, fun p hp => ?_⟩
    refine ⟨by show 2 ≤ sizeLine; decide, fun d hd => ?_⟩
    obtain ⟨e, he⟩ := hG ns hlen
    rw [cut63 hlen] at hd ⊢
    -- the state behind the first row
    obtain ⟨m, hm⟩ : ∃ m, N.length = m + 2 := ⟨N.length - 2, by omega⟩
    have hdp : d ≠ p := fun z => by
      rw [z, upd_same] at hd
      cases hd
    have hd1 : H d = none := by
      rw [upd_ne hdp] at hd
      exact hd
    have Rp : Rep K (upd (upd H p (.lst (ns.map V.int))) d (.lst [.ref p, .int 0])) (upd (fun _ => none) p (.lst (ns.map V.int))) ((some (.ref a) :: List.replicate (N.length - 1) none).set 1 (some (.ref d))) (envL N.length ns) := by
      have e1 : ((some (V.ref a) :: List.replicate (N.length - 1) none).set 1 (some (.ref d))) = some (.ref a) :: some (.ref d) :: List.replicate m none := by
        rw [hm]
        rfl
      have e2 : envL N.length ns = none :: some (.own [.list (ns.map .int), .int 0]) :: List.replicate m none := by
        unfold envL
        rw [hm]
        rfl
      rw [e1, e2]
      have far : ∀ (i : Nat) (s : Sl), (List.replicate m (none : Option Sl))[i]? ≠ some (some s) := fun i s z => by
        by_cases hi : i < m
        · rw [List.getElem?_replicate, if_pos hi] at z
          cases z
        · rw [List.getElem?_replicate, if_neg hi] at z
          cases z
      refine ⟨fun b o z => ?_, by simp, fun i d' z => ?_, fun i ds z => ?_, fun i j ds es q z1 z2 _ _ => ?_⟩
      · by_cases hbp : b = p
        · subst hbp
          rw [upd_ne (Ne.symm hdp)]
          rw [upd_same] at z ⊢
          exact z
        · rw [upd_ne hbp] at z
          cases z
      · match i, z with
        | i + 2, z => exact (far i _ z).elim
      · match i, z with
        | 1, z =>
          cases z
          refine ⟨d, _, rfl, ?_, upd_same, .cons (.lst (.inl upd_same) ?_) (.cons (.int 0) .nil)⟩
          · rw [upd_ne hdp]
          · exact DtAll.ints ns
        | i + 2, z => exact (far i _ z).elim
      · match i, j, z1, z2 with
        | 1, 1, _, _ => rfl
        | 1, j + 2, _, z2 => exact (far j _ z2).elim
        | i + 2, _, z1, _ => exact (far i _ z1).elim
    refine sim _ _ _ _ Rp _ he _ fun v σ' H' Z' S1 _ i1 => ?_
    have i1 : Dt K Z' v (.bool true) := i1
    cases i1
    exact q H'
end
end BV

/-! BVw: what a mirror comes to: a calculus over the mirrors, in plain Lean. -/
namespace BV
open PySem PySem.Spec L2
open PyProof.Rows hiding St

/-- data of a plain type -/
class Enc (α : Type) [DecidableEq α] where
  en : α → PyData
  eqv : ∀ a b, PyData.eqv (en a) (en b) = decide (a = b)
  lay : ∀ a, PyData.canLay0 (en a) = true
  dp : Nat
  dpl : ∀ a, PyData.depth (en a) ≤ dp
open Enc
theorem beq_dec {α : Type} [DecidableEq α] [BEq α] [LawfulBEq α] (a b : α) : (a == b) = decide (a = b) := by
  by_cases h : a = b <;> simp [h]
instance : Enc Int where
  en := .int
  eqv a b := by simp only [PyData.eqv]; exact beq_dec a b
  lay _ := rfl
  dp := 0
  dpl _ := Nat.le_refl _
instance : Enc Bool where
  en := .bool
  eqv a b := by simp only [PyData.eqv]; exact beq_dec a b
  lay _ := rfl
  dp := 0
  dpl _ := Nat.le_refl _
section
variable {α β : Type} [DecidableEq α] [Enc α] [DecidableEq β] [Enc β]
theorem enc_eqvAll : ∀ xs ys : List α, PyData.eqvAll (xs.map en) (ys.map en) = decide (xs = ys)
  | [], [] => by simp only [List.map_nil, PyData.eqvAll, decide_true]
  | [], _ :: _ => by simp [PyData.eqvAll]
  | _ :: _, [] => by simp [PyData.eqvAll]
  | x :: xs, y :: ys => by
    rw [List.map_cons, List.map_cons, PyData.eqvAll, eqv x y, enc_eqvAll xs ys, ← Bool.decide_and]
    exact decide_eq_decide.mpr (by rw [List.cons.injEq])
theorem enc_layAll : ∀ xs : List α, PyData.canLayAll0 (xs.map en) = true
  | [] => rfl
  | x :: xs => by rw [List.map_cons, PyData.canLayAll0, lay x, enc_layAll xs]; rfl
theorem enc_depthAll : ∀ xs : List α, PyData.depthAll (xs.map en) ≤ dp α
  | [] => Nat.zero_le _
  | x :: xs => by
    rw [List.map_cons, PyData.depthAll]
    exact Nat.max_le.mpr ⟨dpl x, enc_depthAll xs⟩
instance : Enc (α × β) where
  en p := .tuple [en p.1, en p.2]
  eqv a b := by
    simp only [PyData.eqv, PyData.eqvAll, eqv, Bool.and_true]
    rw [← Bool.decide_and]
    exact decide_eq_decide.mpr (by rw [Prod.ext_iff])
  lay a := by simp only [PyData.canLay0, PyData.canLayAll0, lay, Bool.and_self]
  dp := max (dp α) (dp β) + 1
  dpl a := by
    have h1 := dpl a.1
    have h2 := dpl a.2
    simp only [PyData.depth, PyData.depthAll]
    omega
instance : Enc (List α) where
  en xs := .tuple (xs.map en)
  eqv a b := by
    simp only [PyData.eqv]
    exact enc_eqvAll a b
  lay a := by simp only [PyData.canLay0]; exact enc_layAll a
  dp := dp α + 1
  dpl a := by
    have h1 := enc_depthAll a
    simp only [PyData.depth]
    omega
theorem enc_shaped (h : dp α ≤ 64) (a : α) : SeqAt.shaped (en a) = true := by
  unfold SeqAt.shaped
  rw [lay, Bool.true_and, decide_eq_true_eq]
  exact Nat.le_trans (dpl a) h
theorem enc_any (x : α) (xs : List α) : anyEq (en x) (xs.map en) = decide (x ∈ xs) := by
  unfold anyEq
  rw [List.any_map, Bool.eq_iff_iff, List.any_eq_true, decide_eq_true_eq]
  constructor
  · rintro ⟨y, hy, e⟩
    have e' : PyData.eqv (en y) (en x) = true := e
    rw [eqv, decide_eq_true_eq] at e'
    exact e' ▸ hy
  · intro h
    refine ⟨x, h, ?_⟩
    show PyData.eqv (en x) (en x) = true
    rw [eqv, decide_eq_true_eq]
theorem d_eq (h : dp α ≤ 64) (a b : α) : dEq (en a) (en b) = some (.imm (.bool (decide (a = b)))) := by
  unfold dEq
  rw [enc_shaped h, enc_shaped h, eqv]
  rfl
theorem d_ne (h : dp α ≤ 64) (a b : α) : dNe (en a) (en b) = some (.imm (.bool (!decide (a = b)))) := by
  unfold dNe
  rw [enc_shaped h, enc_shaped h, eqv]
  rfl
/-- lists of a type, as lists -/
theorem listShaped (h : dp α < 64) (xs : List α) : SeqAt.shaped (.list (xs.map en)) = true := by
  unfold SeqAt.shaped
  have h1 := enc_depthAll xs
  have h2 : PyData.depth (.list (xs.map en)) = PyData.depthAll (xs.map en) + 1 := by simp only [PyData.depth]
  rw [h2]
  simp only [PyData.canLay0, enc_layAll, Bool.true_and]
  exact decide_eq_true (by omega)
theorem d_eqL (h : dp α < 64) (a b : List α) : dEq (.list (a.map en)) (.list (b.map en)) = some (.imm (.bool (decide (a = b)))) := by
  unfold dEq
  rw [listShaped h, listShaped h]
  simp only [PyData.eqv, enc_eqvAll]
  rfl
theorem d_neL (h : dp α < 64) (a b : List α) : dNe (.list (a.map en)) (.list (b.map en)) = some (.imm (.bool (!decide (a = b)))) := by
  unfold dNe
  rw [listShaped h, listShaped h]
  simp only [PyData.eqv, enc_eqvAll]
  rfl
theorem nilShaped : SeqAt.shaped (.list []) = true := rfl
theorem d_eq0 (h : dp α < 64) (a : List α) : dEq (.list (a.map en)) (.list []) = some (.imm (.bool a.isEmpty)) := by
  have e := d_eqL h a []
  rw [List.map_nil] at e
  rw [e]
  cases a <;> rfl
theorem d_ne0 (h : dp α < 64) (a : List α) : dNe (.list (a.map en)) (.list []) = some (.imm (.bool (!a.isEmpty))) := by
  have e := d_neL h a []
  rw [List.map_nil] at e
  rw [e]
  cases a <;> rfl
theorem d_inL (h : dp α ≤ 64) (a : α) (xs : List α) : dIn (en a) (.list (xs.map en)) = some (.imm (.bool (decide (a ∈ xs)))) := by
  simp only [dIn, seqOf, enc_shaped h, enc_layAll, enc_any, Bool.and_self, if_true]
theorem d_inT (h : dp α ≤ 64) (a : α) (xs : List α) : dIn (en a) (.tuple (xs.map en)) = some (.imm (.bool (decide (a ∈ xs)))) := by
  simp only [dIn, seqOf, enc_shaped h, enc_layAll, enc_any, Bool.and_self, if_true]
theorem d_ninL (h : dp α ≤ 64) (a : α) (xs : List α) : dNotIn (en a) (.list (xs.map en)) = some (.imm (.bool (!decide (a ∈ xs)))) := by
  simp only [dNotIn, seqOf, enc_shaped h, enc_layAll, enc_any, Bool.and_self, if_true]
theorem d_ninT (h : dp α ≤ 64) (a : α) (xs : List α) : dNotIn (en a) (.tuple (xs.map en)) = some (.imm (.bool (!decide (a ∈ xs)))) := by
  simp only [dNotIn, seqOf, enc_shaped h, enc_layAll, enc_any, Bool.and_self, if_true]
end

/-! ### what is wanted behind -/
def wpd {α : Type} (m : Option (Out α)) (Q : α → BE → Prop) (X : Ex → BE → Prop) : Prop := match m with
  | some (.ok a e) => Q a e
  | some (.ex x e) => X x e
  | none => False
section
variable {α β : Type} {Q : α → BE → Prop} {X : Ex → BE → Prop} {e : BE}
theorem wpd_ok (a : α) : wpd (some (.ok a e)) Q X = Q a e := rfl
theorem wpd_ex (x : Ex) : wpd (some (.ex x e) : Option (Out α)) Q X = X x e := rfl
theorem wpd_bind {m : Option (Out β)} {k : β → BE → Option (Out α)} : wpd (obind m k) Q X = wpd m (fun a e => wpd (k a e) Q X) X := by
  unfold obind
  rcases m with _ | ⟨_ | _⟩ <;> rfl
theorem wpd_mono {m : Option (Out α)} {Q' : α → BE → Prop} {X' : Ex → BE → Prop} (h : wpd m Q X) (hq : ∀ a e, Q a e → Q' a e) (hx : ∀ x e, X x e → X' x e) : wpd m Q' X' := by
  rcases m with _ | ⟨_ | _⟩
  · exact h
  · exact hq _ _ h
  · exact hx _ _ h
theorem wpd_ite {c : Prop} [Decidable c] {a b : Option (Out α)} (h1 : c → wpd a Q X) (h2 : ¬c → wpd b Q X) : wpd (if c then a else b) Q X := by
  split
  · exact h1 (by assumption)
  · exact h2 (by assumption)
end
section
variable {Q : Flw → BE → Prop} {X : Ex → BE → Prop} {e : BE} {g h : M Flw}
theorem wpd_seq : wpd (gSeq g h e) Q X = wpd (g e) (fun f e1 => match f with
    | .nx => wpd (h e1) Q X
    | f => Q f e1) X := by
  unfold gSeq
  rcases g e with _ | ⟨_ | _⟩
  · rfl
  · rename_i f e1
    cases f <;> rfl
  · rfl
theorem wpd_forL {α : Type} (enc : α → PyData) (xs : List α) {tg : PyData → BE → Option BE} (I : List α → BE → Prop) (h0 : I [] e)
    (hs : ∀ done d rest, xs = done ++ d :: rest → ∀ e, I done e → ∃ e1, tg (enc d) e = some e1 ∧ wpd (g e1) (fun f e2 => match f with
      | .nx => I (done ++ [d]) e2
      | .ct => I (done ++ [d]) e2
      | .bk => Q .nx e2
      | f => Q f e2) X) (hq : ∀ e, I xs e → Q .nx e) : wpd (forL tg g (xs.map enc) e) Q X := by
  have key : ∀ rest done e, xs = done ++ rest → I done e → wpd (forL tg g (rest.map enc) e) Q X := by
    intro rest
    induction rest with
    | nil =>
      intro done e hx hi
      rw [List.append_nil] at hx
      subst hx
      exact hq e hi
    | cons d rest ih =>
      intro done e hx hi
      obtain ⟨e1, h1, h2⟩ := hs done d rest hx e hi
      rw [List.map_cons]
      unfold forL
      rw [h1]
      dsimp only
      have hx' : xs = (done ++ [d]) ++ rest := by rw [hx, List.append_assoc]; rfl
      generalize g e1 = m at h2 ⊢
      rcases m with _ | ⟨f, e2⟩ | ⟨x, e2⟩
      · exact h2
      · cases f with
        | nx => exact ih _ e2 hx' h2
        | ct => exact ih _ e2 hx' h2
        | bk => exact h2
        | rt r => exact h2
      · exact h2
  exact key xs [] e rfl h0
theorem wpd_while {t : M Bool} {n : Nat} (m : BE → Nat) (I : BE → Prop) (h0 : I e) (hn : m e < n)
    (hs : ∀ e, I e → wpd (t e) (fun b e1 => if b then wpd (g e1) (fun f e2 => match f with
      | .nx => I e2 ∧ m e2 < m e
      | .ct => I e2 ∧ m e2 < m e
      | .bk => Q .nx e2
      | f => Q f e2) X else Q .nx e1) X) : wpd (whileF t g n e) Q X := by
  induction n generalizing e with
  | zero => omega
  | succ n ih =>
    unfold whileF
    rw [wpd_bind]
    refine wpd_mono (hs e h0) (fun b e1 h => ?_) (fun x e h => h)
    cases b with
    | false => exact h
    | true =>
      simp only [if_true] at h ⊢
      generalize g e1 = o at h ⊢
      rcases o with _ | ⟨f, e2⟩ | ⟨x, e2⟩
      · exact h
      · cases f with
        | nx =>
          have h2 : m e2 < m e := h.2
          exact ih h.1 (by omega)
        | ct =>
          have h2 : m e2 < m e := h.2
          exact ih h.1 (by omega)
        | bk => exact h
        | rt r => exact h
      · exact h
end
section
variable {α : Type} {vs : List Nat} {fi : M (List PyData)} {tg : PyData → BE → Option BE} {ft : M Bool} {fe : M Opd} {e e1 : BE}
theorem lc_eq (enc : α → PyData) (xs : List α) (p : α → Bool) (f : α → PyData) (hi : fi e = some (.ok (xs.map enc) e1)) (hn : noOwn e1 vs = true) (hlen : xs.length ≤ 100000) (hbk : backB e1 (wipeB e1 vs) vs = e1)
    (hb : ∀ x ∈ xs, ∃ e2, tg (enc x) (wipeB e1 vs) = some e2 ∧ wipeB e2 vs = wipeB e1 vs ∧ ft e2 = some (.ok (p x) e2) ∧ (p x = true → ∃ r, fe e2 = some (.ok r e2) ∧ r.fr e2 = some (f x, e2))) :
    fLc vs fi tg ft fe e = some (.ok (.val (.new ((xs.filter p).map f))) e1) := by
  have key : ∀ (ys : List α) (acc : List PyData), (∀ x ∈ ys, x ∈ xs) → acc.length + ys.length ≤ 100000 → lcF vs tg ft fe (ys.map enc) (wipeB e1 vs) acc = some (acc ++ (ys.filter p).map f, wipeB e1 vs) := by
    intro ys
    induction ys with
    | nil => intro acc _ _; simp [lcF]
    | cons y ys ih =>
      intro acc hm hl
      obtain ⟨e2, h1, h2, h3, h4⟩ := hb y (hm y (List.mem_cons_self ..))
      rw [List.map_cons]
      unfold lcF
      rw [h1]
      dsimp only
      rw [h3]
      rw [List.length_cons] at hl
      cases hp : p y with
      | true =>
        obtain ⟨r, h5, h6⟩ := h4 hp
        dsimp only
        rw [h5]
        dsimp only
        rw [h6]
        dsimp only
        rw [if_pos (by unfold small; simp; omega), h2, ih _ (fun x hx => hm x (List.mem_cons_of_mem _ hx)) (by rw [List.length_append, List.length_singleton]; omega), List.filter_cons_of_pos hp, List.map_cons, List.append_assoc]
        rfl
      | false =>
        dsimp only
        rw [h2, ih _ (fun x hx => hm x (List.mem_cons_of_mem _ hx)) (by omega), List.filter_cons_of_neg (by rw [hp]; decide)]
  unfold fLc
  rw [hi]
  show (if noOwn e1 vs = true then _ else _) = _
  rw [if_pos hn, key xs [] (fun _ h => h) (by simpa using hlen)]
  dsimp only
  rw [hbk]
  rfl
end
theorem runP_wpd {n : Nat} {g : M Flw} {ds : List PyData} {R : Res → Prop} (h : wpd (g (envP n ds)) (fun f e => match f with
    | .rt r => ∃ v, resO 0 r e = some v ∧ R (.ok v)
    | .nx => R (.ok (.imm .none))
    | _ => False) (fun x _ => R (.error x))) : ∃ r, runP n g ds = some r ∧ R r := by
  unfold runP
  generalize g (envP n ds) = m at h
  rcases m with _ | ⟨f, e⟩ | ⟨x, e⟩
  · exact h.elim
  · cases f with
    | nx => exact ⟨_, rfl, h⟩
    | ct => exact h.elim
    | bk => exact h.elim
    | rt r =>
      obtain ⟨v, h1, h2⟩ := h
      exact ⟨.ok v, by dsimp only; rw [h1]; rfl, h2⟩
  · exact ⟨_, rfl, h⟩
theorem runP_eqd {n : Nat} {g : M Flw} {ds : List PyData} {o : Res} (h : wpd (g (envP n ds)) (fun f e => match f with
    | .rt r => (resO 0 r e).map Except.ok = some o
    | .nx => Except.ok (.imm .none) = o
    | _ => False) (fun x _ => Except.error x = o)) : runP n g ds = some o := by
  unfold runP
  generalize g (envP n ds) = m at h
  rcases m with _ | ⟨f, e⟩ | ⟨x, e⟩
  · exact h.elim
  · cases f with
    | nx => rw [← h]
    | ct => exact h.elim
    | bk => exact h.elim
    | rt r => exact h
  · rw [← h]
theorem runM_wpd {n : Nat} {g : M Flw} {d0 ds : List PyData} {R : Res → List PyData → Prop} (h : wpd (g (envM n d0 ds)) (fun f e => match f with
    | .rt r => ∃ v d1, resO 1 r e = some v ∧ own0 e = some d1 ∧ R (.ok v) d1
    | .nx => ∃ d1, own0 e = some d1 ∧ R (.ok (.imm .none)) d1
    | _ => False) (fun x e => ∃ d1, own0 e = some d1 ∧ R (.error x) d1)) : ∃ r d1, runM n g d0 ds = some (r, d1) ∧ R r d1 := by
  unfold runM
  generalize g (envM n d0 ds) = m at h
  rcases m with _ | ⟨f, e⟩ | ⟨x, e⟩
  · exact h.elim
  · cases f with
    | nx =>
      obtain ⟨d1, h1, h2⟩ := h
      exact ⟨_, d1, by dsimp only; rw [h1]; rfl, h2⟩
    | ct => exact h.elim
    | bk => exact h.elim
    | rt r =>
      obtain ⟨v, d1, h1, h2, h3⟩ := h
      exact ⟨.ok v, d1, by dsimp only; rw [h1, h2], h3⟩
  · obtain ⟨d1, h1, h2⟩ := h
    exact ⟨_, d1, by dsimp only; rw [h1]; rfl, h2⟩
/-- the same, shut -/
structure wp {α : Type} (m : Option (Out α)) (Q : α → BE → Prop) (X : Ex → BE → Prop) : Prop where
  out : wpd m Q X
theorem wp_eq {α : Type} (m : Option (Out α)) (Q : α → BE → Prop) (X : Ex → BE → Prop) : wp m Q X = wpd m Q X := propext ⟨fun h => h.1, fun h => ⟨h⟩⟩
section
variable {α β : Type} {Q : α → BE → Prop} {X : Ex → BE → Prop} {e : BE}
theorem wp_ok (a : α) : wp (some (.ok a e)) Q X = Q a e := by
  simp only [wp_eq] at *
  rfl
theorem wp_ex (x : Ex) : wp (some (.ex x e) : Option (Out α)) Q X = X x e := by
  simp only [wp_eq] at *
  rfl
theorem wp_bind {m : Option (Out β)} {k : β → BE → Option (Out α)} : wp (obind m k) Q X = wp m (fun a e => wp (k a e) Q X) X := by
  simp only [wp_eq] at *
  exact wpd_bind
theorem wp_mono {m : Option (Out α)} {Q' : α → BE → Prop} {X' : Ex → BE → Prop} (h : wp m Q X) (hq : ∀ a e, Q a e → Q' a e) (hx : ∀ x e, X x e → X' x e) : wp m Q' X' := by
  simp only [wp_eq] at *
  exact wpd_mono h hq hx
theorem wp_ite {c : Prop} [Decidable c] {a b : Option (Out α)} (h1 : c → wp a Q X) (h2 : ¬c → wp b Q X) : wp (if c then a else b) Q X := by
  simp only [wp_eq] at *
  exact wpd_ite h1 h2
end
section
variable {Q : Flw → BE → Prop} {X : Ex → BE → Prop} {e : BE} {g h : M Flw}
theorem wp_seq : wp (gSeq g h e) Q X = wp (g e) (fun f e1 => match f with
    | .nx => wp (h e1) Q X
    | f => Q f e1) X := by
  rw [wp_eq, wp_eq, wpd_seq]
  congr
  funext f e1
  cases f <;> first | rfl | rw [wp_eq]
theorem wp_forL {α : Type} (enc : α → PyData) (xs : List α) {tg : PyData → BE → Option BE} (I : List α → BE → Prop) (h0 : I [] e)
    (hs : ∀ done d rest, xs = done ++ d :: rest → ∀ e, I done e → ∃ e1, tg (enc d) e = some e1 ∧ wp (g e1) (fun f e2 => match f with
      | .nx => I (done ++ [d]) e2
      | .ct => I (done ++ [d]) e2
      | .bk => Q .nx e2
      | f => Q f e2) X) (hq : ∀ e, I xs e → Q .nx e) : wp (forL tg g (xs.map enc) e) Q X := by
  rw [wp_eq]
  refine wpd_forL enc xs I h0 (fun done d rest hx e hi => ?_) hq
  obtain ⟨e1, h1, h2⟩ := hs done d rest hx e hi
  exact ⟨e1, h1, h2.1⟩
theorem wp_while {t : M Bool} {n : Nat} (m : BE → Nat) (I : BE → Prop) (h0 : I e) (hn : m e < n)
    (hs : ∀ e, I e → wp (t e) (fun b e1 => if b then wp (g e1) (fun f e2 => match f with
      | .nx => I e2 ∧ m e2 < m e
      | .ct => I e2 ∧ m e2 < m e
      | .bk => Q .nx e2
      | f => Q f e2) X else Q .nx e1) X) : wp (whileF t g n e) Q X := by
  rw [wp_eq]
  refine wpd_while m I h0 hn fun e hi => ?_
  refine wpd_mono (hs e hi).1 (fun b e1 h => ?_) fun _ _ h => h
  cases b with
  | true => exact (if_pos rfl).mpr ((if_pos rfl).mp h).1
  | false => exact h
end
theorem runP_wp {n : Nat} {g : M Flw} {ds : List PyData} {R : Res → Prop} (h : wp (g (envP n ds)) (fun f e => match f with
    | .rt r => ∃ v, resO 0 r e = some v ∧ R (.ok v)
    | .nx => R (.ok (.imm .none))
    | _ => False) (fun x _ => R (.error x))) : ∃ r, runP n g ds = some r ∧ R r := by
  exact runP_wpd h.1
theorem runP_eq {n : Nat} {g : M Flw} {ds : List PyData} {o : Res} (h : wp (g (envP n ds)) (fun f e => match f with
    | .rt r => (resO 0 r e).map Except.ok = some o
    | .nx => Except.ok (.imm .none) = o
    | _ => False) (fun x _ => Except.error x = o)) : runP n g ds = some o := by
  exact runP_eqd h.1
theorem runM_wp {n : Nat} {g : M Flw} {d0 ds : List PyData} {R : Res → List PyData → Prop} (h : wp (g (envM n d0 ds)) (fun f e => match f with
    | .rt r => ∃ v d1, resO 1 r e = some v ∧ own0 e = some d1 ∧ R (.ok v) d1
    | .nx => ∃ d1, own0 e = some d1 ∧ R (.ok (.imm .none)) d1
    | _ => False) (fun x e => ∃ d1, own0 e = some d1 ∧ R (.error x) d1)) : ∃ r d1, runM n g d0 ds = some (r, d1) ∧ R r d1 := by
  exact runM_wpd h.1
end BV

/-! BVcl: closures of pairs, in plain Lean. -/
namespace BV
open PySem PySem.Spec
open PyProof.Rows hiding St

inductive TC (ps : List Pr) : Int → Int → Prop
  | one {a b : Int} : (a, b) ∈ ps → TC ps a b
  | step {a b c : Int} : (a, b) ∈ ps → TC ps b c → TC ps a c
def inN (n : Nat) (ps : List Pr) : Prop := ∀ p ∈ ps, 0 ≤ p.1 ∧ p.1 < n ∧ 0 ≤ p.2 ∧ p.2 < n
def IsC (ps r : List Pr) : Prop := r.Pairwise ltP ∧ ∀ p : Pr, p ∈ r ↔ TC ps p.1 p.2
section
variable {ps qs r : List Pr} {n : Nat} {a b c : Int}
theorem TC.trans (h : TC ps a b) (h2 : TC ps b c) : TC ps a c := by
  induction h with
  | one m => exact .step m h2
  | step m _ ih => exact .step m (ih h2)
theorem TC.mono (hs : ∀ p ∈ ps, TC qs p.1 p.2) (h : TC ps a b) : TC qs a b := by
  induction h with
  | one m => exact hs _ m
  | step m _ ih => exact (hs _ m).trans ih
theorem TC.dom (hn : inN n ps) (h : TC ps a b) : 0 ≤ a ∧ a < n ∧ 0 ≤ b ∧ b < n := by
  induction h with
  | one m => exact hn _ m
  | step m _ ih => exact ⟨(hn _ m).1, (hn _ m).2.1, ih.2.2.1, ih.2.2.2⟩
theorem TC.closed {R : Int → Int → Prop} (h1 : ∀ p ∈ ps, R p.1 p.2) (ht : ∀ a b c, R a b → R b c → R a c) (h : TC ps a b) : R a b := by
  induction h with
  | one m => exact h1 _ m
  | step m _ ih => exact ht _ _ _ (h1 _ m) ih
theorem IsC.unique {r' : List Pr} (h : IsC ps r) (h' : IsC ps r') : r = r' := sorted_unique h.1 h'.1 fun q => (h.2 q).trans (h'.2 q).symm
theorem IsC.idem (h : IsC ps r) : IsC r r := ⟨h.1, fun p => ⟨fun m => .one m, fun t => (h.2 p).mpr (t.mono fun q m => (h.2 q).mp m)⟩⟩
theorem IsC.inN (h : IsC ps r) (hn : inN n ps) : inN n r := fun p m => ((h.2 p).mp m).dom hn
theorem IsC.congr (h : IsC ps r) (e : ∀ p : Pr, TC ps p.1 p.2 ↔ TC qs p.1 p.2) : IsC qs r := ⟨h.1, fun p => (h.2 p).trans (e p)⟩
end

/-! ### Warshall -/
def Sq (n : Nat) (M : Mat) : Prop := M.length = n ∧ ∀ i, i < n → (M.getD i []).length = n
section
variable {n k i j a b : Nat} {M : Mat}
theorem sq_set (h : Sq n M) : Sq n (setB M i j) := by
  refine ⟨by rw [setB, List.length_set]; exact h.1, fun x hx => ?_⟩
  have hx1 : x < M.length := by rw [h.1]; exact hx
  have hh := h.2 x hx
  unfold setB
  simp only [List.getD_eq_getElem?_getD, List.getElem?_set] at hh ⊢
  split
  · rename_i e
    subst e
    simp only [hx1, if_true, Option.getD_some, List.length_set]
    exact hh
  · exact hh
theorem get_set (h : Sq n M) (hi : i < n) (hj : j < n) : getB (setB M i j) a b = true ↔ getB M a b = true ∨ (a = i ∧ b = j) := by
  have hi1 : i < M.length := by rw [h.1]; exact hi
  have hl := h.2 i hi
  unfold setB getB
  simp only [List.getD_eq_getElem?_getD, List.getElem?_set] at hl ⊢
  by_cases e : i = a
  · subst e
    simp only [hi1, if_true, Option.getD_some, List.getElem?_set]
    by_cases e2 : j = b
    · subst e2
      have hj1 : j < (M[i]?.getD []).length := by rw [hl]; exact hj
      simp [hj1]
    · simp only [e2, if_false, true_and]
      constructor
      · exact .inl
      · rintro (h | h)
        · exact h
        · exact absurd h.symm e2
  · simp only [e, if_false]
    constructor
    · exact .inl
    · rintro (h | h)
      · exact h
      · exact absurd h.1.symm e
theorem getB_lt (h : Sq n M) (g : getB M a b = true) : a < n ∧ b < n := by
  have ha : a < n := by
    apply Classical.byContradiction
    intro hn
    unfold getB at g
    have e : M.getD a [] = [] := by rw [List.getD_eq_getElem?_getD, List.getElem?_eq_none (l := M) (by rw [h.1]; omega)]; rfl
    rw [e] at g
    simp at g
  refine ⟨ha, ?_⟩
  have hl := h.2 a ha
  apply Classical.byContradiction
  intro hn
  unfold getB at g
  have e : (M.getD a []).getD b false = false := by rw [List.getD_eq_getElem?_getD (l := M.getD a []), List.getElem?_eq_none (l := M.getD a []) (by rw [hl]; omega)]; rfl
  rw [e] at g
  cases g
theorem sq_step (h : Sq n M) : Sq n (stepW k i M j) := by
  unfold stepW
  split
  · exact sq_set h
  · exact h
theorem get_step (h : Sq n M) (hi : i < n) (hj : j < n) : getB (stepW k i M j) a b = true ↔ getB M a b = true ∨ (a = i ∧ b = j ∧ getB M i k = true ∧ getB M k j = true) := by
  unfold stepW
  split
  · rename_i c
    rw [Bool.and_eq_true] at c
    rw [get_set h hi hj]
    simp [c.1, c.2]
  · rename_i c
    rw [Bool.and_eq_true] at c
    constructor
    · exact .inl
    · rintro (h | h)
      · exact h
      · exact absurd h.2.2 c
theorem wJ (hi : i < n) : ∀ (js : List Nat) (M : Mat), Sq n M → (∀ j ∈ js, j < n) → Sq n (js.foldl (stepW k i) M) ∧ ∀ a b, getB (js.foldl (stepW k i) M) a b = true ↔ getB M a b = true ∨ (a = i ∧ b ∈ js ∧ getB M i k = true ∧ getB M k b = true)
  | [], M, h, _ => ⟨h, fun a b => by simp⟩
  | j :: js, M, h, hj => by
    obtain ⟨s, e⟩ := wJ hi js (stepW k i M j) (sq_step h) fun x m => hj x (List.mem_cons_of_mem _ m)
    refine ⟨s, fun a b => ?_⟩
    have hj1 := hj j List.mem_cons_self
    rw [List.foldl_cons, e a b, get_step h hi hj1, get_step h hi hj1, get_step h hi hj1]
    constructor
    · rintro ((g | ⟨rfl, rfl, g1, g2⟩) | ⟨rfl, m, g1, g2⟩)
      · exact .inl g
      · exact .inr ⟨rfl, List.mem_cons_self, g1, g2⟩
      · refine .inr ⟨rfl, List.mem_cons_of_mem _ m, ?_, ?_⟩
        · rcases g1 with g1 | g1
          · exact g1
          · exact g1.2.2.1
        · rcases g2 with g2 | ⟨rfl, rfl, g2, g3⟩
          · exact g2
          · exact g3
    · rintro (g | ⟨rfl, m, g1, g2⟩)
      · exact .inl (.inl g)
      · rcases List.mem_cons.mp m with rfl | m
        · exact .inl (.inr ⟨rfl, rfl, g1, g2⟩)
        · exact .inr ⟨rfl, m, .inl g1, .inl g2⟩
theorem wI (hk : k < n) : ∀ (is : List Nat) (M : Mat), Sq n M → (∀ i ∈ is, i < n) → Sq n (is.foldl (fun M i => warshJ n k i M) M) ∧ ∀ a b, getB (is.foldl (fun M i => warshJ n k i M) M) a b = true ↔ getB M a b = true ∨ (a ∈ is ∧ b < n ∧ getB M a k = true ∧ getB M k b = true)
  | [], M, h, _ => ⟨h, fun a b => by simp⟩
  | i :: is, M, h, hi => by
    have hi1 := hi i List.mem_cons_self
    have hj : ∀ j ∈ List.range n, j < n := fun j m => List.mem_range.mp m
    obtain ⟨s1, e1⟩ := wJ (k := k) hi1 (List.range n) M h hj
    have s1' : Sq n (warshJ n k i M) := s1
    have e1' : ∀ a b, getB (warshJ n k i M) a b = true ↔ getB M a b = true ∨ (a = i ∧ b < n ∧ getB M i k = true ∧ getB M k b = true) := fun a b => by rw [← List.mem_range]; exact e1 a b
    obtain ⟨s, e⟩ := wI hk is (warshJ n k i M) s1' fun x m => hi x (List.mem_cons_of_mem _ m)
    refine ⟨s, fun a b => ?_⟩
    rw [List.foldl_cons, e a b, e1' a b, e1' a k, e1' k b]
    constructor
    · rintro ((g | ⟨rfl, m, g1, g2⟩) | ⟨m, lb, g1, g2⟩)
      · exact .inl g
      · exact .inr ⟨List.mem_cons_self, m, g1, g2⟩
      · refine .inr ⟨List.mem_cons_of_mem _ m, lb, ?_, ?_⟩
        · rcases g1 with g1 | ⟨rfl, g1⟩
          · exact g1
          · exact g1.2.1
        · rcases g2 with g2 | g2
          · exact g2
          · exact g2.2.2.2
    · rintro (g | ⟨m, lb, g1, g2⟩)
      · exact .inl (.inl g)
      · rcases List.mem_cons.mp m with rfl | m
        · exact .inl (.inr ⟨rfl, lb, g1, g2⟩)
        · exact .inr ⟨m, lb, .inl g1, .inl g2⟩
theorem wK (hk : k < n) (h : Sq n M) : Sq n (warshI n k M) ∧ ∀ a b, getB (warshI n k M) a b = true ↔ getB M a b = true ∨ (getB M a k = true ∧ getB M k b = true) := by
  obtain ⟨s, e⟩ := wI hk (List.range n) M h fun j m => List.mem_range.mp m
  refine ⟨s, fun a b => (e a b).trans ⟨?_, ?_⟩⟩
  · rintro (g | ⟨_, _, g1, g2⟩)
    · exact .inl g
    · exact .inr ⟨g1, g2⟩
  · rintro (g | ⟨g1, g2⟩)
    · exact .inl g
    · exact .inr ⟨List.mem_range.mpr (getB_lt h g1).1, (getB_lt h g2).2, g1, g2⟩
structure WInv (n m : Nat) (M0 M : Mat) (R : Nat → Nat → Prop) : Prop where
  sq : Sq n M
  up : ∀ a b, getB M0 a b = true → getB M a b = true
  sound : ∀ a b, getB M a b = true → R a b
  tr : ∀ a k b, k < m → getB M a k = true → getB M k b = true → getB M a b = true
theorem wN {M0 : Mat} {R : Nat → Nat → Prop} (h : Sq n M0) (hs : ∀ a b, getB M0 a b = true → R a b) (ht : ∀ a b c, R a b → R b c → R a c) : ∀ m, m ≤ n → WInv n m M0 ((List.range m).foldl (fun M k => warshI n k M) M0) R
  | 0, _ => ⟨h, fun _ _ g => g, hs, fun _ _ _ z => by omega⟩
  | m + 1, hm => by
    have I := wN h hs ht m (by omega)
    rw [List.range_succ, List.foldl_append, List.foldl_cons, List.foldl_nil]
    generalize (List.range m).foldl (fun M k => warshI n k M) M0 = M at I ⊢
    obtain ⟨s, e⟩ := wK (k := m) (by omega) I.sq
    refine ⟨s, fun a b g => (e a b).mpr (.inl (I.up a b g)), fun a b g => ?_, fun a k b hk g1 g2 => ?_⟩
    · rcases (e a b).mp g with g | ⟨g1, g2⟩
      · exact I.sound a b g
      · exact ht _ _ _ (I.sound _ _ g1) (I.sound _ _ g2)
    · refine (e a b).mpr ?_
      by_cases km : k = m
      · subst km
        right
        constructor
        · rcases (e a k).mp g1 with g | g
          · exact g
          · exact g.1
        · rcases (e k b).mp g2 with g | g
          · exact g
          · exact g.2
      · have hk : k < m := by omega
        rcases (e a k).mp g1 with p | ⟨p1, p2⟩ <;> rcases (e k b).mp g2 with q | ⟨q1, q2⟩
        · exact .inl (I.tr a k b hk p q)
        · exact .inr ⟨I.tr a k m hk p q1, q2⟩
        · exact .inr ⟨p1, I.tr m k b hk p2 q⟩
        · exact .inr ⟨p1, q2⟩
end
/-- the closure, as a sorted list -/
def clo (n : Nat) (ps : List Pr) : List Pr := matPairs n (warsh n (mat0 n (ps.map pd)))
theorem en_pd : (pd : Pr → PyData) = Enc.en := rfl
theorem mat0_sq (n : Nat) (ds : List PyData) : Sq n (mat0 n ds) := by
  refine ⟨by simp [mat0], fun i hi => ?_⟩
  simp [mat0, List.getD_eq_getElem?_getD, List.getElem?_map, List.getElem?_range, hi]
theorem mat0_get {n : Nat} {ps : List Pr} {a b : Nat} : getB (mat0 n (ps.map pd)) a b = true ↔ a < n ∧ b < n ∧ ((a : Int), (b : Int)) ∈ ps := by
  constructor
  · intro g
    obtain ⟨ha, hb⟩ := getB_lt (mat0_sq _ _) g
    refine ⟨ha, hb, ?_⟩
    unfold getB mat0 at g
    rw [en_pd] at g
    simp only [List.getD_eq_getElem?_getD, List.getElem?_map, List.getElem?_range ha, Option.map_some, Option.getD_some, List.getElem?_range hb, enc_any, decide_eq_true_eq] at g
    exact g
  · rintro ⟨ha, hb, m⟩
    unfold getB mat0
    rw [en_pd]
    simp only [List.getD_eq_getElem?_getD, List.getElem?_map, List.getElem?_range ha, Option.map_some, Option.getD_some, List.getElem?_range hb, enc_any, decide_eq_true_eq]
    exact m
theorem warsh_get {n : Nat} {ps : List Pr} (hn : inN n ps) (a b : Nat) : getB (warsh n (mat0 n (ps.map pd))) a b = true ↔ TC ps a b := by
  have I : WInv n n (mat0 n (ps.map pd)) (warsh n (mat0 n (ps.map pd))) fun a b => TC ps a b := wN (R := fun a b => TC ps (a : Int) (b : Int)) (mat0_sq _ _) (fun a b g => .one (mat0_get.mp g).2.2) (fun _ _ _ x y => x.trans y) n (Nat.le_refl n)
  refine ⟨I.sound a b, fun t => ?_⟩
  have key : ∀ x y : Int, TC ps x y → getB (warsh n (mat0 n (ps.map pd))) x.toNat y.toNat = true := by
    intro x y t
    induction t with
    | @one a b m =>
      have d := hn _ m
      refine I.up _ _ (mat0_get.mpr ⟨by omega, by omega, ?_⟩)
      rw [Int.toNat_of_nonneg d.1, Int.toNat_of_nonneg d.2.2.1]
      exact m
    | @step a b c m _ ih =>
      have d := hn _ m
      refine I.tr _ b.toNat _ (by omega) (I.up _ _ (mat0_get.mpr ⟨by omega, by omega, ?_⟩)) ih
      rw [Int.toNat_of_nonneg d.1, Int.toNat_of_nonneg d.2.2.1]
      exact m
  simpa using key a b t
theorem matPairs_sorted (n : Nat) (M : Mat) : (matPairs n M).Pairwise ltP := by
  unfold matPairs
  rw [List.pairwise_flatMap]
  refine ⟨fun i _ => ?_, ?_⟩
  · rw [List.pairwise_map]
    refine List.Pairwise.filter _ (List.Pairwise.imp ?_ List.pairwise_lt_range)
    intro a b h
    exact .inr ⟨rfl, by show (a : Int) < b; omega⟩
  · refine List.Pairwise.imp ?_ List.pairwise_lt_range
    intro a b h x hx y hy
    rw [List.mem_map] at hx hy
    obtain ⟨_, _, rfl⟩ := hx
    obtain ⟨_, _, rfl⟩ := hy
    exact .inl (by show (a : Int) < b; omega)
theorem mem_matPairs {n : Nat} {M : Mat} {p : Pr} : p ∈ matPairs n M ↔ ∃ a b : Nat, a < n ∧ b < n ∧ getB M a b = true ∧ p = ((a : Int), (b : Int)) := by
  unfold matPairs
  simp only [List.mem_flatMap, List.mem_range, List.mem_map, List.mem_filter]
  constructor
  · rintro ⟨a, ha, b, ⟨hb, g⟩, rfl⟩
    exact ⟨a, b, ha, hb, g, rfl⟩
  · rintro ⟨a, b, ha, hb, g, rfl⟩
    exact ⟨a, ha, b, ⟨hb, g⟩, rfl⟩
theorem clo_isC {n : Nat} {ps : List Pr} (hn : inN n ps) : IsC ps (clo n ps) := by
  refine ⟨matPairs_sorted _ _, fun p => ?_⟩
  unfold clo
  rw [mem_matPairs]
  constructor
  · rintro ⟨a, b, _, _, g, rfl⟩
    exact (warsh_get hn a b).mp g
  · intro t
    have d := t.dom hn
    refine ⟨p.1.toNat, p.2.toNat, by omega, by omega, (warsh_get hn _ _).mpr ?_, ?_⟩
    · rw [Int.toNat_of_nonneg d.1, Int.toNat_of_nonneg d.2.2.1]
      exact t
    · rw [Int.toNat_of_nonneg d.1, Int.toNat_of_nonneg d.2.2.1]
/-- no number goes ahead of itself -/
def Acy (ps : List Pr) : Prop := ∀ a, ¬ TC ps a a
theorem diag {n : Nat} {ps : List Pr} (hn : inN n ps) : ((List.range n).any fun i => getB (warsh n (mat0 n (ps.map pd))) i i) = true ↔ ¬ Acy ps := by
  rw [List.any_eq_true]
  constructor
  · rintro ⟨i, _, g⟩ h
    exact h i ((warsh_get hn i i).mp g)
  · intro h
    apply Classical.byContradiction
    intro c
    refine h fun a t => c ⟨a.toNat, ?_, ?_⟩
    · have d := t.dom hn
      rw [List.mem_range]
      omega
    · have d := t.dom hn
      rw [warsh_get hn, Int.toNat_of_nonneg d.1]
      exact t
theorem e_closed {n : Nat} {ps : List Pr} {d : PyData} (hd : seqOf d = some (ps.map pd)) (hn : inN n ps) (hb : n ≤ 300) :
    (Acy ps → G_closed [d, .int n] = some (.ok (.imm (Enc.en (clo n ps))))) ∧ (¬ Acy ps → G_closed [d, .int n] = some (.error ⟨"Clash", none⟩)) := by
  have hc : 0 ≤ (n : Int) ∧ (n : Int) ≤ 300 ∧ PyData.canLayAll0 (ps.map pd) = true := ⟨by omega, by omega, enc_layAll ps⟩
  have hdg := diag hn
  unfold G_closed
  simp only [hd, if_pos hc, Int.toNat_natCast]
  constructor
  · intro h
    rw [if_neg fun g => hdg.mp g h]
    rfl
  · intro h
    rw [if_pos (hdg.mpr h)]
end BV

/-! BVcm: the nested lists of closed, step by step. -/
namespace BV
open PySem PySem.Spec L2
open PyProof.Rows hiding St
theorem upd_keep {H : Hp} {p a : Addr} {o u : HO} (hp : H p = none) (h : H a = some u) : upd H p o a = some u := by
  rw [upd_ne (fun e => by rw [e, hp] at h; cases h)]
  exact h
theorem small_size {k : Nat} (h : k ≤ 1000) : k < sizeLine := by
  have : (1000 : Nat) < sizeLine := by decide
  omega
abbrev tInP (K : Fg) : TE := tOp (rInS K false) (tTup (tCons (tVar 5) (tCons (tVar 6) tNil))) (tVar 0)
abbrev tRowP (K : Fg) : TE := tLc (iRng1 (tCons (tVar 1) tNil)) (gName 6) tYes (tInP K) [6]
def rowV (n : Nat) (ds : List PyData) (i : Nat) : List V := (List.range n).map fun (k : Nat) => V.bl (anyEq (pd ((i : Int), (k : Int))) ds)
theorem simRow {K : Fg} {Z0 H1 : Hp} {v0 : V} {d0 : PyData} {ds : List PyData} {n i : Nat} {Q : VK} {x2 x3 x4 : Option V} (hZ : Le Z0 H1) (hd : Dt K Z0 v0 d0) (hs : seqOf d0 = some ds) (hl : PyData.canLayAll0 ds = true) (hn : n ≤ 300)
    (k : ∀ D H', H1 D = none → (∀ a o, H1 a = some o → H' a = some o) → H' D = some (.lst (rowV n ds i)) → Q (.ref D) H') :
    tRowP K [some v0, some (.int n), x2, x3, x4, some (.int i), none] H1 Q := by
  refine ⟨.int n, rfl, n, rfl, by omega, by omega, fun D hD => ?_⟩
  refine lc_range (n := n) (vs := [6]) (fun j H => (∀ a o, H1 a = some o → H a = some o) ∧ H D = some (.lst (rowV j ds i))) ⟨fun a o h => upd_keep hD h, upd_same⟩ ?_ ?_
  · rintro j H hj ⟨hf, hHD⟩
    refine ⟨rfl, ?_⟩
    show tInP K [some v0, some (.int n), x2, x3, x4, some (.int i), some (.int (0 + (j : Int)))] H _
    refine ⟨.int i, rfl, .int (0 + j), rfl, by show 2 ≤ sizeLine; decide, fun p hp => ⟨v0, rfl, ?_⟩⟩
    refine ⟨pd ((i : Int), (j : Int)), d0, ds, ?_, ?_, hs, rfl, hl, ?_⟩
    · have e : (0 : Int) + (j : Int) = j := by omega
      rw [e]
      exact .tup (.inl (.inl upd_same)) (.cons (.int _) (.cons (.int _) .nil))
    · have l1 : Le Z0 (upd H p (.tup [.int i, .int (0 + j)])) := fun a o h => upd_keep hp (hf a o (hZ a o h))
      exact (l1.dp _ _ hd).dp
    · refine ⟨rowV j ds i, upd_keep hp hHD, by unfold rowV; rw [List.length_map, List.length_range]; exact small_size (by omega), ?_⟩
      have hpD : D ≠ p := fun e => by rw [← e, hHD] at hp; cases hp
      refine ⟨fun a o h => ?_, ?_⟩
      · have hne : a ≠ D := fun e => by rw [e, hD] at h; cases h
        rw [upd_ne hne]
        exact upd_keep hp (hf a o h)
      · rw [upd_same]
        unfold rowV
        rw [List.range_succ, List.map_append]
        rfl
  · rintro H ⟨hf, hHD⟩
    exact k D H hD hf hHD
/-- the matrix in the heap -/
structure Mx (H0 H : Hp) (n : Nat) (M : Mat) (p : Addr) (rows : List Addr) : Prop where
  fr : ∀ a o, H0 a = some o → H a = some o
  hp : H p = some (.lst (rows.map V.ref))
  p0 : H0 p = none
  len : rows.length = n
  nd : rows.Nodup
  np : p ∉ rows
  row : ∀ (i : Nat) r, rows[i]? = some r → H r = some (.lst ((M.getD i []).map V.bl)) ∧ H0 r = none
  sq : Sq n M
theorem rowV_mat {n i : Nat} {ds : List PyData} (h : i < n) : rowV n ds i = ((mat0 n ds).getD i []).map V.bl := by
  unfold rowV mat0
  rw [List.getD_eq_getElem?_getD, List.getElem?_map, List.getElem?_range h, Option.map_some, Option.getD_some, List.map_map]
  rfl
theorem sim1 {K : Fg} {Z0 H0 : Hp} {v0 : V} {d0 : PyData} {ds : List PyData} {n : Nat} {D : Ends} (hZ : Le Z0 H0) (hd : Dt K Z0 v0 d0) (hs : seqOf d0 = some ds) (hl : PyData.canLayAll0 ds = true) (hn : n ≤ 300)
    (k : ∀ p rows H, Mx H0 H n (mat0 n ds) p rows → D.nx [some v0, some (.int n), some (.ref p), none, none, none, none] H) :
    tAsg (tLc (iRng1 (tCons (tVar 1) tNil)) (gName 5) tYes (tRowP K) [5]) (gName 2) D [some v0, some (.int n), none, none, none, none, none] H0 := by
  refine ⟨.int n, rfl, n, rfl, by omega, by omega, fun P hP => ?_⟩
  refine lc_range (n := n) (vs := [5]) (fun i H => (∀ a o, H0 a = some o → H a = some o) ∧ ∃ rows : List Addr, H P = some (.lst (rows.map V.ref)) ∧ rows.length = i ∧ rows.Nodup ∧ P ∉ rows ∧ ∀ (j : Nat) r, rows[j]? = some r → H r = some (.lst (rowV n ds j)) ∧ H0 r = none) ⟨fun a o h => upd_keep hP h, [], upd_same, rfl, List.nodup_nil, by simp, by simp⟩ ?_ ?_
  · rintro i H hi ⟨hf, rows, hHP, hlen, hnd, hnp, hrow⟩
    refine ⟨rfl, ?_⟩
    have e0 : (0 : Int) + (i : Int) = i := by omega
    unfold tYes
    refine iteT ?_
    show tRowP K [some v0, some (.int n), none, none, none, some (.int (0 + (i : Int))), none] H _
    rw [e0]
    refine simRow (fun a o h => hf a o (hZ a o h)) hd hs hl hn ?_
    intro R H' hR hf' hHR
    have hRP : P ≠ R := fun e => by rw [← e, hHP] at hR; cases hR
    have hRr : R ∉ rows := fun m => by
      obtain ⟨j, hj⟩ := List.getElem?_of_mem m
      rw [(hrow j R hj).1] at hR
      cases hR
    have hR0 : H0 R = none := by
      cases e : H0 R with
      | none => rfl
      | some o => rw [hf R o e] at hR; cases hR
    refine ⟨rows.map V.ref, hf' P _ hHP, by rw [List.length_map, hlen]; exact small_size (by omega), ?_⟩
    refine ⟨fun a o h => ?_, rows ++ [R], ?_, by rw [List.length_append, List.length_singleton, hlen], ?_, ?_, ?_⟩
    · have hne : a ≠ P := fun e => by rw [e, hP] at h; cases h
      rw [upd_ne hne]
      exact hf' a o (hf a o h)
    · rw [upd_same, List.map_append]
      rfl
    · rw [List.nodup_append]
      exact ⟨hnd, by simp, fun a ha b hb e => by rw [List.mem_singleton] at hb; rw [hb] at e; rw [e] at ha; exact hRr ha⟩
    · intro m
      rcases List.mem_append.mp m with m | m
      · exact hnp m
      · rw [List.mem_singleton] at m
        exact hRP m
    · intro j r hj
      by_cases hjl : j < rows.length
      · rw [List.getElem?_append_left hjl] at hj
        obtain ⟨a1, a2⟩ := hrow j r hj
        have hne : r ≠ P := fun e => hnp (by rw [← e]; exact List.mem_of_getElem? hj)
        rw [upd_ne hne]
        exact ⟨hf' r _ a1, a2⟩
      · rw [List.getElem?_append_right (by omega)] at hj
        have hj0 : j - rows.length = 0 := by
          cases hh : j - rows.length with
          | zero => rfl
          | succ m => rw [hh] at hj; simp at hj
        rw [hj0] at hj
        cases hj
        have : j = i := by omega
        subst this
        rw [upd_ne (Ne.symm hRP)]
        exact ⟨hHR, hR0⟩
  · rintro H ⟨hf, rows, hHP, hlen, hnd, hnp, hrow⟩
    have hlen : rows.length = n := hlen
    refine k P rows H ⟨hf, hHP, hP, hlen, hnd, hnp, fun j r hj => ?_, mat0_sq n ds⟩
    obtain ⟨a1, a2⟩ := hrow j r hj
    have hjl : j < n := by
      rw [← hlen]
      exact (List.getElem?_eq_some_iff.mp hj).1
    rw [← rowV_mat hjl]
    exact ⟨a1, a2⟩

/-! ### the three loops -/
abbrev tTr (K : Fg) (ta : TE) : TT := fun σ H Q => ta σ H fun x H' => ∃ k, TruV K x H' k ∧ Q k H'
abbrev tAt2 (K : Fg) (a b : Nat) : TE := tOp (rIx K) (tOp (rIx K) (tVar 2) (tVar a)) (tVar b)
theorem atI_nat {α : Type} {xs : List α} {i : Nat} {x : α} (h : xs[i]? = some x) : atI xs (i : Int) = some x := by
  have hl := (List.getElem?_eq_some_iff.mp h).1
  unfold atI ixN
  rw [if_pos (by omega), if_pos (by omega)]
  exact h
theorem getB_at {n : Nat} {M : Mat} (s : Sq n M) {i k : Nat} (hi : i < n) (hk : k < n) : ((M.getD i []).map V.bl)[k]? = some (.bl (getB M i k)) := by
  have hl := s.2 i hi
  unfold getB
  rw [List.getElem?_map, List.getD_eq_getElem?_getD (l := M.getD i [])]
  have : (M.getD i [])[k]? = some (M.getD i [])[k] := List.getElem?_eq_getElem (by omega)
  rw [this]
  rfl
theorem readM {K : Fg} {H0 H : Hp} {n : Nat} {M : Mat} {p : Addr} {rows : List Addr} {σ : St} {a b i k : Nat} {Q : VK} (X : Mx H0 H n M p rows) (h2 : σ[2]? = some (some (.ref p))) (ha : σ[a]? = some (some (.int i))) (hb : σ[b]? = some (some (.int k))) (hi : i < n) (hk : k < n) (q : Q (.bl (getB M i k)) H) : tAt2 K a b σ H Q := by
  have hl := X.len
  have hr : rows[i]? = some rows[i] := List.getElem?_eq_getElem (by omega)
  have hrr := X.row i _ hr
  exact ⟨.ref p, h2, .int i, ha, .inl ⟨p, rows.map V.ref, i, .ref rows[i], rfl, rfl, .inl (.inl X.hp), atI_nat (by rw [List.getElem?_map, hr]; rfl), .int k, hb, .inl ⟨rows[i], _, k, _, rfl, rfl, .inl (.inl hrr.1), atI_nat (getB_at X.sq hi hk), q⟩⟩⟩
theorem Mx.set {H0 H : Hp} {n : Nat} {M : Mat} {p r : Addr} {rows : List Addr} {i j : Nat} (X : Mx H0 H n M p rows) (hr : rows[i]? = some r) : Mx H0 (upd H r (.lst (((M.getD i []).map V.bl).set j (.bl true)))) n (setB M i j) p rows := by
  have hrp : r ∈ rows := List.mem_of_getElem? hr
  have hrr := X.row i r hr
  have hin : i < n := by rw [← X.len]; exact (List.getElem?_eq_some_iff.mp hr).1
  refine ⟨fun a o h => ?_, ?_, X.p0, X.len, X.nd, X.np, fun l r2 h => ?_, sq_set X.sq⟩
  · rw [upd_ne (fun e => by rw [e, hrr.2] at h; cases h)]
    exact X.fr a o h
  · rw [upd_ne (fun e => X.np (by rw [e]; exact hrp))]
    exact X.hp
  · have h2 := X.row l r2 h
    by_cases e : l = i
    · subst e
      rw [hr] at h
      cases h
      refine ⟨?_, hrr.2⟩
      rw [upd_same]
      have hiM : l < M.length := by rw [X.sq.1]; exact hin
      unfold setB
      have : (M.set l ((M.getD l []).set j true)).getD l [] = (M.getD l []).set j true := by
        rw [List.getD_eq_getElem?_getD, List.getElem?_set_self hiM]
        rfl
      rw [this, List.map_set]
    · have hne : r2 ≠ r := fun e2 => by
        subst e2
        obtain ⟨l1, e1⟩ := List.getElem?_eq_some_iff.mp h
        obtain ⟨l2, e2⟩ := List.getElem?_eq_some_iff.mp hr
        exact e ((List.getElem_inj (h₀ := l1) (h₁ := l2) X.nd).mp (e1.trans e2.symm))
      rw [upd_ne hne]
      refine ⟨?_, h2.2⟩
      unfold setB
      have : (M.set i ((M.getD i []).set j true)).getD l [] = M.getD l [] := by
        rw [List.getD_eq_getElem?_getD, List.getElem?_set_ne (Ne.symm e), ← List.getD_eq_getElem?_getD]
      rw [this]
      exact h2.1
abbrev tInner (K : Fg) : TS := tIfS (tAnd (tTr K (tAt2 K 5 3)) (tTr K (tAt2 K 3 6))) (tAsg (tC (.bl true)) (gSub (tOp (rIx K) (tVar 2) (tVar 5)) (tVar 6) rSetL)) tNext
theorem sim2c {K : Fg} {H0 H : Hp} {n : Nat} {M : Mat} {p : Addr} {rows : List Addr} {v0 : V} {k i j : Nat} {D : Ends} (X : Mx H0 H n M p rows) (hk : k < n) (hi : i < n) (hj : j < n)
    (q : ∀ H', Mx H0 H' n (stepW k i M j) p rows → D.nx [some v0, some (.int n), some (.ref p), some (.int k), none, some (.int i), some (.int j)] H') : tInner K D [some v0, some (.int n), some (.ref p), some (.int k), none, some (.int i), some (.int j)] H := by
  unfold stepW at q
  have hl := X.len
  refine readM X rfl rfl rfl hi hk ⟨_, rfl, ?_⟩
  cases h1 : getB M i k with
  | false =>
    rw [h1] at q
    exact q H X
  | true =>
    rw [h1] at q
    refine iteT ?_
    refine readM X rfl rfl rfl hk hj ⟨_, rfl, ?_⟩
    cases h2 : getB M k j with
    | false =>
      rw [h2] at q
      exact q H X
    | true =>
      rw [h2] at q
      refine iteT ?_
      have hr : rows[i]? = some rows[i] := List.getElem?_eq_getElem (by omega)
      have hrr := X.row i _ hr
      have hlen := X.sq.2 i hi
      refine ⟨.ref p, rfl, .int i, rfl, .inl ⟨p, rows.map V.ref, i, .ref rows[i], rfl, rfl, .inl (.inl X.hp), atI_nat (by rw [List.getElem?_map, hr]; rfl), ?_⟩⟩
      refine ⟨.int j, rfl, rows[i], _, j, j, rfl, rfl, hrr.1, ?_, ?_⟩
      · rw [List.length_map, hlen]
        unfold ixN
        rw [if_pos (by omega), if_pos (by omega)]
        rfl
      · exact q _ (X.set hr)
theorem foldl_rs {α : Type} (f : α → Nat → α) (a : α) (k : Nat) : (List.range (k + 1)).foldl f a = f ((List.range k).foldl f a) k := by
  rw [List.range_succ, List.foldl_append]
  rfl
abbrev tRg : TI := iRng1 (tCons (tVar 1) tNil)
theorem sim2j {K : Fg} {H0 H : Hp} {n : Nat} {M : Mat} {p : Addr} {rows : List Addr} {v0 : V} {k i : Nat} {x6 : Option V} {D : Ends} (hn : n ≤ 300) (X : Mx H0 H n M p rows) (hk : k < n) (hi : i < n)
    (q : ∀ x6 H', Mx H0 H' n (warshJ n k i M) p rows → D.nx [some v0, some (.int n), some (.ref p), some (.int k), none, some (.int i), x6] H') : tFor tRg (gName 6) (tInner K) D [some v0, some (.int n), some (.ref p), some (.int k), none, some (.int i), x6] H := by
  refine ⟨.int n, rfl, n, rfl, by omega, by omega, ?_⟩
  refine for_range (n := n) (fun j σ H => (∃ x6, σ = [some v0, some (.int n), some (.ref p), some (.int k), none, some (.int i), x6]) ∧ Mx H0 H n ((List.range j).foldl (stepW k i) M) p rows) ⟨⟨_, rfl⟩, X⟩ ?_ ?_
  · rintro j σ H1 hj ⟨⟨x6, rfl⟩, X1⟩
    have e0 : (0 : Int) + (j : Int) = j := by omega
    rw [e0]
    refine sim2c X1 hk hi hj fun H' X2 => ⟨⟨_, rfl⟩, ?_⟩
    rw [foldl_rs]
    exact X2
  · rintro σ H1 ⟨⟨x6, rfl⟩, X1⟩
    exact q x6 H1 X1
theorem sim2i {K : Fg} {H0 H : Hp} {n : Nat} {M : Mat} {p : Addr} {rows : List Addr} {v0 : V} {k : Nat} {x5 x6 : Option V} {D : Ends} (hn : n ≤ 300) (X : Mx H0 H n M p rows) (hk : k < n)
    (q : ∀ x5 x6 H', Mx H0 H' n (warshI n k M) p rows → D.nx [some v0, some (.int n), some (.ref p), some (.int k), none, x5, x6] H') : tFor tRg (gName 5) (tFor tRg (gName 6) (tInner K)) D [some v0, some (.int n), some (.ref p), some (.int k), none, x5, x6] H := by
  refine ⟨.int n, rfl, n, rfl, by omega, by omega, ?_⟩
  refine for_range (n := n) (fun i σ H => (∃ x5 x6, σ = [some v0, some (.int n), some (.ref p), some (.int k), none, x5, x6]) ∧ Mx H0 H n ((List.range i).foldl (fun M i => warshJ n k i M) M) p rows) ⟨⟨_, _, rfl⟩, X⟩ ?_ ?_
  · rintro i σ H1 hi ⟨⟨x5, x6, rfl⟩, X1⟩
    have e0 : (0 : Int) + (i : Int) = i := by omega
    rw [e0]
    refine sim2j hn X1 hk hi fun x6 H' X2 => ⟨⟨_, _, rfl⟩, ?_⟩
    rw [foldl_rs]
    exact X2
  · rintro σ H1 ⟨⟨x5, x6, rfl⟩, X1⟩
    exact q x5 x6 H1 X1
theorem sim2 {K : Fg} {H0 H : Hp} {n : Nat} {M : Mat} {p : Addr} {rows : List Addr} {v0 : V} {x3 x5 x6 : Option V} {D : Ends} (hn : n ≤ 300) (X : Mx H0 H n M p rows)
    (q : ∀ x3 x5 x6 H', Mx H0 H' n (warsh n M) p rows → D.nx [some v0, some (.int n), some (.ref p), x3, none, x5, x6] H') : tFor tRg (gName 3) (tFor tRg (gName 5) (tFor tRg (gName 6) (tInner K))) D [some v0, some (.int n), some (.ref p), x3, none, x5, x6] H := by
  refine ⟨.int n, rfl, n, rfl, by omega, by omega, ?_⟩
  refine for_range (n := n) (fun k σ H => (∃ x3 x5 x6, σ = [some v0, some (.int n), some (.ref p), x3, none, x5, x6]) ∧ Mx H0 H n ((List.range k).foldl (fun M k => warshI n k M) M) p rows) ⟨⟨_, _, _, rfl⟩, X⟩ ?_ ?_
  · rintro k σ H1 hk ⟨⟨x3, x5, x6, rfl⟩, X1⟩
    have e0 : (0 : Int) + (k : Int) = k := by omega
    rw [e0]
    refine sim2i hn X1 hk fun x5 x6 H' X2 => ⟨⟨_, _, _, rfl⟩, ?_⟩
    rw [foldl_rs]
    exact X2
  · rintro σ H1 ⟨⟨x3, x5, x6, rfl⟩, X1⟩
    exact q x3 x5 x6 H1 X1
/-! ### the matrix as data -/
def matD (M : Mat) : PyData := .list (M.map fun r => .list (r.map .bool))
def frzM (Z H : Hp) (p : Addr) (rows : List Addr) : Hp := fun a => if a = p ∨ a ∈ rows then H a else Z a
theorem DtAll.bls {K : Fg} {H : Hp} : ∀ bs : List Bool, DtAll K H (bs.map V.bl) (bs.map PyData.bool)
  | [] => .nil
  | b :: bs => .cons (.bl b) (DtAll.bls bs)
theorem Mx.data {K : Fg} {H0 H Z0 : Hp} {n : Nat} {M : Mat} {p : Addr} {rows : List Addr} (X : Mx H0 H n M p rows) : Dt K (frzM Z0 H p rows) (.ref p) (matD M) := by
  refine .lst (.inl (show frzM Z0 H p rows p = _ from by unfold frzM; rw [if_pos (.inl rfl)]; exact X.hp)) ?_
  have key : ∀ (l : Nat) (rs : List Addr) (Ms : Mat), rs.length = Ms.length → (∀ (i : Nat) r, rs[i]? = some r → r ∈ rows ∧ H r = some (.lst ((Ms.getD i []).map V.bl))) → DtAll K (frzM Z0 H p rows) (rs.map V.ref) (Ms.map fun r => .list (r.map .bool)) := by
    intro _ rs
    induction rs with
    | nil =>
      intro Ms hl _
      cases Ms with
      | nil => exact .nil
      | cons _ _ => simp at hl
    | cons r rs ih =>
      intro Ms hl hr
      cases Ms with
      | nil => simp at hl
      | cons m Ms =>
        obtain ⟨h1, h2⟩ := hr 0 r rfl
        refine .cons (.lst (.inl (show frzM Z0 H p rows r = _ from by unfold frzM; rw [if_pos (.inr h1)]; exact h2)) (DtAll.bls m)) (ih Ms (by simpa using hl) fun i r' hi => ?_)
        have := hr (i + 1) r' (by simpa using hi)
        simpa using this
  exact key 0 rows M (by rw [X.len, X.sq.1]) fun i r h => ⟨List.mem_of_getElem? h, (X.row i r h).1⟩
theorem Mx.frz {H0 H Z0 : Hp} {n : Nat} {M : Mat} {p : Addr} {rows : List Addr} (X : Mx H0 H n M p rows) (hZ : Le Z0 H0) : Le Z0 (frzM Z0 H p rows) ∧ Le (frzM Z0 H p rows) H ∧ Fr0 none H0 Z0 H (frzM Z0 H p rows) := by
  refine ⟨fun a o h => ?_, fun a o h => ?_, fun a o h _ => ⟨X.fr a o h, ?_⟩⟩
  · unfold frzM
    split
    · exact X.fr a o (hZ a o h)
    · exact h
  · unfold frzM at h
    split at h
    · exact h
    · exact X.fr a o (hZ a o h)
  · unfold frzM
    rw [if_neg]
    rintro (e | m)
    · rw [e, X.p0] at h
      cases h
    · obtain ⟨i, hi⟩ := List.getElem?_of_mem m
      rw [(X.row i a hi).2] at h
      cases h
end BV

namespace BV
open PySem PySem.Spec L2
open PyProof.Rows hiding St
def mt_Clash : Str → Option Bool := fun n => if n = "Clash" then some true else none
def g_cl3 : M Flw := gSeq (gIf (tru (fCl dAny (fCons (fLc [5] (iRange1 (fVar 1)) (tName 5) (fYes) (fOp dIx (fOp dIx (fVar 2) (fVar 5)) (fVar 5))) (fNil)))) (gRaise "Clash") (gNext)) (gSeq (gSet 4 (fLst (gNilF))) (gSeq (gFor (iRange1 (fVar 1)) (tName 5) (gDrop (fMt 4 mExtend (gConsF (fLc [6] (iRange1 (fVar 1)) (tName 6) (tru (fOp dIx (fOp dIx (fVar 2) (fVar 5)) (fVar 6))) (fTup (gConsF (fVar 5) (gConsF (fVar 6) (gNilF))))) (gNilF))))) (gRet (fCl dTuple (fCons (fVar 4) (fNil))))))
/-! with_more -/
def g_with_more : M Flw := gSeq (gSet 3 (fOp dPlus (fLst (gConsF (fVar 1) (gNilF))) (fLc [6, 7] (iSeq (fVar 0)) (tTupT (tsCons (tName 6) (tsCons (tName 7) (tsNil)))) (toB (fOp dEq (fVar 7) (fVar 1))) (fVar 6)))) (gSeq (gSet 4 (fOp dPlus (fLst (gConsF (fVar 2) (gNilF))) (fLc [6, 7] (iSeq (fVar 0)) (tTupT (tsCons (tName 6) (tsCons (tName 7) (tsNil)))) (toB (fOp dEq (fVar 6) (fVar 2))) (fVar 7)))) (gSeq (gSet 5 (fCl dList (fCons (fVar 0) (fNil)))) (gSeq (gFor (iSeq (fVar 3)) (tName 6) (gDrop (fMt 5 mExtend (gConsF (fLc [7] (iSeq (fVar 4)) (tName 7) (toB (fOp dNotIn (fTup (gConsF (fVar 6) (gConsF (fVar 7) (gNilF)))) (fVar 0))) (fTup (gConsF (fVar 6) (gConsF (fVar 7) (gNilF))))) (gNilF))))) (gRet (fCl dTuple (fCons (fCl dSorted (fCons (fVar 5) (fNil))) (fNil)))))))
def G_with_more (ds : List PyData) : Option Res := if ds.length = 3 then runP 8 g_with_more ds else none
/-! both_ways -/
def g_both_ways : M Flw := gRet (fTup (gConsF (fCall G_with_more (gConsF (fVar 0) (gConsF (fVar 1) (gConsF (fVar 2) (gNilF))))) (gConsF (fCall G_with_more (gConsF (fVar 0) (gConsF (fVar 2) (gConsF (fVar 1) (gNilF))))) (gNilF))))
def G_both_ways (ds : List PyData) : Option Res := if ds.length = 3 then runP 3 g_both_ways ds else none
/-! not_parted -/
def g_not_parted : M Flw := gSeq (gSet 2 (fLst (gNilF))) (gSeq (gFor (iRange1 (fVar 1)) (tName 3) (gDrop (fMt 2 mExtend (gConsF (fLc [4] (iRange1 (fVar 3)) (tName 4) (fAnd (toB (fOp dNotIn (fTup (gConsF (fVar 4) (gConsF (fVar 3) (gNilF)))) (fVar 0))) (toB (fOp dNotIn (fTup (gConsF (fVar 3) (gConsF (fVar 4) (gNilF)))) (fVar 0)))) (fTup (gConsF (fVar 4) (gConsF (fVar 3) (gNilF))))) (gNilF))))) (gRet (fVar 2)))
def G_not_parted (ds : List PyData) : Option Res := if ds.length = 2 then runP 5 g_not_parted ds else none
/-! is_known -/
def g_is_known : M Flw := gSeq (gTry (mt_Clash) (gSet 2 (fCall G_closed (gConsF (fVar 0) (gConsF (fVar 1) (gNilF))))) (gRet (fC (.bool false)))) (gRet (fOp dEq (fVar 2) (fVar 0)))
def G_is_known (ds : List PyData) : Option Res := if ds.length = 2 then runP 3 g_is_known ds else none
/-! has_more -/
def g_has_more : M Flw := gSeq (gIf (fOr (toB (fOp dIn (fTup (gConsF (fVar 1) (gConsF (fVar 2) (gNilF)))) (fVar 0))) (toB (fOp dIn (fTup (gConsF (fVar 1) (gConsF (fOp dPlus (fVar 2) (fC (.int 1))) (gNilF)))) (fVar 0)))) (gRet (fC (.bool true))) (gNext)) (gRet (fCl dAny (fCons (fLc [3, 4] (iSeq (fVar 0)) (tTupT (tsCons (tName 3) (tsCons (tName 4) (tsNil)))) (fYes) (fAndV (fOp dGe (fVar 4) (fVar 2)) (fCl dAllB (fCons (fLc [5] (iSeq (fVar 1)) (tName 5) (fYes) (fOp dIn (fVar 5) (fVar 3))) (fNil))))) (fNil))))
def G_has_more (ds : List PyData) : Option Res := if ds.length = 3 then runP 6 g_has_more ds else none
/-! bound_shown -/
def g_bound_shown : M Flw := gSeq (gFor (iSeq (fVar 0)) (tTupT (tsCons (tName 2) (tsCons (tName 3) (tsNil)))) (gIf (fOr (toB (fOp dLt (fVar 3) (fC (.int 0)))) (fNot (tru (fCallB G_is_known (fCons (fVar 2) (fCons (fVar 1) (fNil))))))) (gRet (fC (.bool false))) (gNext))) (gSeq (gFor (iSeq (fVar 0)) (tTupT (tsCons (tName 2) (tsCons (tName 3) (tsNil)))) (gSeq (gSet 4 (fCall G_not_parted (gConsF (fVar 2) (gConsF (fVar 1) (gNilF))))) (gSeq (gIf (fAnd (toB (fOp dGt (fVar 3) (fC (.int 0)))) (toB (fOp dEq (fVar 4) (fLst (gNilF))))) (gRet (fC (.bool false))) (gNext)) (gIf (toB (fOp dGt (fVar 3) (fC (.int 0)))) (gFor (iSeq (fVar 4)) (tTupT (tsCons (tName 5) (tsCons (tName 6) (tsNil)))) (gIf (fNot (tru (fCl dAny (fCons (fLc [7] (iSeq (fCall G_both_ways (gConsF (fVar 2) (gConsF (fVar 5) (gConsF (fVar 6) (gNilF)))))) (tName 7) (fYes) (fCallB G_has_more (fCons (fVar 0) (fCons (fVar 7) (fCons (fOp dSub (fVar 3) (fC (.int 1))) (fNil)))))) (fNil))))) (gRet (fC (.bool false))) (gNext))) (gNext))))) (gRet (fC (.bool true))))
def G_bound_shown (ds : List PyData) : Option Res := if ds.length = 2 then runP 8 g_bound_shown ds else none
/-! _law_next -/
def g__law_next : M Flw := gSeq (gSet 1 (fOp dIx (fVar 0) (fC (.int 0)))) (gSeq (gSet 2 (fOp dIx (fVar 0) (fC (.int 1)))) (gSeq (gSetIx 0 (fOp dPlus (fVar 2) (fC (.int 1))) (fC (.int 1))) (gSeq (gIf (toB (fOp dLt (fVar 2) (fCl dLen (fCons (fVar 1) (fNil))))) (gRet (fOp dIx (fVar 1) (fVar 2))) (gNext)) (gSeq (gIf (toB (fOp dEq (fCl dLen (fCons (fVar 1) (fNil))) (fC (.int 0)))) (gRet (fOp dPlus (fOp dMulA (fOp dMulA (fVar 2) (fVar 2)) (fC (.int 3))) (fVar 2))) (gNext)) (gSeq (gSet 3 (fOp dMod (fOp dMulA (fOp dPlus (fOp dPlus (fOp dMod (fOp dIx (fVar 1) (fOp dMod (fVar 2) (fCl dLen (fCons (fVar 1) (fNil))))) (fC (.int 2147483629))) (fOp dMulA (fVar 2) (fC (.int 7919)))) (fC (.int 5))) (fC (.int 50021))) (fC (.int 2147483587)))) (gRet (fOp dMod (fOp dMulA (fVar 3) (fVar 3)) (fC (.int 2147483563)))))))))
def G__law_next (d0 ds : List PyData) : Option (Res × List PyData) := if ds.length + 1 = 1 then runM 4 g__law_next d0 ds else none
/-! _law_closed -/
def g__law_closed : M Flw := gSeq (gSet 1 (fCl dSortSet (fCons (fVar 0) (fNil)))) (gSeq (gSet 2 (fC (.bool true))) (gSeq (whileF (tru (fVar 2)) (gSeq (gSet 3 (fLst (gNilF))) (gSeq (gFor (iSeq (fVar 1)) (tTupT (tsCons (tName 4) (tsCons (tName 5) (tsNil)))) (gSet 3 (fOp dPlus (fVar 3) (fLc [6, 7] (iSeq (fVar 1)) (tTupT (tsCons (tName 6) (tsCons (tName 7) (tsNil)))) (fAnd (toB (fOp dEq (fVar 5) (fVar 6))) (toB (fOp dNotIn (fTup (gConsF (fVar 4) (gConsF (fVar 7) (gNilF)))) (fVar 1)))) (fTup (gConsF (fVar 4) (gConsF (fVar 7) (gNilF)))))))) (gSeq (gSet 2 (fOp dNe (fVar 3) (fLst (gNilF)))) (gSet 1 (fCl dSortSet (fCons (fOp dPlus (fVar 1) (fVar 3)) (fNil))))))) 1000) (gRet (fCl dTuple (fCons (fVar 1) (fNil))))))
def G__law_closed (ds : List PyData) : Option Res := if ds.length = 1 then runP 8 g__law_closed ds else none
/-! _law_good -/
def g__law_good : M Flw := gRet (fOp dEq (fLc [1] (iSeq (fVar 0)) (tName 1) (toB (fOp dEq (fOp dIx (fVar 1) (fC (.int 0))) (fOp dIx (fVar 1) (fC (.int 1))))) (fVar 1)) (fLst (gNilF)))
def G__law_good (ds : List PyData) : Option Res := if ds.length = 1 then runP 2 g__law_good ds else none
/-! _law_turn -/
def g__law_turn : M Flw := gSeq (gSet 2 (fCl dListRange (fCons (fVar 1) fNil))) (gSeq (gSet 3 (fLst (gNilF))) (gSeq (whileF (toB (fOp dNe (fVar 2) (fLst (gNilF)))) (gDrop (fMt 3 mAppend (gConsF (fMt 2 mPopAt (gConsF (fOp dMod (fCallM 0 G__law_next (gNilF)) (fCl dLen (fCons (fVar 2) (fNil)))) (gNilF))) (gNilF)))) 20) (gRet (fVar 3))))
def G__law_turn (d0 ds : List PyData) : Option (Res × List PyData) := if ds.length + 1 = 2 then runM 4 g__law_turn d0 ds else none
/-! _law_known -/
def g__law_known : M Flw := gSeq (gSet 2 (fCallM 0 G__law_turn (gConsF (fVar 1) (gNilF)))) (gSeq (gSet 3 (fLst (gNilF))) (gSeq (gFor (iRange1 (fOp dMulA (fOp dMod (fCallM 0 G__law_next (gNilF)) (fOp dPlus (fVar 1) (fC (.int 1)))) (fCl dInt (fCons (fOp dGt (fVar 1) (fC (.int 1))) (fNil))))) (tName 4) (gSeq (gSet 5 (fCallM 0 G__law_next (gNilF))) (gSeq (gSet 6 (fOp dPlus (fC (.int 1)) (fOp dMod (fVar 5) (fOp dSub (fVar 1) (fC (.int 1)))))) (gDrop (fMt 3 mAppend (gConsF (fTup (gConsF (fOp dIx (fVar 2) (fOp dMod (fOp dDiv (fVar 5) (fVar 1)) (fVar 6))) (gConsF (fOp dIx (fVar 2) (fVar 6)) (gNilF)))) (gNilF))))))) (gRet (fCall G__law_closed (gConsF (fVar 3) (gNilF))))))
def G__law_known (d0 ds : List PyData) : Option (Res × List PyData) := if ds.length + 1 = 2 then runM 7 g__law_known d0 ds else none
/-! _law_open -/
def g__law_open : M Flw := gSeq (gSet 2 (fLst (gNilF))) (gSeq (gFor (iRange1 (fVar 1)) (tName 3) (gSet 2 (fOp dPlus (fVar 2) (fLc [4] (iRange1 (fVar 3)) (tName 4) (fAnd (toB (fOp dNotIn (fTup (gConsF (fVar 4) (gConsF (fVar 3) (gNilF)))) (fVar 0))) (toB (fOp dNotIn (fTup (gConsF (fVar 3) (gConsF (fVar 4) (gNilF)))) (fVar 0)))) (fTup (gConsF (fVar 4) (gConsF (fVar 3) (gNilF)))))))) (gRet (fVar 2)))
def G__law_open (ds : List PyData) : Option Res := if ds.length = 2 then runP 5 g__law_open ds else none
/-! _law_within -/
def g__law_within : M Flw := gRet (fCl dAny (fCons (fLc [2] (iSeq (fVar 1)) (tName 2) (fYes) (fCl dAllB (fCons (fLc [3] (iSeq (fVar 2)) (tName 3) (fYes) (fOp dIn (fVar 3) (fVar 0))) (fNil)))) (fNil)))
def G__law_within (ds : List PyData) : Option Res := if ds.length = 2 then runP 4 g__law_within ds else none
/-! _law_pair_good -/
def g__law_pair_good : M Flw := gSeq (gIf (toB (fOp dLt (fVar 1) (fC (.int 0)))) (gRet (fC (.bool false))) (gNext)) (gSeq (gIf (fOr (toB (fOp dNe (fVar 0) (fCall G__law_closed (gConsF (fVar 0) (gNilF))))) (fNot (tru (fCallB G__law_good (fCons (fVar 0) (fNil)))))) (gRet (fC (.bool false))) (gNext)) (gSeq (gSet 4 (fCall G__law_open (gConsF (fVar 0) (gConsF (fVar 3) (gNilF))))) (gSeq (gIf (fAnd (toB (fOp dGt (fVar 1) (fC (.int 0)))) (toB (fOp dEq (fVar 4) (fLst (gNilF))))) (gRet (fC (.bool false))) (gNext)) (gSeq (gFor (iSeq (fOp dMulA (fVar 4) (fCl dInt (fCons (fOp dGt (fVar 1) (fC (.int 0))) (fNil))))) (tTupT (tsCons (tName 5) (tsCons (tName 6) (tsNil)))) (gSeq (gSet 7 (fLst (gConsF (fCall G__law_closed (gConsF (fOp dPlus (fVar 0) (fTup (gConsF (fTup (gConsF (fVar 5) (gConsF (fVar 6) (gNilF)))) (gNilF)))) (gNilF))) (gConsF (fCall G__law_closed (gConsF (fOp dPlus (fVar 0) (fTup (gConsF (fTup (gConsF (fVar 6) (gConsF (fVar 5) (gNilF)))) (gNilF)))) (gNilF))) (gNilF))))) (gIf (toB (fOp dEq (fLc [8, 9] (iSeq (fVar 2)) (tTupT (tsCons (tName 8) (tsCons (tName 9) (tsNil)))) (fAnd (toB (fOp dGe (fVar 9) (fOp dSub (fVar 1) (fC (.int 1))))) (tru (fCallB G__law_within (fCons (fVar 8) (fCons (fVar 7) (fNil)))))) (fC (.int 1))) (fLst (gNilF)))) (gRet (fC (.bool false))) (gNext)))) (gRet (fC (.bool true)))))))
def G__law_pair_good (ds : List PyData) : Option Res := if ds.length = 4 then runP 10 g__law_pair_good ds else none
/-! _law_paper -/
def g__law_paper : M Flw := gSeq (gSet 2 (fLst (gNilF))) (gSeq (gFor (iRange1 (fOp dMod (fCallM 0 G__law_next (gNilF)) (fC (.int 7)))) (tName 3) (gSeq (gSet 4 (fCallM 0 G__law_known (gConsF (fVar 1) (gNilF)))) (gSeq (gSet 6 (fOp dIx (fLc [5] (iRange1 (fC (.int 5))) (tName 5) (tru (fCallB G__law_pair_good (fCons (fVar 4) (fCons (fVar 5) (fCons (fVar 2) (fCons (fVar 1) (fNil))))))) (fVar 5)) (fUn dNeg (fC (.int 1))))) (gDrop (fMt 2 mAppend (gConsF (fTup (gConsF (fVar 4) (gConsF (fOp dIx (fLst (gConsF (fVar 6) (gConsF (fOp dMod (fCallM 0 G__law_next (gNilF)) (fC (.int 4))) (gNilF)))) (fCl dInt (fCons (fOp dEq (fOp dMod (fCallM 0 G__law_next (gNilF)) (fC (.int 5))) (fC (.int 1))) (fNil)))) (gNilF)))) (gNilF))))))) (gSeq (gSet 4 (fTup (gNilF))) (gSeq (gSet 5 (fC (.int 0))) (gSeq (whileF (fAnd (toB (fOp dLt (fVar 5) (fC (.int 4)))) (toB (fOp dGt (fOp dMod (fCallM 0 G__law_next (gNilF)) (fC (.int 4))) (fC (.int 0))))) (gSeq (gFor (iSeq (fCall G__law_open (gConsF (fVar 4) (gConsF (fVar 1) (gNilF))))) (tTupT (tsCons (tName 7) (tsCons (tName 8) (tsNil)))) (gDrop (fMt 2 mAppend (gConsF (fTup (gConsF (fCall G__law_closed (gConsF (fOp dPlus (fVar 4) (fTup (gConsF (fTup (gConsF (fVar 7) (gConsF (fVar 8) (gNilF)))) (gNilF)))) (gNilF))) (gConsF (fVar 5) (gNilF)))) (gNilF))))) (gSeq (gSet 5 (fOp dPlus (fVar 5) (fC (.int 1)))) (gDrop (fMt 2 mAppend (gConsF (fTup (gConsF (fVar 4) (gConsF (fVar 5) (gNilF)))) (gNilF)))))) 20) (gRet (fCl dTuple (fCons (fVar 2) (fNil))))))))
def G__law_paper (d0 ds : List PyData) : Option (Res × List PyData) := if ds.length + 1 = 2 then runM 9 g__law_paper d0 ds else none
/-! _law_spoilt -/
def g__law_spoilt : M Flw := gSeq (gSet 3 (fCallM 0 G__law_next (gNilF))) (gSeq (gSet 4 (fOp dMod (fOp dDiv (fVar 3) (fC (.int 8))) (fCl dMax2 (fCons (fC (.int 1)) (fCons (fCl dLen (fCons (fVar 1) (fNil))) (fNil)))))) (gSeq (gIf (fOr (toB (fOp dEq (fVar 1) (fTup (gNilF)))) (toB (fOp dEq (fOp dMod (fVar 3) (fC (.int 8))) (fC (.int 0))))) (gRet (fOp dPlus (fVar 1) (fTup (gConsF (fTup (gConsF (fCallM 0 G__law_known (gConsF (fVar 2) (gNilF))) (gConsF (fOp dMod (fOp dDiv (fVar 3) (fC (.int 8))) (fC (.int 4))) (gNilF)))) (gNilF))))) (gNext)) (gSeq (gAsg (fOp dIx (fVar 1) (fVar 4)) (tTupT (tsCons (tName 5) (tsCons (tName 6) (tsNil))))) (gSeq (gIf (toB (fOp dLt (fOp dMod (fVar 3) (fC (.int 8))) (fC (.int 3)))) (gSet 6 (fOp dIx (fLst (gConsF (fOp dPlus (fVar 6) (fC (.int 1))) (gConsF (fOp dSub (fVar 6) (fC (.int 1))) (gConsF (fUn dNeg (fC (.int 1))) (gConsF (fOp dPow (fC (.int 10)) (fC (.int 9))) (gConsF (fC (.int 0)) (gNilF))))))) (fOp dMod (fOp dDiv (fVar 3) (fC (.int 64))) (fC (.int 5))))) (gIf (toB (fOp dEq (fOp dMod (fVar 3) (fC (.int 8))) (fC (.int 3)))) (gRet (fOp dPlus (fSl (fVar 1) (fPno) (fP (fVar 4))) (fSl (fVar 1) (fP (fOp dPlus (fVar 4) (fC (.int 1)))) (fPno)))) (gIf (toB (fOp dEq (fOp dMod (fVar 3) (fC (.int 8))) (fC (.int 4)))) (gSet 5 (fCallM 0 G__law_known (gConsF (fVar 2) (gNilF)))) (gIf (toB (fOp dEq (fOp dMod (fVar 3) (fC (.int 8))) (fC (.int 5)))) (gSet 5 (fOp dIx (fLst (gConsF (fUn dRev (fVar 5)) (gConsF (fSl (fVar 5) (fPno) (fP (fUn dNeg (fC (.int 1))))) (gConsF (fOp dPlus (fVar 5) (fSl (fVar 5) (fPno) (fP (fC (.int 1))))) (gConsF (fOp dPlus (fSl (fVar 5) (fP (fC (.int 1))) (fPno)) (fSl (fVar 5) (fPno) (fP (fC (.int 1))))) (gNilF)))))) (fOp dMod (fOp dDiv (fVar 3) (fC (.int 64))) (fC (.int 4))))) (gIf (fAnd (toB (fOp dEq (fOp dMod (fVar 3) (fC (.int 8))) (fC (.int 6)))) (toB (fOp dGt (fVar 2) (fC (.int 0))))) (gSet 5 (fOp dPlus (fVar 5) (fTup (gConsF (fTup (gConsF (fOp dMod (fOp dDiv (fVar 3) (fC (.int 64))) (fVar 2)) (gConsF (fOp dMod (fOp dDiv (fVar 3) (fC (.int 512))) (fVar 2)) (gNilF)))) (gNilF))))) (gSet 5 (fCl dTuple (fCons (fLc [7] (iSeq (fVar 5)) (tName 7) (fYes) (fUn dRev (fVar 7))) (fNil))))))))) (gRet (fOp dPlus (fOp dPlus (fSl (fVar 1) (fPno) (fP (fVar 4))) (fTup (gConsF (fTup (gConsF (fVar 5) (gConsF (fVar 6) (gNilF)))) (gNilF)))) (fSl (fVar 1) (fP (fOp dPlus (fVar 4) (fC (.int 1)))) (fPno))))))))
def G__law_spoilt (d0 ds : List PyData) : Option (Res × List PyData) := if ds.length + 1 = 3 then runM 8 g__law_spoilt d0 ds else none
/-! law -/
def g_law : M Flw := gSeq (gFor (iRange1 (fC (.int 3))) (tName 2) (gSeq (gSet 3 (fOp dIx (fLst (gConsF (fOp dPlus (fC (.int 1)) (fOp dMod (fCallM 1 G__law_next (gNilF)) (fC (.int 3)))) (gConsF (fOp dIx (fLst (gConsF (fC (.int 0)) (gConsF (fC (.int 4)) (gNilF)))) (fOp dMod (fCallM 1 G__law_next (gNilF)) (fC (.int 2)))) (gNilF)))) (fCl dInt (fCons (fOp dEq (fOp dMod (fCallM 1 G__law_next (gNilF)) (fC (.int 4))) (fC (.int 1))) (fNil))))) (gSeq (gSet 4 (fCallM 1 G__law_paper (gConsF (fVar 3) (gNilF)))) (gFor (iRange1 (fC (.int 5))) (tName 5) (gSeq (gSet 6 (fCl dAllB (fCons (fLc [10, 11] (iSeq (fVar 4)) (tTupT (tsCons (tName 10) (tsCons (tName 11) (tsNil)))) (fYes) (fCallB G__law_pair_good (fCons (fVar 10) (fCons (fVar 11) (fCons (fVar 4) (fCons (fVar 3) (fNil))))))) (fNil)))) (gSeq (gSet 7 (fCallM 1 G__law_next (gNilF))) (gSeq (gSet 8 (fOp dIx (fLst (gConsF (fVar 4) (gConsF (fOp dPlus (fOp dMulA (fTup (gConsF (fTup (gConsF (fTup (gNilF)) (gConsF (fC (.int 0)) (gNilF)))) (gNilF))) (fOp dMod (fOp dDiv (fVar 7) (fC (.int 4))) (fC (.int 300)))) (fVar 4)) (gConsF (fOp dMulA (fVar 4) (fOp dPlus (fC (.int 1)) (fOp dMod (fOp dDiv (fVar 7) (fC (.int 4))) (fC (.int 9))))) (gConsF (fVar 4) (gNilF)))))) (fOp dMod (fVar 7) (fC (.int 4))))) (gSeq (gSet 9 (fCallB G_bound_shown (fCons (fVar 8) (fCons (fVar 3) (fNil))))) (gSeq (gIf (fOr (fNot (tru (fUn (dIsi "bool") (fVar 9)))) (fOr (toB (fOp dNe (fVar 9) (fVar 6))) (toB (fOp dNe (fCallB G_bound_shown (fCons (fVar 4) (fCons (fVar 3) (fNil)))) (fVar 6))))) (gRet (fC (.bool false))) (gNext)) (gSet 4 (fCallM 1 G__law_spoilt (gConsF (fVar 4) (gConsF (fVar 3) (gNilF)))))))))))))) (gRet (fOp dIsB (fCallB G_bound_shown (fCons (fTup (gNilF)) (fCons (fVar 3) (fNil)))) (fC (.bool true))))
end BV


namespace BV
open PySem PySem.Spec
open PyProof.Rows hiding St
open Enc
theorem ob_ok {α β : Type} {a : α} {e : BE} {k : α → BE → Option (Out β)} : obind (some (.ok a e)) k = k a e := rfl
theorem ob_ex {α β : Type} {x : Ex} {e : BE} {k : α → BE → Option (Out β)} : obind (some (.ex x e)) k = some (.ex x e) := rfl
theorem wp_seqN {Q : Flw → BE → Prop} {X : Ex → BE → Prop} {e : BE} {g h : M Flw} (P : BE → Prop) (h1 : wp (g e) (fun f e1 => f = .nx ∧ P e1) fun _ _ => False) (h2 : ∀ e1, P e1 → wp (h e1) Q X) : wp (gSeq g h e) Q X := by
  rw [wp_seq]
  refine wp_mono h1 (fun f e1 q => ?_) fun _ _ q => q.elim
  obtain ⟨rfl, q⟩ := q
  exact h2 e1 q
theorem en_int (i : Int) : en i = PyData.int i := rfl
theorem en_bool (i : Bool) : en i = PyData.bool i := rfl
theorem en_pair {α β : Type} [DecidableEq α] [Enc α] [DecidableEq β] [Enc β] (p : α × β) : en p = PyData.tuple [en p.1, en p.2] := rfl
theorem en_list {α : Type} [DecidableEq α] [Enc α] (p : List α) : en p = PyData.tuple (p.map en) := rfl
theorem d_eqI (a b : Int) : dEq (.int a) (.int b) = some (.imm (.bool (decide (a = b)))) := d_eq (by decide) a b
theorem d_neI (a b : Int) : dNe (.int a) (.int b) = some (.imm (.bool (!decide (a = b)))) := d_ne (by decide) a b
theorem d_inPL (a b : Int) (xs : List Pr) : dIn (.tuple [.int a, .int b]) (.list (xs.map en)) = some (.imm (.bool (decide ((a, b) ∈ xs)))) := (d_inL (by decide) (a, b) xs).trans (by congr)
theorem d_inPT (a b : Int) (xs : List Pr) : dIn (.tuple [.int a, .int b]) (.tuple (xs.map en)) = some (.imm (.bool (decide ((a, b) ∈ xs)))) := (d_inT (by decide) (a, b) xs).trans (by congr)
theorem d_ninPL (a b : Int) (xs : List Pr) : dNotIn (.tuple [.int a, .int b]) (.list (xs.map en)) = some (.imm (.bool (!decide ((a, b) ∈ xs)))) := (d_ninL (by decide) (a, b) xs).trans (by congr)
theorem d_ninPT (a b : Int) (xs : List Pr) : dNotIn (.tuple [.int a, .int b]) (.tuple (xs.map en)) = some (.imm (.bool (!decide ((a, b) ∈ xs)))) := (d_ninT (by decide) (a, b) xs).trans (by congr)
theorem ss_one {d : PyData} {ps : List Pr} (hd : seqOf d = some (ps.map en)) (h1 : ps.all in64 = true) (h2 : (sortP ps).length ≤ 62) : dSortSet [d] = some (.new ((sortP ps).map en)) := by
  show (match (seqOf d).bind pairsOf with | some ps => if ps.all in64 && decide ((sortP ps).length ≤ 62) then some (Val.new ((sortP ps).map pd)) else none | none => none) = _
  rw [hd]
  show (match pairsOf (ps.map pd) with | some ps => if ps.all in64 && decide ((sortP ps).length ≤ 62) then some (Val.new ((sortP ps).map pd)) else none | none => none) = _
  rw [pairsOf_map]
  simp only [h1, h2, decide_true, Bool.and_self, if_true]
  rfl
theorem up_len : ∀ (l : List Nat) (lo hi : Nat), l.Pairwise (· < ·) → (∀ x ∈ l, lo ≤ x ∧ x < hi) → l.length ≤ hi - lo
  | [], _, _, _, _ => Nat.zero_le _
  | x :: l, lo, hi, h, hb => by
    obtain ⟨h1, h2⟩ := List.pairwise_cons.mp h
    have hx := hb x List.mem_cons_self
    have := up_len l (x + 1) hi h2 fun y m => ⟨h1 y m, (hb y (List.mem_cons_of_mem _ m)).2⟩
    rw [List.length_cons]
    omega
theorem sorted_len {n : Nat} {l : List Pr} (h : l.Pairwise ltP) (hn : inN n l) : l.length ≤ n * n := by
  have key := up_len (l.map fun p => p.1.toNat * n + p.2.toNat) 0 (n * n) ?_ ?_
  · rw [List.length_map] at key
    exact key
  · rw [List.pairwise_map]
    refine List.Pairwise.imp_of_mem ?_ h
    intro p q mp mq hl
    have dp := hn p mp
    have dq := hn q mq
    rcases hl with hl | ⟨h1, h2⟩
    · have z : (p.1.toNat + 1) * n ≤ q.1.toNat * n := Nat.mul_le_mul_right n (by omega)
      rw [Nat.add_mul, Nat.one_mul] at z
      omega
    · rw [h1]
      omega
  · intro x hx
    rw [List.mem_map] at hx
    obtain ⟨p, mp, rfl⟩ := hx
    have dp := hn p mp
    have z : (p.1.toNat + 1) * n ≤ n * n := Nat.mul_le_mul_right n (by omega)
    rw [Nat.add_mul, Nat.one_mul] at z
    omega
theorem inN.sort {n : Nat} {l : List Pr} (hn : inN n l) : inN n (sortP l) := fun p m => hn p (mem_sortP.mp m)
theorem sort_len {n : Nat} {l : List Pr} (hn : inN n l) (hb : n ≤ 7) : (sortP l).length ≤ 49 := Nat.le_trans (sorted_len (sorted_sortP l) hn.sort) (Nat.mul_le_mul hb hb)
theorem inN.in64 {n : Nat} {l : List Pr} (hn : inN n l) (hb : n ≤ 7) : l.all in64 = true := by
  rw [List.all_eq_true]
  intro p m
  have d := hn p m
  exact decide_eq_true (by omega)
/-- what one pair makes with the pairs found -/
def frOf (found : List Pr) (p : Pr) : List Pr := (found.filter fun q => decide (p.2 = q.1) && !decide ((p.1, q.2) ∈ found)).map fun q => (p.1, q.2)
theorem frOf_len (found : List Pr) (p : Pr) : (frOf found p).length ≤ found.length := by
  unfold frOf
  rw [List.length_map]
  exact List.length_filter_le ..
theorem flat_len {α β : Type} (f : α → List β) (k : Nat) : ∀ l : List α, (∀ x ∈ l, (f x).length ≤ k) → (l.flatMap f).length ≤ l.length * k
  | [], _ => by simp
  | x :: l, h => by
    rw [List.flatMap_cons, List.length_append, List.length_cons, Nat.add_mul, Nat.one_mul]
    have := flat_len f k l fun y m => h y (List.mem_cons_of_mem _ m)
    have := h x List.mem_cons_self
    omega
/-- one turn of the law's loop -/
theorem mem_frOf {found : List Pr} {p q : Pr} : q ∈ frOf found p ↔ q.1 = p.1 ∧ (p.2, q.2) ∈ found ∧ q ∉ found := by
  unfold frOf
  simp only [List.mem_map, List.mem_filter, Bool.and_eq_true, decide_eq_true_eq, Bool.not_eq_true', decide_eq_false_iff_not]
  constructor
  · rintro ⟨r, ⟨m, e, no⟩, rfl⟩
    exact ⟨rfl, by rw [e]; exact m, no⟩
  · rintro ⟨e, m, no⟩
    refine ⟨(p.2, q.2), ⟨m, rfl, ?_⟩, ?_⟩
    · rw [← e]; exact no
    · rw [← e]
def clM (e : BE) : Nat := match e with
  | _ :: some (.own ds) :: some (.imm (.bool b)) :: _ => (64 - ds.length) * 2 + (if b then 1 else 0)
  | _ => 0
structure ClInv (n : Nat) (ps found : List Pr) (more : Bool) : Prop where
  so : found.Pairwise ltP
  up : ∀ p ∈ ps, p ∈ found
  tc : ∀ p ∈ found, TC ps p.1 p.2
  nd : inN n found
  fin : more = false → ∀ a b c, (a, b) ∈ found → (b, c) ∈ found → (a, c) ∈ found
def ClE (n : Nat) (ps : List Pr) (d : PyData) (e : BE) : Prop := ∃ found x2 x3 x4 x5, e = [some (.imm d), some (.own (found.map en)), x2, x3, x4, x5, none, none] ∧ ClInv n ps found false
def ClL (n : Nat) (ps : List Pr) (d : PyData) (e : BE) : Prop := ∃ found more x3 x4 x5, e = [some (.imm d), some (.own (found.map en)), some (.imm (.bool more)), x3, x4, x5, none, none] ∧ ClInv n ps found more
def ClF (d : PyData) (found done : List Pr) (e : BE) : Prop := ∃ x4 x5, e = [some (.imm d), some (.imm (.list (found.map en))), some (.imm (.bool true)), some (.own ((done.flatMap (frOf found)).map en)), x4, x5, none, none]
theorem e__law_closed {n : Nat} {ps : List Pr} {d : PyData} (hd : seqOf d = some (ps.map en)) (hn : inN n ps) (hb : n ≤ 7) : G__law_closed [d] = some (.ok (.imm (en (clo n ps)))) := by
  refine (if_pos rfl).trans ?_
  apply runP_eq
  have h1 : ps.all in64 = true := hn.in64 hb
  have h2 : (sortP ps).length ≤ 62 := Nat.le_trans (sort_len hn hb) (by decide)
  unfold g__law_closed
  refine wp_seqN (fun e => e = [some (.imm d), some (.own ((sortP ps).map en)), none, none, none, none, none, none]) ?_ ?_
  · simp -implicitDefEqProofs [wp_seq, wp_bind, wp_ok, wp_ex, ob_ex, gSet, gNext, gDrop, gRet, gRetN, gIf, gBreak, gCont, gFor, gAsg, fVar, fC, fOp, fUn, fCl, fNil, fCons, fTup, fLst, gNilF, gConsF, dAll, Opd.d, Opd.fr, Val.d, putO, ob_ok, toB, tru, fNot, fAnd, fOr, fAndV, fOrV, isB, ofB, iSeq, iRange1, tName, tTupT, tsCons, tsNil, fYes, envP, envM, small, resO, own0, isOwn, noOwn, wipeB, backB, List.replicate, fMt, fCall, fCallB, fCallM, dTru, ss_one hd h1 h2]
  rintro _ rfl
  refine wp_seqN (fun e => e = [some (.imm d), some (.own ((sortP ps).map en)), some (.imm (.bool true)), none, none, none, none, none]) ?_ ?_
  · simp -implicitDefEqProofs [wp_seq, wp_bind, wp_ok, wp_ex, ob_ex, gSet, gNext, gDrop, gRet, gRetN, gIf, gBreak, gCont, gFor, gAsg, fVar, fC, fOp, fUn, fCl, fNil, fCons, fTup, fLst, gNilF, gConsF, dAll, Opd.d, Opd.fr, Val.d, putO, ob_ok, toB, tru, fNot, fAnd, fOr, fAndV, fOrV, isB, ofB, iSeq, iRange1, tName, tTupT, tsCons, tsNil, fYes, envP, envM, small, resO, own0, isOwn, noOwn, wipeB, backB, List.replicate, fMt, fCall, fCallB, fCallM, dTru]
  rintro _ rfl
  refine wp_seqN (ClE n ps d) ?_ ?_
  · refine wp_while clM (ClL n ps d) ⟨sortP ps, true, _, _, _, rfl, sorted_sortP ps, fun p m => mem_sortP.mpr m, fun p m => .one (mem_sortP.mp m), hn.sort, fun h => by cases h⟩ ?_ ?_
    · simp only [clM, List.length_map, if_true]
      omega
    · rintro _ ⟨found, more, x3, x4, x5, rfl, I⟩
      have hl : found.length ≤ 49 := Nat.le_trans (sorted_len I.so I.nd) (Nat.mul_le_mul hb hb)
      simp -implicitDefEqProofs [wp_seq, wp_bind, wp_ok, wp_ex, ob_ex, gSet, gNext, gDrop, gRet, gRetN, gIf, gBreak, gCont, gFor, gAsg, fVar, fC, fOp, fUn, fCl, fNil, fCons, fTup, fLst, gNilF, gConsF, dAll, Opd.d, Opd.fr, Val.d, putO, ob_ok, toB, tru, fNot, fAnd, fOr, fAndV, fOrV, isB, ofB, iSeq, iRange1, tName, tTupT, tsCons, tsNil, fYes, envP, envM, small, resO, own0, isOwn, noOwn, wipeB, backB, List.replicate, fMt, fCall, fCallB, fCallM, dTru]
      cases more with
      | false => exact ⟨found, _, _, _, _, rfl, I⟩
      | true =>
        simp only [if_true]
        refine wp_mono (Q := fun f e => f = .nx ∧ ClF d found found e) (X := fun _ _ => False) ?_ ?_ (fun _ _ h => h.elim)
        · refine wp_forL en found (ClF d found) ⟨_, _, rfl⟩ ?_ ?_
          · rintro done p rest hx _ ⟨y4, y5, rfl⟩
            refine ⟨_, rfl, ?_⟩
            have hlc := lc_eq (vs := [6, 7]) (fi := iSeq (fVar 1)) (tg := (tTupT (tsCons (tName 6) (tsCons (tName 7) tsNil)))) (ft := (fAnd (toB (fOp dEq (fVar 5) (fVar 6))) (toB (fOp dNotIn (fTup (gConsF (fVar 4) (gConsF (fVar 7) gNilF))) (fVar 1))))) (fe := (fTup (gConsF (fVar 4) (gConsF (fVar 7) gNilF)))) (e := [some (.imm d), some (.imm (.list (found.map en))), some (.imm (.bool true)), some (.own ((done.flatMap (frOf found)).map en)), some (.imm (.int p.1)), some (.imm (.int p.2)), none, none]) (e1 := [some (.imm d), some (.imm (.list (found.map en))), some (.imm (.bool true)), some (.own ((done.flatMap (frOf found)).map en)), some (.imm (.int p.1)), some (.imm (.int p.2)), none, none]) en found (fun q => decide (p.2 = q.1) && !decide ((p.1, q.2) ∈ found)) (fun q => en (p.1, q.2)) rfl ?_ (by omega) rfl ?_
            · have hdone : done.length ≤ 49 := by
                have z := congrArg List.length hx
                rw [List.length_append] at z
                omega
              have hacc : (done.flatMap (frOf found)).length ≤ 49 * 49 := Nat.le_trans (flat_len (frOf found) 49 done fun x _ => Nat.le_trans (frOf_len found x) hl) (Nat.mul_le_mul_right 49 hdone)
              have hnew : (frOf found p).length ≤ 49 := Nat.le_trans (frOf_len found p) hl
              have hfl : (done ++ [p]).flatMap (frOf found) = done.flatMap (frOf found) ++ frOf found p := by simp
              have hmap : List.map (fun q : Pr => en (p.fst, q.snd)) (List.filter (fun q => decide (p.snd = q.fst) && !decide ((p.fst, q.snd) ∈ found)) found) = (frOf found p).map en := by
                unfold frOf
                rw [List.map_map]
                rfl
              rw [hmap] at hlc
              unfold ClF
              rw [hfl]
              generalize done.flatMap (frOf found) = acc at hlc hacc ⊢
              generalize frOf found p = new at hlc hnew ⊢
              have hsm : acc.length + new.length ≤ 100000 := by omega
              show wp (gSet 3 _ [some (.imm d), some (.imm (.list (found.map en))), some (.imm (.bool true)), some (.own (acc.map en)), some (.imm (.int p.1)), some (.imm (.int p.2)), none, none]) _ _
              simp -implicitDefEqProofs [wp_seq, wp_bind, wp_ok, wp_ex, ob_ex, gSet, gNext, gDrop, gRet, gRetN, gIf, gBreak, gCont, gFor, gAsg, fVar, fC, fOp, fUn, fCl, fNil, fCons, fTup, fLst, gNilF, gConsF, dAll, Opd.d, Opd.fr, Val.d, putO, ob_ok, toB, tru, fNot, fAnd, fOr, fAndV, fOrV, isB, ofB, iSeq, iRange1, tName, tTupT, tsCons, tsNil, fYes, envP, envM, small, resO, own0, isOwn, noOwn, wipeB, backB, List.replicate, fMt, fCall, fCallB, fCallM, dTru, hlc, dPlus, hsm]
            · rfl
            · intro q hq
              refine ⟨_, rfl, rfl, ?_, fun _ => ⟨_, rfl, rfl⟩⟩
              by_cases hp : p.2 = q.1
              · simp -implicitDefEqProofs [wp_seq, wp_bind, wp_ok, wp_ex, ob_ex, gSet, gNext, gDrop, gRet, gRetN, gIf, gBreak, gCont, gFor, gAsg, fVar, fC, fOp, fUn, fCl, fNil, fCons, fTup, fLst, gNilF, gConsF, dAll, Opd.d, Opd.fr, Val.d, putO, ob_ok, toB, tru, fNot, fAnd, fOr, fAndV, fOrV, isB, ofB, iSeq, iRange1, tName, tTupT, tsCons, tsNil, fYes, envP, envM, small, resO, own0, isOwn, noOwn, wipeB, backB, List.replicate, fMt, fCall, fCallB, fCallM, dTru, en_int, d_eqI, hp, d_ninPL]
              · simp -implicitDefEqProofs [wp_seq, wp_bind, wp_ok, wp_ex, ob_ex, gSet, gNext, gDrop, gRet, gRetN, gIf, gBreak, gCont, gFor, gAsg, fVar, fC, fOp, fUn, fCl, fNil, fCons, fTup, fLst, gNilF, gConsF, dAll, Opd.d, Opd.fr, Val.d, putO, ob_ok, toB, tru, fNot, fAnd, fOr, fAndV, fOrV, isB, ofB, iSeq, iRange1, tName, tTupT, tsCons, tsNil, fYes, envP, envM, small, resO, own0, isOwn, noOwn, wipeB, backB, List.replicate, fMt, fCall, fCallB, fCallM, dTru, en_int, d_eqI, hp]
          · intro e h
            exact ⟨rfl, h⟩
        · rintro _ _ ⟨rfl, y4, y5, rfl⟩
          have hacc : (found.flatMap (frOf found)).length ≤ 49 * 49 := Nat.le_trans (flat_len (frOf found) 49 found fun x _ => Nat.le_trans (frOf_len found x) hl) (Nat.mul_le_mul_right 49 hl)
          have hmem : ∀ q, q ∈ found.flatMap (frOf found) → TC ps q.1 q.2 ∧ q ∉ found := fun q m => by
            obtain ⟨p, mp, mq⟩ := List.mem_flatMap.mp m
            obtain ⟨a, b, c⟩ := mem_frOf.mp mq
            exact ⟨by rw [a]; exact (I.tc p mp).trans (I.tc _ b), c⟩
          have hall : ∀ a b c, (a, b) ∈ found → (b, c) ∈ found → (a, c) ∈ found ∨ (a, c) ∈ found.flatMap (frOf found) := fun a b c h1 h2 => by
            by_cases z : (a, c) ∈ found
            · exact .inl z
            · exact .inr (List.mem_flatMap.mpr ⟨(a, b), h1, mem_frOf.mpr ⟨rfl, h2, z⟩⟩)
          generalize found.flatMap (frOf found) = acc at hacc hmem hall ⊢
          have hsm : found.length + acc.length ≤ 100000 := by omega
          have J : ClInv n ps (sortP (found ++ acc)) (!acc.isEmpty) := by
            have tc : ∀ p ∈ sortP (found ++ acc), TC ps p.1 p.2 := fun p m => by
              rcases List.mem_append.mp (mem_sortP.mp m) with m | m
              · exact I.tc p m
              · exact (hmem p m).1
            refine ⟨sorted_sortP _, fun p m => mem_sortP.mpr (List.mem_append.mpr (.inl (I.up p m))), tc, fun p m => (tc p m).dom hn, fun h => ?_⟩
            have ha : acc = [] := by simpa using h
            subst ha
            rw [List.append_nil]
            intro a b c m1 m2
            rw [mem_sortP] at m1 m2 ⊢
            rcases hall a b c m1 m2 with z | z
            · exact z
            · simp at z
          have hso := ss_one (d := .list (found.map en ++ acc.map en)) (ps := found ++ acc) (by rw [List.map_append]; rfl) (inN.in64 (n := n) (fun p m => J.nd p (mem_sortP.mpr m)) hb) (Nat.le_trans (sorted_len J.so J.nd) (Nat.le_trans (Nat.mul_le_mul hb hb) (by decide)))
          have hne := d_ne0 (α := Pr) (by decide) acc
          have hlen : acc ≠ [] → found.length < (sortP (found ++ acc)).length := fun hne => by
            have e : (sortP (found ++ acc)).filter (fun q => decide (q ∈ found)) = found := by
              refine sorted_unique (List.Pairwise.filter _ (sorted_sortP _)) I.so fun q => ?_
              rw [List.mem_filter, mem_sortP, List.mem_append, decide_eq_true_eq]
              exact ⟨fun h => h.2, fun h => ⟨.inl h, h⟩⟩
            have z : ((sortP (found ++ acc)).filter (fun q => decide (q ∈ found))).length < (sortP (found ++ acc)).length := by
              rw [List.length_filter_lt_length_iff_exists]
              obtain ⟨x, hx⟩ := List.exists_mem_of_ne_nil acc hne
              exact ⟨x, mem_sortP.mpr (List.mem_append.mpr (.inr hx)), by simpa using (hmem x hx).2⟩
            rw [e] at z
            exact z
          have hle : (sortP (found ++ acc)).length ≤ 49 := Nat.le_trans (sorted_len J.so J.nd) (Nat.mul_le_mul hb hb)
          have hm : clM [some (Sl.imm d), some (Sl.own (List.map en (sortP (found ++ acc)))), some (Sl.imm (PyData.bool !acc.isEmpty)), some (Sl.own (List.map en acc)), y4, y5, none, none] < clM [some (Sl.imm d), some (Sl.own (List.map en found)), some (Sl.imm (PyData.bool true)), x3, x4, x5, none, none] := by
            simp only [clM, List.length_map, if_true]
            cases acc with
            | nil =>
              have : sortP (found ++ []) = found := sorted_unique (sorted_sortP _) I.so fun q => by rw [mem_sortP, List.append_nil]
              rw [this]
              simp
            | cons x acc =>
              have := hlen (by simp)
              simp
              omega
          simp -implicitDefEqProofs [wp_seq, wp_bind, wp_ok, wp_ex, ob_ex, gSet, gNext, gDrop, gRet, gRetN, gIf, gBreak, gCont, gFor, gAsg, fVar, fC, fOp, fUn, fCl, fNil, fCons, fTup, fLst, gNilF, gConsF, dAll, Opd.d, Opd.fr, Val.d, putO, ob_ok, toB, tru, fNot, fAnd, fOr, fAndV, fOrV, isB, ofB, iSeq, iRange1, tName, tTupT, tsCons, tsNil, fYes, envP, envM, small, resO, own0, isOwn, noOwn, wipeB, backB, List.replicate, fMt, fCall, fCallB, fCallM, dTru, hne, dPlus, hsm, hso]
          exact ⟨⟨_, _, _, _, _, rfl, J⟩, hm⟩
  · rintro _ ⟨found, x2, x3, x4, x5, rfl, I⟩
    simp -implicitDefEqProofs [wp_seq, wp_bind, wp_ok, wp_ex, ob_ex, gSet, gNext, gDrop, gRet, gRetN, gIf, gBreak, gCont, gFor, gAsg, fVar, fC, fOp, fUn, fCl, fNil, fCons, fTup, fLst, gNilF, gConsF, dAll, Opd.d, Opd.fr, Val.d, putO, ob_ok, toB, tru, fNot, fAnd, fOr, fAndV, fOrV, isB, ofB, iSeq, iRange1, tName, tTupT, tsCons, tsNil, fYes, envP, envM, small, resO, own0, isOwn, noOwn, wipeB, backB, List.replicate, fMt, fCall, fCallB, fCallM, dTru, dTuple]
    have hc : IsC ps found := by
      refine ⟨I.so, fun p => ⟨I.tc p, fun t => ?_⟩⟩
      exact t.closed (R := fun a b => (a, b) ∈ found) (fun p m => I.up p m) (I.fin rfl)
    rw [(clo_isC hn).unique hc]
    rfl
end BV

namespace BV
open PySem PySem.Spec
open PyProof.Rows hiding St
open Enc
theorem iR {f : M Opd} {e e1 : BE} {r : Opd} {n : Nat} (h : f e = some (.ok r e1)) (hd : r.d e1 = some (.int n)) (hn : n ≤ 1000000) : iRange1 f e = some (.ok ((List.range n).map fun (i : Nat) => PyData.int i) e1) := by
  unfold iRange1
  rw [h, ob_ok, hd]
  dsimp only
  rw [if_pos ⟨by omega, by omega⟩]
  rfl
theorem wp_forR {Q : Flw → BE → Prop} {X : Ex → BE → Prop} {e e1 : BE} {f : M Opd} {g : M Flw} {tg : PyData → BE → Option BE} {r : Opd} {n : Nat} (h : f e = some (.ok r e1)) (hd : r.d e1 = some (.int n)) (hn : n ≤ 1000000) (I : Nat → BE → Prop) (h0 : I 0 e1)
    (hs : ∀ k, k < n → ∀ e, I k e → ∃ e1, tg (.int k) e = some e1 ∧ wp (g e1) (fun f e2 => match f with
      | .nx => I (k + 1) e2
      | .ct => I (k + 1) e2
      | .bk => Q .nx e2
      | f => Q f e2) X) (hq : ∀ e, I n e → Q .nx e) : wp (gFor (iRange1 f) tg g e) Q X := by
  unfold gFor
  rw [iR h hd hn, ob_ok]
  have hl : ∀ (done : List Nat) d rest, List.range n = done ++ d :: rest → done.length = d ∧ d < n := by
    intro done d rest hx
    have hlen := congrArg List.length hx
    rw [List.length_range, List.length_append, List.length_cons] at hlen
    have : (List.range n)[done.length]? = some d := by rw [hx]; simp
    rw [List.getElem?_range (by omega)] at this
    have := Option.some.inj this
    omega
  refine wp_forL (fun (i : Nat) => PyData.int i) (List.range n) (fun done e => I done.length e) h0 ?_ ?_
  · intro done d rest hx e hi
    obtain ⟨h1, h2⟩ := hl done d rest hx
    rw [h1] at hi
    obtain ⟨e1, h3, h4⟩ := hs d h2 e hi
    refine ⟨e1, h3, ?_⟩
    refine wp_mono h4 (fun f e q => ?_) fun _ _ q => q
    cases f <;> first | exact q | (rw [List.length_append, List.length_singleton, h1]; exact q)
  · intro e hi
    rw [List.length_range] at hi
    exact hq e hi
theorem wp_forS {α : Type} (enc : α → PyData) (xs : List α) {Q : Flw → BE → Prop} {X : Ex → BE → Prop} {e e1 : BE} {fi : M (List PyData)} {g : M Flw} {tg : PyData → BE → Option BE} (h : fi e = some (.ok (xs.map enc) e1)) (I : List α → BE → Prop) (h0 : I [] e1)
    (hs : ∀ done d rest, xs = done ++ d :: rest → ∀ e, I done e → ∃ e1, tg (enc d) e = some e1 ∧ wp (g e1) (fun f e2 => match f with
      | .nx => I (done ++ [d]) e2
      | .ct => I (done ++ [d]) e2
      | .bk => Q .nx e2
      | f => Q f e2) X) (hq : ∀ e, I xs e → Q .nx e) : wp (gFor fi tg g e) Q X := by
  unfold gFor
  rw [h, ob_ok]
  exact wp_forL enc xs I h0 hs hq
theorem d_catL {α : Type} [DecidableEq α] [Enc α] {a b : List α} (h : a.length + b.length ≤ 100000) : dPlus (.list (a.map en)) (.list (b.map en)) = some (.new ((a ++ b).map en)) := by
  unfold dPlus
  dsimp only
  rw [List.length_map, List.length_map, if_pos (show small _ = true from decide_eq_true h), List.map_append]
theorem d_catT {α : Type} [DecidableEq α] [Enc α] {a b : List α} (h : a.length + b.length ≤ 100000) : dPlus (.tuple (a.map en)) (.tuple (b.map en)) = some (.imm (.tuple ((a ++ b).map en))) := by
  unfold dPlus
  dsimp only
  rw [List.length_map, List.length_map, if_pos (show small _ = true from decide_eq_true h), List.map_append]
/-- the pairs that stand neither way, for one j -/
def openJ (ps : List Pr) (j : Nat) : List Pr := ((List.range j).filter fun (i : Nat) => !decide (((i : Int), (j : Int)) ∈ ps) && !decide (((j : Int), (i : Int)) ∈ ps)).map fun (i : Nat) => ((i : Int), (j : Int))
def openP (n : Nat) (ps : List Pr) : List Pr := (List.range n).flatMap (openJ ps)
theorem openJ_len (ps : List Pr) (j : Nat) : (openJ ps j).length ≤ j := by
  unfold openJ
  rw [List.length_map]
  exact Nat.le_trans (List.length_filter_le ..) (by rw [List.length_range]; exact Nat.le_refl _)
theorem lcOpen {ps : List Pr} {x1 x2 : Option Sl} {j : Nat} (hj : j ≤ 300) : fLc [4] (iRange1 (fVar 3)) (tName 4) (fAnd (toB (fOp dNotIn (fTup (gConsF (fVar 4) (gConsF (fVar 3) (gNilF)))) (fVar 0))) (toB (fOp dNotIn (fTup (gConsF (fVar 3) (gConsF (fVar 4) (gNilF)))) (fVar 0)))) (fTup (gConsF (fVar 4) (gConsF (fVar 3) (gNilF)))) [some (.imm (.tuple (ps.map en))), x1, x2, some (.imm (.int j)), none] =
    some (.ok (.val (.new ((openJ ps j).map en))) [some (.imm (.tuple (ps.map en))), x1, x2, some (.imm (.int j)), none]) := by
  have h := lc_eq (vs := [4]) (fi := iRange1 (fVar 3)) (tg := tName 4) (ft := (fAnd (toB (fOp dNotIn (fTup (gConsF (fVar 4) (gConsF (fVar 3) (gNilF)))) (fVar 0))) (toB (fOp dNotIn (fTup (gConsF (fVar 3) (gConsF (fVar 4) (gNilF)))) (fVar 0))))) (fe := (fTup (gConsF (fVar 4) (gConsF (fVar 3) (gNilF)))))
    (e := [some (.imm (.tuple (ps.map en))), x1, x2, some (.imm (.int j)), none]) (e1 := [some (.imm (.tuple (ps.map en))), x1, x2, some (.imm (.int j)), none]) (fun (i : Nat) => PyData.int i) (List.range j) (fun (i : Nat) => !decide (((i : Int), (j : Int)) ∈ ps) && !decide (((j : Int), (i : Int)) ∈ ps)) (fun (i : Nat) => en (((i : Int), (j : Int)) : Pr)) (iR rfl rfl (by omega)) rfl (by rw [List.length_range]; omega) rfl ?_
  · rw [h]
    unfold openJ
    rw [List.map_map]
    rfl
  · intro i hi
    refine ⟨_, rfl, rfl, ?_, fun _ => ⟨_, rfl, rfl⟩⟩
    by_cases hp : ((i : Int), (j : Int)) ∈ ps
    · simp -implicitDefEqProofs [wp_seq, wp_bind, wp_ok, wp_ex, ob_ex, gSet, gNext, gDrop, gRet, gRetN, gIf, gBreak, gCont, gFor, gAsg, fVar, fC, fOp, fUn, fCl, fNil, fCons, fTup, fLst, gNilF, gConsF, dAll, Opd.d, Opd.fr, Val.d, putO, ob_ok, toB, tru, fNot, fAnd, fOr, fAndV, fOrV, isB, ofB, iSeq, iRange1, tName, tTupT, tsCons, tsNil, fYes, envP, envM, small, resO, own0, isOwn, noOwn, wipeB, backB, List.replicate, fMt, fCall, fCallB, fCallM, dTru, d_ninPT, hp]
    · simp -implicitDefEqProofs [wp_seq, wp_bind, wp_ok, wp_ex, ob_ex, gSet, gNext, gDrop, gRet, gRetN, gIf, gBreak, gCont, gFor, gAsg, fVar, fC, fOp, fUn, fCl, fNil, fCons, fTup, fLst, gNilF, gConsF, dAll, Opd.d, Opd.fr, Val.d, putO, ob_ok, toB, tru, fNot, fAnd, fOr, fAndV, fOrV, isB, ofB, iSeq, iRange1, tName, tTupT, tsCons, tsNil, fYes, envP, envM, small, resO, own0, isOwn, noOwn, wipeB, backB, List.replicate, fMt, fCall, fCallB, fCallM, dTru, d_ninPT, hp]
theorem range_flat (f : Nat → List Pr) (k : Nat) : (List.range (k + 1)).flatMap f = (List.range k).flatMap f ++ f k := by
  rw [List.range_succ, List.flatMap_append]
  simp
theorem openS_len (ps : List Pr) (k n : Nat) (hk : k ≤ n) : ((List.range k).flatMap (openJ ps)).length ≤ k * n := by
  have := flat_len (openJ ps) n (List.range k) fun x m => Nat.le_trans (openJ_len ps x) (by have := List.mem_range.mp m; omega)
  rw [List.length_range] at this
  exact this
def OpI (ps : List Pr) (n : Nat) (k : Nat) (e : BE) : Prop := ∃ x3, e = [some (.imm (.tuple (ps.map en))), some (.imm (.int n)), some (.own (((List.range k).flatMap (openJ ps)).map en)), x3, none]
theorem e_not_parted {ps : List Pr} {n : Nat} (hn : n ≤ 30) : G_not_parted [.tuple (ps.map en), .int n] = some (.ok (.new ((openP n ps).map en))) := by
  refine (if_pos rfl).trans ?_
  apply runP_eq
  unfold g_not_parted
  refine wp_seqN (OpI ps n 0) ?_ ?_
  · simp -implicitDefEqProofs [wp_seq, wp_bind, wp_ok, wp_ex, ob_ex, gSet, gNext, gDrop, gRet, gRetN, gIf, gBreak, gCont, gFor, gAsg, fVar, fC, fOp, fUn, fCl, fNil, fCons, fTup, fLst, gNilF, gConsF, dAll, Opd.d, Opd.fr, Val.d, putO, ob_ok, toB, tru, fNot, fAnd, fOr, fAndV, fOrV, isB, ofB, iSeq, iRange1, tName, tTupT, tsCons, tsNil, fYes, envP, envM, small, resO, own0, isOwn, noOwn, wipeB, backB, List.replicate, fMt, fCall, fCallB, fCallM, dTru]
    exact ⟨_, rfl⟩
  rintro _ ⟨x3, rfl⟩
  refine wp_seqN (OpI ps n n) ?_ ?_
  · refine wp_forR rfl rfl (by omega) (OpI ps n) ⟨x3, rfl⟩ ?_ fun e h => ⟨rfl, h⟩
    rintro k hk _ ⟨y3, rfl⟩
    refine ⟨_, rfl, ?_⟩
    have h1 := openS_len ps k n (by omega)
    have h2 := openJ_len ps k
    have h3 : k * n ≤ 30 * 30 := Nat.mul_le_mul (by omega) hn
    have hlc := lcOpen (ps := ps) (x1 := some (.imm (.int n))) (x2 := some (.own (((List.range k).flatMap (openJ ps)).map en))) (j := k) (by omega)
    unfold OpI
    rw [range_flat]
    generalize (List.range k).flatMap (openJ ps) = acc at h1 hlc ⊢
    have hsm : acc.length + (openJ ps k).length ≤ 100000 := by omega
    show wp (gDrop _ [some (.imm (.tuple (ps.map en))), some (.imm (.int n)), some (.own (acc.map en)), some (.imm (.int k)), none]) _ _
    generalize openJ ps k = new at hlc hsm ⊢
    simp -implicitDefEqProofs [wp_seq, wp_bind, wp_ok, wp_ex, ob_ex, gSet, gNext, gDrop, gRet, gRetN, gIf, gBreak, gCont, gFor, gAsg, fVar, fC, fOp, fUn, fCl, fNil, fCons, fTup, fLst, gNilF, gConsF, dAll, Opd.d, Opd.fr, Val.d, putO, ob_ok, toB, tru, fNot, fAnd, fOr, fAndV, fOrV, isB, ofB, iSeq, iRange1, tName, tTupT, tsCons, tsNil, fYes, envP, envM, small, resO, own0, isOwn, noOwn, wipeB, backB, List.replicate, fMt, fCall, fCallB, fCallM, dTru, hlc, mExtend, hsm]
  · rintro _ ⟨x3, rfl⟩
    simp -implicitDefEqProofs [wp_seq, wp_bind, wp_ok, wp_ex, ob_ex, gSet, gNext, gDrop, gRet, gRetN, gIf, gBreak, gCont, gFor, gAsg, fVar, fC, fOp, fUn, fCl, fNil, fCons, fTup, fLst, gNilF, gConsF, dAll, Opd.d, Opd.fr, Val.d, putO, ob_ok, toB, tru, fNot, fAnd, fOr, fAndV, fOrV, isB, ofB, iSeq, iRange1, tName, tTupT, tsCons, tsNil, fYes, envP, envM, small, resO, own0, isOwn, noOwn, wipeB, backB, List.replicate, fMt, fCall, fCallB, fCallM, dTru]
    rfl
theorem e__law_open {ps : List Pr} {n : Nat} (hn : n ≤ 30) : G__law_open [.tuple (ps.map en), .int n] = some (.ok (.new ((openP n ps).map en))) := by
  refine (if_pos rfl).trans ?_
  apply runP_eq
  unfold g__law_open
  refine wp_seqN (OpI ps n 0) ?_ ?_
  · simp -implicitDefEqProofs [wp_seq, wp_bind, wp_ok, wp_ex, ob_ex, gSet, gNext, gDrop, gRet, gRetN, gIf, gBreak, gCont, gFor, gAsg, fVar, fC, fOp, fUn, fCl, fNil, fCons, fTup, fLst, gNilF, gConsF, dAll, Opd.d, Opd.fr, Val.d, putO, ob_ok, toB, tru, fNot, fAnd, fOr, fAndV, fOrV, isB, ofB, iSeq, iRange1, tName, tTupT, tsCons, tsNil, fYes, envP, envM, small, resO, own0, isOwn, noOwn, wipeB, backB, List.replicate, fMt, fCall, fCallB, fCallM, dTru]
    exact ⟨_, rfl⟩
  rintro _ ⟨x3, rfl⟩
  refine wp_seqN (OpI ps n n) ?_ ?_
  · refine wp_forR rfl rfl (by omega) (OpI ps n) ⟨x3, rfl⟩ ?_ fun e h => ⟨rfl, h⟩
    rintro k hk _ ⟨y3, rfl⟩
    refine ⟨_, rfl, ?_⟩
    have h1 := openS_len ps k n (by omega)
    have h2 := openJ_len ps k
    have h3 : k * n ≤ 30 * 30 := Nat.mul_le_mul (by omega) hn
    have hlc := lcOpen (ps := ps) (x1 := some (.imm (.int n))) (x2 := some (.own (((List.range k).flatMap (openJ ps)).map en))) (j := k) (by omega)
    unfold OpI
    rw [range_flat]
    generalize (List.range k).flatMap (openJ ps) = acc at h1 hlc ⊢
    have hsm : acc.length + (openJ ps k).length ≤ 100000 := by omega
    show wp (gSet 2 _ [some (.imm (.tuple (ps.map en))), some (.imm (.int n)), some (.own (acc.map en)), some (.imm (.int k)), none]) _ _
    generalize openJ ps k = new at hlc hsm ⊢
    have hdp := d_catL hsm
    simp -implicitDefEqProofs [wp_seq, wp_bind, wp_ok, wp_ex, ob_ex, gSet, gNext, gDrop, gRet, gRetN, gIf, gBreak, gCont, gFor, gAsg, fVar, fC, fOp, fUn, fCl, fNil, fCons, fTup, fLst, gNilF, gConsF, dAll, Opd.d, Opd.fr, Val.d, putO, ob_ok, toB, tru, fNot, fAnd, fOr, fAndV, fOrV, isB, ofB, iSeq, iRange1, tName, tTupT, tsCons, tsNil, fYes, envP, envM, small, resO, own0, isOwn, noOwn, wipeB, backB, List.replicate, fMt, fCall, fCallB, fCallM, dTru, hlc, hdp]
  · rintro _ ⟨x3, rfl⟩
    simp -implicitDefEqProofs [wp_seq, wp_bind, wp_ok, wp_ex, ob_ex, gSet, gNext, gDrop, gRet, gRetN, gIf, gBreak, gCont, gFor, gAsg, fVar, fC, fOp, fUn, fCl, fNil, fCons, fTup, fLst, gNilF, gConsF, dAll, Opd.d, Opd.fr, Val.d, putO, ob_ok, toB, tru, fNot, fAnd, fOr, fAndV, fOrV, isB, ofB, iSeq, iRange1, tName, tTupT, tsCons, tsNil, fYes, envP, envM, small, resO, own0, isOwn, noOwn, wipeB, backB, List.replicate, fMt, fCall, fCallB, fCallM, dTru]
    rfl
/-! the law's test of a pair -/
theorem e__law_good {ps : List Pr} (hl : ps.length ≤ 1000) : G__law_good [.tuple (ps.map en)] = some (.ok (.imm (.bool ((ps.filter fun p => decide (p.1 = p.2)).isEmpty)))) := by
  refine (if_pos rfl).trans ?_
  apply runP_eq
  unfold g__law_good
  have h := lc_eq (vs := [1]) (fi := iSeq (fVar 0)) (tg := tName 1) (ft := (toB (fOp dEq (fOp dIx (fVar 1) (fC (.int 0))) (fOp dIx (fVar 1) (fC (.int 1)))))) (fe := (fVar 1))
    (e := [some (.imm (.tuple (ps.map en))), none]) (e1 := [some (.imm (.tuple (ps.map en))), none]) en ps (fun p => decide (p.1 = p.2)) en rfl rfl (by omega) rfl ?_
  · have h0 := d_eq0 (α := Pr) (by decide) (ps.filter fun p => decide (p.1 = p.2))
    generalize (ps.filter fun p => decide (p.1 = p.2)) = l at h h0 ⊢
    simp -implicitDefEqProofs [wp_seq, wp_bind, wp_ok, wp_ex, ob_ex, gSet, gNext, gDrop, gRet, gRetN, gIf, gBreak, gCont, gFor, gAsg, fVar, fC, fOp, fUn, fCl, fNil, fCons, fTup, fLst, gNilF, gConsF, dAll, Opd.d, Opd.fr, Val.d, putO, ob_ok, toB, tru, fNot, fAnd, fOr, fAndV, fOrV, isB, ofB, iSeq, iRange1, tName, tTupT, tsCons, tsNil, fYes, envP, envM, small, resO, own0, isOwn, noOwn, wipeB, backB, List.replicate, fMt, fCall, fCallB, fCallM, dTru, h, h0]
  · intro p hp
    refine ⟨_, rfl, rfl, ?_, fun _ => ⟨_, rfl, rfl⟩⟩
    have h1 : dIx (.tuple [.int p.1, .int p.2]) (.int 0) = some (.imm (.int p.1)) := rfl
    have h2 : dIx (.tuple [.int p.1, .int p.2]) (.int 1) = some (.imm (.int p.2)) := rfl
    simp -implicitDefEqProofs [wp_seq, wp_bind, wp_ok, wp_ex, ob_ex, gSet, gNext, gDrop, gRet, gRetN, gIf, gBreak, gCont, gFor, gAsg, fVar, fC, fOp, fUn, fCl, fNil, fCons, fTup, fLst, gNilF, gConsF, dAll, Opd.d, Opd.fr, Val.d, putO, ob_ok, toB, tru, fNot, fAnd, fOr, fAndV, fOrV, isB, ofB, iSeq, iRange1, tName, tTupT, tsCons, tsNil, fYes, envP, envM, small, resO, own0, isOwn, noOwn, wipeB, backB, List.replicate, fMt, fCall, fCallB, fCallM, dTru, en_pair, en_int, h1, h2, d_eqI]
end BV

namespace BV
open PySem PySem.Spec L2
open PyProof.Rows hiding St
open Enc
def env3 (d : PyData) (n : Nat) (W : Mat) : BE := [some (.imm d), some (.imm (.int n)), some (.imm (matD W)), none, none, none, none]
theorem env3_no {d : PyData} {n : Nat} {W : Mat} (i : Nat) (ds : List PyData) : (env3 d n W)[i]? ≠ some (some (.own ds)) := fun h => by
  match i, h with
  | 0, h => cases h
  | 1, h => cases h
  | 2, h => cases h
  | 3, h => cases h
  | 4, h => cases h
  | 5, h => cases h
  | 6, h => cases h
  | i + 7, h => simp [env3] at h
theorem d_row {n : Nat} {W : Mat} (s : Sq n W) {i : Nat} (hi : i < n) : dIx (matD W) (.int i) = some (.imm (.list ((W.getD i []).map .bool))) := by
  show (atI (W.map fun r => PyData.list (r.map .bool)) (i : Int)).map Val.imm = _
  rw [atI_nat (x := PyData.list ((W.getD i []).map .bool))]
  · rfl
  · have hl : i < W.length := by rw [s.1]; exact hi
    rw [List.getElem?_map, List.getD_eq_getElem?_getD, List.getElem?_eq_getElem hl]
    rfl
theorem d_cell {n : Nat} {W : Mat} (s : Sq n W) {i j : Nat} (hi : i < n) (hj : j < n) : dIx (.list ((W.getD i []).map .bool)) (.int j) = some (.imm (.bool (getB W i j))) := by
  show (atI ((W.getD i []).map PyData.bool) (j : Int)).map Val.imm = _
  rw [atI_nat (x := PyData.bool (getB W i j))]
  · rfl
  · have hl := s.2 i hi
    unfold getB
    rw [List.getElem?_map, List.getD_eq_getElem?_getD (l := W.getD i []), List.getElem?_eq_getElem (l := W.getD i []) (by omega)]
    rfl
theorem d_anyM0 {α : Type} (xs : List α) (B : α → Bool) : dAny [.list (xs.map fun x => .bool (B x))] = some (.imm (.bool (xs.any B))) := by
  have : (xs.map fun x => PyData.bool (B x)) = (xs.map B).map .bool := by rw [List.map_map]; rfl
  unfold dAny
  rw [this]
  dsimp only
  rw [boolsOf_map, Option.map_some, List.any_map]
  rfl
theorem cl3_any (d : PyData) {n : Nat} {W : Mat} (s : Sq n W) (hn : n ≤ 300) : tru (fCl dAny (fCons (fLc [5] (iRange1 (fVar 1)) (tName 5) (fYes) (fOp dIx (fOp dIx (fVar 2) (fVar 5)) (fVar 5))) (fNil))) (env3 d n W) = some (.ok ((List.range n).any fun i => getB W i i) (env3 d n W)) := by
  have hlc := lc_eq (vs := [5]) (fi := iRange1 (fVar 1)) (tg := tName 5) (ft := fYes) (fe := (fOp dIx (fOp dIx (fVar 2) (fVar 5)) (fVar 5))) (e := env3 d n W) (e1 := env3 d n W) (fun (i : Nat) => PyData.int i) (List.range n) (fun _ => true) (fun i => .bool (getB W i i)) (iR rfl rfl (by omega)) rfl (by rw [List.length_range]; omega) rfl ?_
  · have hany := d_anyM0 (List.range n) fun i => getB W i i
    rw [show (List.range n).filter (fun _ => true) = List.range n from by simp] at hlc
    generalize (List.range n).any (fun i => getB W i i) = b at *
    generalize List.map (fun i => PyData.bool (getB W i i)) (List.range n) = L at *
    generalize env3 d n W = E at *
    simp -implicitDefEqProofs [wp_seq, wp_bind, wp_ok, wp_ex, ob_ex, gSet, gNext, gDrop, gRet, gRetN, gIf, gBreak, gCont, gFor, gAsg, fVar, fC, fOp, fUn, fCl, fNil, fCons, fTup, fLst, gNilF, gConsF, dAll, Opd.d, Opd.fr, Val.d, putO, ob_ok, toB, tru, fNot, fAnd, fOr, fAndV, fOrV, isB, ofB, iSeq, iRange1, tName, tTupT, tsCons, tsNil, fYes, envP, envM, small, resO, own0, isOwn, noOwn, wipeB, backB, List.replicate, fMt, fCall, fCallB, fCallM, dTru, hlc, hany]
  · intro i hi
    have hi := List.mem_range.mp hi
    refine ⟨_, rfl, rfl, rfl, fun _ => ⟨.val (.imm (.bool (getB W i i))), ?_, rfl⟩⟩
    have h1 := d_row s hi
    have h2 := d_cell s hi hi
    show fOp _ _ _ [some (.imm d), some (.imm (.int n)), some (.imm (matD W)), none, none, some (.imm (.int i)), none] = _
    generalize hE : env3 d n W = E0 at *
    have hE2 : (wipeB E0 [5]).set 5 (some (.imm (.int i))) = [some (.imm d), some (.imm (.int n)), some (.imm (matD W)), none, none, some (.imm (.int i)), none] := by rw [← hE]; rfl
    generalize (W.getD i []).map PyData.bool = RW at *
    generalize getB W i i = b at *
    generalize matD W = MD at *
    rw [hE2]
    simp -implicitDefEqProofs [wp_seq, wp_bind, wp_ok, wp_ex, ob_ex, gSet, gNext, gDrop, gRet, gRetN, gIf, gBreak, gCont, gFor, gAsg, fVar, fC, fOp, fUn, fCl, fNil, fCons, fTup, fLst, gNilF, gConsF, dAll, Opd.d, Opd.fr, Val.d, putO, ob_ok, toB, tru, fNot, fAnd, fOr, fAndV, fOrV, isB, ofB, iSeq, iRange1, tName, tTupT, tsCons, tsNil, fYes, envP, envM, small, resO, own0, isOwn, noOwn, wipeB, backB, List.replicate, fMt, fCall, fCallB, fCallM, dTru, h1, h2]
theorem wp_ex0 {α : Type} {m : Option (Out α)} {c : Ex} (h : wp m (fun _ _ => False) fun x _ => x = c) : ∃ e, m = some (.ex c e) := by
  have h := h.1
  rcases m with _ | ⟨f, e1⟩ | ⟨x, e1⟩
  · exact h.elim
  · exact h.elim
  · have h : x = c := h
    exact ⟨e1, by rw [h]⟩
theorem cl3_err (d : PyData) {n : Nat} {W : Mat} (s : Sq n W) (hn : n ≤ 300) (h : ((List.range n).any fun i => getB W i i) = true) : ∃ e, g_cl3 (env3 d n W) = some (.ex ⟨"Clash", none⟩ e) := by
  have ha := cl3_any d s hn
  rw [h] at ha
  have key : wp (g_cl3 (env3 d n W)) (fun _ _ => False) fun x _ => x = ⟨"Clash", none⟩ := by
    unfold g_cl3
    rw [wp_seq]
    unfold gIf
    rw [ha, ob_ok]
    generalize env3 d n W = E0
    simp -implicitDefEqProofs [wp_seq, wp_bind, wp_ok, wp_ex, ob_ex, gSet, gNext, gDrop, gRet, gRetN, gIf, gBreak, gCont, gFor, gAsg, fVar, fC, fOp, fUn, fCl, fNil, fCons, fTup, fLst, gNilF, gConsF, dAll, Opd.d, Opd.fr, Val.d, putO, ob_ok, toB, tru, fNot, fAnd, fOr, fAndV, fOrV, isB, ofB, iSeq, iRange1, tName, tTupT, tsCons, tsNil, fYes, envP, envM, small, resO, own0, isOwn, noOwn, wipeB, backB, List.replicate, fMt, fCall, fCallB, fCallM, dTru, gRaise]
  exact wp_ex0 key
def C3I (d : PyData) (n : Nat) (W : Mat) (i : Nat) (e : BE) : Prop := ∃ x5, e = [some (.imm d), some (.imm (.int n)), some (.imm (matD W)), none, some (.own (((List.range i).flatMap fun (i : Nat) => ((List.range n).filter fun (j : Nat) => getB W i j).map fun (j : Nat) => (((i : Int), (j : Int)) : Pr)).map en)), x5, none]
theorem wp_rt0 {g : M Flw} {e : BE} {v : PyData} (h : wp (g e) (fun f _ => f = .rt (.val (.imm v))) fun _ _ => False) : ∃ e1, g e = some (.ok (.rt (.val (.imm v))) e1) := by
  have h := h.1
  generalize g e = m at h ⊢
  rcases m with _ | ⟨f, e1⟩ | ⟨x, e1⟩
  · exact h.elim
  · have h : f = .rt (.val (.imm v)) := h
    exact ⟨e1, by rw [h]⟩
  · exact h.elim
theorem cl3_ok (d : PyData) {n : Nat} {W : Mat} (s : Sq n W) (hn : n ≤ 300) (h : ((List.range n).any fun i => getB W i i) = false) : ∃ e, g_cl3 (env3 d n W) = some (.ok (.rt (.val (.imm (.tuple ((matPairs n W).map pd))))) e) := by
  have ha := cl3_any d s hn
  rw [h] at ha
  apply wp_rt0
  unfold g_cl3
  refine wp_seqN (fun e => e = env3 d n W) ?_ ?_
  · unfold gIf
    rw [ha, ob_ok]
    simp -implicitDefEqProofs [wp_seq, wp_bind, wp_ok, wp_ex, ob_ex, gSet, gNext, gDrop, gRet, gRetN, gIf, gBreak, gCont, gFor, gAsg, fVar, fC, fOp, fUn, fCl, fNil, fCons, fTup, fLst, gNilF, gConsF, dAll, Opd.d, Opd.fr, Val.d, putO, ob_ok, toB, tru, fNot, fAnd, fOr, fAndV, fOrV, isB, ofB, iSeq, iRange1, tName, tTupT, tsCons, tsNil, fYes, envP, envM, small, resO, own0, isOwn, noOwn, wipeB, backB, List.replicate, fMt, fCall, fCallB, fCallM, dTru]
  rintro _ rfl
  unfold env3
  refine wp_seqN (C3I d n W 0) ?_ ?_
  · generalize hM : matD W = MD
    simp -implicitDefEqProofs [wp_seq, wp_bind, wp_ok, wp_ex, ob_ex, gSet, gNext, gDrop, gRet, gRetN, gIf, gBreak, gCont, gFor, gAsg, fVar, fC, fOp, fUn, fCl, fNil, fCons, fTup, fLst, gNilF, gConsF, dAll, Opd.d, Opd.fr, Val.d, putO, ob_ok, toB, tru, fNot, fAnd, fOr, fAndV, fOrV, isB, ofB, iSeq, iRange1, tName, tTupT, tsCons, tsNil, fYes, envP, envM, small, resO, own0, isOwn, noOwn, wipeB, backB, List.replicate, fMt, fCall, fCallB, fCallM, dTru]
    unfold C3I
    rw [hM]
    exact ⟨none, rfl⟩
  rintro _ ⟨x5, rfl⟩
  refine wp_seqN (C3I d n W n) ?_ ?_
  · refine wp_forR rfl rfl (by omega) (C3I d n W) ⟨x5, rfl⟩ ?_ fun e h => ⟨rfl, h⟩
    rintro i hi _ ⟨y5, rfl⟩
    refine ⟨_, rfl, ?_⟩
    have hfl : (List.range (i + 1)).flatMap (fun (i : Nat) => ((List.range n).filter fun (j : Nat) => getB W i j).map fun (j : Nat) => (((i : Int), (j : Int)) : Pr)) = (List.range i).flatMap (fun (i : Nat) => ((List.range n).filter fun (j : Nat) => getB W i j).map fun (j : Nat) => (((i : Int), (j : Int)) : Pr)) ++ ((List.range n).filter fun (j : Nat) => getB W i j).map fun (j : Nat) => (((i : Int), (j : Int)) : Pr) := range_flat _ i
    have hlen1 := flat_len (fun (i : Nat) => ((List.range n).filter fun (j : Nat) => getB W i j).map fun (j : Nat) => (((i : Int), (j : Int)) : Pr)) n (List.range i) fun x _ => by
      rw [List.length_map]
      exact Nat.le_trans (List.length_filter_le ..) (by rw [List.length_range]; exact Nat.le_refl _)
    have hlen2 : (((List.range n).filter fun (j : Nat) => getB W i j).map fun (j : Nat) => (((i : Int), (j : Int)) : Pr)).length ≤ n := by
      rw [List.length_map]
      exact Nat.le_trans (List.length_filter_le ..) (by rw [List.length_range]; exact Nat.le_refl _)
    rw [List.length_range] at hlen1
    have hlen3 : i * n ≤ 299 * 300 := Nat.mul_le_mul (by omega) hn
    unfold C3I
    rw [hfl]
    have hmm : List.map (fun (j : Nat) => en (((i : Int), (j : Int)) : Pr)) ((List.range n).filter fun (j : Nat) => getB W i j) = (((List.range n).filter fun (j : Nat) => getB W i j).map fun (j : Nat) => (((i : Int), (j : Int)) : Pr)).map en := by rw [List.map_map]; rfl
    generalize hacc : (List.range i).flatMap (fun (i : Nat) => ((List.range n).filter fun (j : Nat) => getB W i j).map fun (j : Nat) => (((i : Int), (j : Int)) : Pr)) = acc at *
    have hlc := lc_eq (vs := [6]) (fi := iRange1 (fVar 1)) (tg := tName 6) (ft := (tru (fOp dIx (fOp dIx (fVar 2) (fVar 5)) (fVar 6)))) (fe := (fTup (gConsF (fVar 5) (gConsF (fVar 6) (gNilF)))))
      (e := [some (.imm d), some (.imm (.int n)), some (.imm (matD W)), none, some (.own (acc.map en)), some (.imm (.int i)), none]) (e1 := [some (.imm d), some (.imm (.int n)), some (.imm (matD W)), none, some (.own (acc.map en)), some (.imm (.int i)), none])
      (fun (i : Nat) => PyData.int i) (List.range n) (fun j => getB W i j) (fun (j : Nat) => en (((i : Int), (j : Int)) : Pr)) (iR rfl rfl (by omega)) rfl (by rw [List.length_range]; omega) rfl ?_
    · rw [hmm] at hlc
      generalize ((List.range n).filter fun (j : Nat) => getB W i j).map (fun (j : Nat) => (((i : Int), (j : Int)) : Pr)) = new at *
      have hsm : acc.length + new.length ≤ 100000 := by omega
      generalize matD W = MD at *
      show wp (gDrop _ [some (.imm d), some (.imm (.int n)), some (.imm MD), none, some (.own (acc.map en)), some (.imm (.int i)), none]) _ _
      simp -implicitDefEqProofs [wp_seq, wp_bind, wp_ok, wp_ex, ob_ex, gSet, gNext, gDrop, gRet, gRetN, gIf, gBreak, gCont, gFor, gAsg, fVar, fC, fOp, fUn, fCl, fNil, fCons, fTup, fLst, gNilF, gConsF, dAll, Opd.d, Opd.fr, Val.d, putO, ob_ok, toB, tru, fNot, fAnd, fOr, fAndV, fOrV, isB, ofB, iSeq, iRange1, tName, tTupT, tsCons, tsNil, fYes, envP, envM, small, resO, own0, isOwn, noOwn, wipeB, backB, List.replicate, fMt, fCall, fCallB, fCallM, dTru, hlc, mExtend, hsm]
    · intro j hj
      have hj := List.mem_range.mp hj
      refine ⟨_, rfl, rfl, ?_, fun _ => ⟨_, rfl, rfl⟩⟩
      have h1 := d_row s hi
      have h2 := d_cell s hi hj
      generalize (W.getD i []).map PyData.bool = RW at *
      generalize getB W i j = b at *
      generalize matD W = MD at *
      generalize acc.map en = A1 at *
      simp -implicitDefEqProofs [wp_seq, wp_bind, wp_ok, wp_ex, ob_ex, gSet, gNext, gDrop, gRet, gRetN, gIf, gBreak, gCont, gFor, gAsg, fVar, fC, fOp, fUn, fCl, fNil, fCons, fTup, fLst, gNilF, gConsF, dAll, Opd.d, Opd.fr, Val.d, putO, ob_ok, toB, tru, fNot, fAnd, fOr, fAndV, fOrV, isB, ofB, iSeq, iRange1, tName, tTupT, tsCons, tsNil, fYes, envP, envM, small, resO, own0, isOwn, noOwn, wipeB, backB, List.replicate, fMt, fCall, fCallB, fCallM, dTru, h1, h2]
  · rintro _ ⟨x5, rfl⟩
    have hm : ((List.range n).flatMap (fun (i : Nat) => ((List.range n).filter fun (j : Nat) => getB W i j).map fun (j : Nat) => (((i : Int), (j : Int)) : Pr))) = matPairs n W := rfl
    rw [hm, en_pd]
    generalize matPairs n W = mp
    generalize matD W = MD
    simp -implicitDefEqProofs [wp_seq, wp_bind, wp_ok, wp_ex, ob_ex, gSet, gNext, gDrop, gRet, gRetN, gIf, gBreak, gCont, gFor, gAsg, fVar, fC, fOp, fUn, fCl, fNil, fCons, fTup, fLst, gNilF, gConsF, dAll, Opd.d, Opd.fr, Val.d, putO, ob_ok, toB, tru, fNot, fAnd, fOr, fAndV, fOrV, isB, ofB, iSeq, iRange1, tName, tTupT, tsCons, tsNil, fYes, envP, envM, small, resO, own0, isOwn, noOwn, wipeB, backB, List.replicate, fMt, fCall, fCallB, fCallM, dTru, dTuple]
end BV

namespace BV
open PySem PySem.Spec L2
open PyProof.Rows hiding St
def topS (i : Nat) : Stmt := PySem.Challenge.pw_ordertext_k38_bound_shown.main.body.getD i (.Pass ⟨0, 0, 0, 0⟩)

abbrev s_closed : Stmt := topS 4
abbrev n_closed : List Str := ["pairs", "many", "ahead", "k", "found", "i", "j"]
theorem sc_closed : FnScope n_closed ["pairs", "many"] (defScope s_closed) := ⟨rfl, rfl, rfl, by decide +kernel, rfl, by decide +kernel, by decide +kernel⟩
abbrev s_with_more : Stmt := topS 6
abbrev n_with_more : List Str := ["known", "i", "j", "firsts", "lasts", "found", "one", "other"]
theorem sc_with_more : FnScope n_with_more ["known", "i", "j"] (defScope s_with_more) := ⟨rfl, rfl, rfl, by decide +kernel, rfl, by decide +kernel, by decide +kernel⟩
abbrev s_both_ways : Stmt := topS 7
abbrev n_both_ways : List Str := ["known", "i", "j"]
theorem sc_both_ways : FnScope n_both_ways ["known", "i", "j"] (defScope s_both_ways) := ⟨rfl, rfl, rfl, by decide +kernel, rfl, by decide +kernel, by decide +kernel⟩
abbrev s_not_parted : Stmt := topS 8
abbrev n_not_parted : List Str := ["known", "many", "found", "j", "i"]
theorem sc_not_parted : FnScope n_not_parted ["known", "many"] (defScope s_not_parted) := ⟨rfl, rfl, rfl, by decide +kernel, rfl, by decide +kernel, by decide +kernel⟩
abbrev s_is_known : Stmt := topS 9
abbrev n_is_known : List Str := ["known", "many", "found"]
theorem sc_is_known : FnScope n_is_known ["known", "many"] (defScope s_is_known) := ⟨rfl, rfl, rfl, by decide +kernel, rfl, by decide +kernel, by decide +kernel⟩
abbrev s_has_more : Stmt := topS 10
abbrev n_has_more : List Str := ["paper", "known", "number", "some", "other", "pair"]
theorem sc_has_more : FnScope n_has_more ["paper", "known", "number"] (defScope s_has_more) := ⟨rfl, rfl, rfl, by decide +kernel, rfl, by decide +kernel, by decide +kernel⟩
abbrev s_bound_shown : Stmt := topS 11
abbrev n_bound_shown : List Str := ["paper", "many", "known", "number", "pairs", "i", "j", "some"]
theorem sc_bound_shown : FnScope n_bound_shown ["paper", "many"] (defScope s_bound_shown) := ⟨rfl, rfl, rfl, by decide +kernel, rfl, by decide +kernel, by decide +kernel⟩
abbrev s__law_next : Stmt := topS 13
abbrev n__law_next : List Str := ["deck", "cells", "at", "mixed"]
theorem sc__law_next : FnScope n__law_next ["deck"] (defScope s__law_next) := ⟨rfl, rfl, rfl, by decide +kernel, rfl, by decide +kernel, by decide +kernel⟩
abbrev s__law_closed : Stmt := topS 14
abbrev n__law_closed : List Str := ["pairs", "found", "more", "fresh", "i", "j", "k", "l"]
theorem sc__law_closed : FnScope n__law_closed ["pairs"] (defScope s__law_closed) := ⟨rfl, rfl, rfl, by decide +kernel, rfl, by decide +kernel, by decide +kernel⟩
abbrev s__law_good : Stmt := topS 15
abbrev n__law_good : List Str := ["known", "pair"]
theorem sc__law_good : FnScope n__law_good ["known"] (defScope s__law_good) := ⟨rfl, rfl, rfl, by decide +kernel, rfl, by decide +kernel, by decide +kernel⟩
abbrev s__law_turn : Stmt := topS 16
abbrev n__law_turn : List Str := ["deck", "many", "left", "found"]
theorem sc__law_turn : FnScope n__law_turn ["deck", "many"] (defScope s__law_turn) := ⟨rfl, rfl, rfl, by decide +kernel, rfl, by decide +kernel, by decide +kernel⟩
abbrev s__law_known : Stmt := topS 17
abbrev n__law_known : List Str := ["deck", "many", "turn", "pairs", "k", "cell", "j"]
theorem sc__law_known : FnScope n__law_known ["deck", "many"] (defScope s__law_known) := ⟨rfl, rfl, rfl, by decide +kernel, rfl, by decide +kernel, by decide +kernel⟩
abbrev s__law_open : Stmt := topS 18
abbrev n__law_open : List Str := ["known", "many", "found", "j", "i"]
theorem sc__law_open : FnScope n__law_open ["known", "many"] (defScope s__law_open) := ⟨rfl, rfl, rfl, by decide +kernel, rfl, by decide +kernel, by decide +kernel⟩
abbrev s__law_within : Stmt := topS 19
abbrev n__law_within : List Str := ["one", "some", "more", "pair"]
theorem sc__law_within : FnScope n__law_within ["one", "some"] (defScope s__law_within) := ⟨rfl, rfl, rfl, by decide +kernel, rfl, by decide +kernel, by decide +kernel⟩
abbrev s__law_pair_good : Stmt := topS 20
abbrev n__law_pair_good : List Str := ["known", "number", "paper", "many", "ways", "i", "j", "some", "one", "other"]
theorem sc__law_pair_good : FnScope n__law_pair_good ["known", "number", "paper", "many"] (defScope s__law_pair_good) := ⟨rfl, rfl, rfl, by decide +kernel, rfl, by decide +kernel, by decide +kernel⟩
abbrev s__law_paper : Stmt := topS 21
abbrev n__law_paper : List Str := ["deck", "many", "paper", "k", "known", "number", "most", "i", "j"]
theorem sc__law_paper : FnScope n__law_paper ["deck", "many"] (defScope s__law_paper) := ⟨rfl, rfl, rfl, by decide +kernel, rfl, by decide +kernel, by decide +kernel⟩
abbrev s__law_spoilt : Stmt := topS 22
abbrev n__law_spoilt : List Str := ["deck", "paper", "many", "cell", "at", "known", "number", "pair"]
theorem sc__law_spoilt : FnScope n__law_spoilt ["deck", "paper", "many"] (defScope s__law_spoilt) := ⟨rfl, rfl, rfl, by decide +kernel, rfl, by decide +kernel, by decide +kernel⟩
abbrev s_law : Stmt := topS 23
abbrev n_law : List Str := ["script", "deck", "k", "many", "paper", "turn", "due", "cell", "longer", "found", "known", "number"]
theorem sc_law : FnScope n_law ["script"] (defScope s_law) := ⟨rfl, rfl, rfl, by decide +kernel, rfl, by decide +kernel, by decide +kernel⟩
structure Facts (K : Fg) (mg : Str → Option Value) where
  a_closed : Addr
  d_closed : FuncData
  f_closed : Fun K "closed" "closed" s_closed a_closed d_closed
  g_closed : mg "closed" = some (.ref a_closed)
  b_closed : Binds K d_closed ["pairs", "many"] []
  a_with_more : Addr
  d_with_more : FuncData
  f_with_more : Fun K "with_more" "with_more" s_with_more a_with_more d_with_more
  g_with_more : mg "with_more" = some (.ref a_with_more)
  b_with_more : Binds K d_with_more ["known", "i", "j"] []
  a_both_ways : Addr
  d_both_ways : FuncData
  f_both_ways : Fun K "both_ways" "both_ways" s_both_ways a_both_ways d_both_ways
  g_both_ways : mg "both_ways" = some (.ref a_both_ways)
  b_both_ways : Binds K d_both_ways ["known", "i", "j"] []
  a_not_parted : Addr
  d_not_parted : FuncData
  f_not_parted : Fun K "not_parted" "not_parted" s_not_parted a_not_parted d_not_parted
  g_not_parted : mg "not_parted" = some (.ref a_not_parted)
  b_not_parted : Binds K d_not_parted ["known", "many"] []
  a_is_known : Addr
  d_is_known : FuncData
  f_is_known : Fun K "is_known" "is_known" s_is_known a_is_known d_is_known
  g_is_known : mg "is_known" = some (.ref a_is_known)
  b_is_known : Binds K d_is_known ["known", "many"] []
  a_has_more : Addr
  d_has_more : FuncData
  f_has_more : Fun K "has_more" "has_more" s_has_more a_has_more d_has_more
  g_has_more : mg "has_more" = some (.ref a_has_more)
  b_has_more : Binds K d_has_more ["paper", "known", "number"] []
  a_bound_shown : Addr
  d_bound_shown : FuncData
  f_bound_shown : Fun K "bound_shown" "bound_shown" s_bound_shown a_bound_shown d_bound_shown
  g_bound_shown : mg "bound_shown" = some (.ref a_bound_shown)
  b_bound_shown : Binds K d_bound_shown ["paper", "many"] []
  a__law_next : Addr
  d__law_next : FuncData
  f__law_next : Fun K "_law_next" "_law_next" s__law_next a__law_next d__law_next
  g__law_next : mg "_law_next" = some (.ref a__law_next)
  b__law_next : Binds K d__law_next ["deck"] []
  a__law_closed : Addr
  d__law_closed : FuncData
  f__law_closed : Fun K "_law_closed" "_law_closed" s__law_closed a__law_closed d__law_closed
  g__law_closed : mg "_law_closed" = some (.ref a__law_closed)
  b__law_closed : Binds K d__law_closed ["pairs"] []
  a__law_good : Addr
  d__law_good : FuncData
  f__law_good : Fun K "_law_good" "_law_good" s__law_good a__law_good d__law_good
  g__law_good : mg "_law_good" = some (.ref a__law_good)
  b__law_good : Binds K d__law_good ["known"] []
  a__law_turn : Addr
  d__law_turn : FuncData
  f__law_turn : Fun K "_law_turn" "_law_turn" s__law_turn a__law_turn d__law_turn
  g__law_turn : mg "_law_turn" = some (.ref a__law_turn)
  b__law_turn : Binds K d__law_turn ["deck", "many"] []
  a__law_known : Addr
  d__law_known : FuncData
  f__law_known : Fun K "_law_known" "_law_known" s__law_known a__law_known d__law_known
  g__law_known : mg "_law_known" = some (.ref a__law_known)
  b__law_known : Binds K d__law_known ["deck", "many"] []
  a__law_open : Addr
  d__law_open : FuncData
  f__law_open : Fun K "_law_open" "_law_open" s__law_open a__law_open d__law_open
  g__law_open : mg "_law_open" = some (.ref a__law_open)
  b__law_open : Binds K d__law_open ["known", "many"] []
  a__law_within : Addr
  d__law_within : FuncData
  f__law_within : Fun K "_law_within" "_law_within" s__law_within a__law_within d__law_within
  g__law_within : mg "_law_within" = some (.ref a__law_within)
  b__law_within : Binds K d__law_within ["one", "some"] []
  a__law_pair_good : Addr
  d__law_pair_good : FuncData
  f__law_pair_good : Fun K "_law_pair_good" "_law_pair_good" s__law_pair_good a__law_pair_good d__law_pair_good
  g__law_pair_good : mg "_law_pair_good" = some (.ref a__law_pair_good)
  b__law_pair_good : Binds K d__law_pair_good ["known", "number", "paper", "many"] []
  a__law_paper : Addr
  d__law_paper : FuncData
  f__law_paper : Fun K "_law_paper" "_law_paper" s__law_paper a__law_paper d__law_paper
  g__law_paper : mg "_law_paper" = some (.ref a__law_paper)
  b__law_paper : Binds K d__law_paper ["deck", "many"] []
  a__law_spoilt : Addr
  d__law_spoilt : FuncData
  f__law_spoilt : Fun K "_law_spoilt" "_law_spoilt" s__law_spoilt a__law_spoilt d__law_spoilt
  g__law_spoilt : mg "_law_spoilt" = some (.ref a__law_spoilt)
  b__law_spoilt : Binds K d__law_spoilt ["deck", "paper", "many"] []
  a_law : Addr
  d_law : FuncData
  f_law : Fun K "law" "law" s_law a_law d_law
  g_law : mg "law" = some (.ref a_law)
  b_law : Binds K d_law ["script"] []
  m_all : mg "all" = none
  m_any : mg "any" = none
  m_bool : mg "bool" = none
  m_int : mg "int" = none
  m_isinstance : mg "isinstance" = none
  m_len : mg "len" = none
  m_list : mg "list" = none
  m_max : mg "max" = none
  m_range : mg "range" = none
  m_set : mg "set" = none
  m_sorted : mg "sorted" = none
  m_tuple : mg "tuple" = none
  a_Clash : Addr
  c_Clash : mg "Clash" = some (.ref a_Clash)
  n_Clash : PySem.W.nsIn K mainGlobals "Clash" = some (some (.ref a_Clash))
  x_Clash : PySem.W.excIn K a_Clash [.type "ValueError", .type "Exception", .type "BaseException", .type "object"] "ValueError.__new__" = true
  k_Clash : PySem.W.keepIn K (.ref a_Clash) = true
  eb_Clash : PySem.W.subIn K (.ref a_Clash) (.type "BaseException") = some true
  et_Clash : PySem.W.typeIn K (.ref a_Clash) = some (.type "type")
  mt_Clash : ∀ n a b, mt_Clash n = some b → PySem.W.nsIn K mainGlobals n = some (some a) → PySem.W.exmOne K a (.ref a_Clash) = some b
end BV

namespace BV
open PySem PySem.Spec L2
open PyProof.Rows hiding St
variable {P : Program} {w : World} {K : Fg} {mg : Str → Option Value} {base : Heap}
theorem ok_closed (T : Facts K mg) : FnOk P w K mg base (L2.CX P w) 1 T.a_closed T.d_closed ["pairs", "many"] (spP K G_closed) := by
  refine T.f_closed.okX sc_closed (fun vs H Q E h => ?_) (fun cdv A outer s H vs Q E hr h => ?_)
  · obtain ⟨Z, ds, o, l, hd, e, _⟩ := h
    rw [hd.len]
    unfold G_closed at e
    split at e
    · rfl
    · cases e
  · obtain ⟨Z, ds, o, l, hd, e, q⟩ := h
    have B : BodyOk (cxOf (L2.CX P w) P w K mg base n_closed "closed" (defScope s_closed) T.a_closed cdv A outer s H E) (fun c d _ H' => E c d H') 0 := ⟨rfl, hr, passes_of rfl, takes_of rfl rfl rfl rfl⟩
    have R3 : SB (cxOf (L2.CX P w) P w K mg base n_closed "closed" (defScope s_closed) T.a_closed cdv A outer s H E) (fun c d _ H' => E c d H') 0 ((defBody s_closed).drop 2) g_cl3 := sb_cons (ss_if (st_tru (se_callB (cr_any B.calm) cd_any T.m_any (by decide +kernel) (sa_cons (se_lc [("i", 5)] B.calm sc_closed.nd (si_range1 T.m_range (se_var 1)) (by decide) (blkOk_by (own := [("i", 5)]) (by kernel_rfl)) (fun _ _ _ _ _ => sg_name 5 sc_closed.nd) (fun _ _ _ _ _ => sts_nil) (fun _ _ _ _ _ => se_ix (fun _ _ => rfl) (se_ix (fun _ _ => rfl) (se_var 2) (se_var 5)) (se_var 5))) (sa_nil)))) (sb_one (ss_raise B.calm B.tk PySem.F.excBase_ValueError T.x_Clash T.c_Clash T.n_Clash T.k_Clash (raises_own T.eb_Clash T.et_Clash))) (sb_nil)) (sb_cons (ss_set 4 (by decide) sc_closed.nd (se_lst (sf_nil))) (sb_cons (ss_for B.calm B.pass (by decide) (si_range1 T.m_range (se_var 1)) (sg_name 5 sc_closed.nd) (sb_one (ss_expr (se_mt 4 PySem.F.slot_list_extend PySem.F.type_list_extend mt_extendR md_extend (sf_cons (se_lc [("j", 6)] B.calm sc_closed.nd (si_range1 T.m_range (se_var 1)) (by decide) (blkOk_by (own := [("j", 6)]) (by kernel_rfl)) (fun _ _ _ _ _ => sg_name 6 sc_closed.nd) (fun _ _ _ _ _ => sts_one (st_tru (se_ix (fun _ _ => rfl) (se_ix (fun _ _ => rfl) (se_var 2) (se_var 5)) (se_var 6)))) (fun _ _ _ _ _ => se_tup (sf_cons (se_var 5) (sf_cons (se_var 6) (sf_nil))))) (sf_nil)))))) (sb_one (ss_ret (se_callT call_tuple_of cd_tuple T.m_tuple (by decide +kernel) (sa_cons (se_var 4) (sa_nil)))))))
    obtain ⟨u, p3, sim⟩ := R3
    have p1 : PS (cxOf (L2.CX P w) P w K mg base n_closed "closed" (defScope s_closed) T.a_closed cdv A outer s H E) ((defBody s_closed).getD 0 (.Pass ⟨0, 0, 0, 0⟩)) (tAsg (tLc tRg (gName 5) tYes (tRowP K) [5]) (gName 2)) :=
      ps_set (i := 2) sc_closed.nd rfl (by first | exact Or.inl rfl | exact Or.inr rfl) (pe_lc (own := [("i", 5)]) B.calm sc_closed.nd (pi_range1 rfl T.m_range (pa_cons (pv 1) pa_nil)) (blkOk_by (own := [("i", 5)]) (by kernel_rfl)) (fun _ _ _ _ _ => pg_name sc_closed.nd rfl (by first | exact Or.inl rfl | exact Or.inr rfl)) (fun _ _ _ _ _ => pts_nil)
        (fun _ _ _ _ _ => pe_lc (own := [("j", 6)]) B.calm sc_closed.nd (pi_range1 rfl T.m_range (pa_cons (pv 1) pa_nil)) (blkOk_by (own := [("j", 6)]) (by kernel_rfl)) (fun _ _ _ _ _ => pg_name sc_closed.nd rfl (by first | exact Or.inl rfl | exact Or.inr rfl)) (fun _ _ _ _ _ => pts_nil)
          (fun _ _ _ _ _ => pe_cmpR (op_inA (hu65 B.room)) (pe_tup (pa_cons (pv 5) (pa_cons (pv 6) pa_nil))) (pv 0) (by rfl))))
    have p2 : PS (cxOf (L2.CX P w) P w K mg base n_closed "closed" (defScope s_closed) T.a_closed cdv A outer s H E) ((defBody s_closed).getD 1 (.Pass ⟨0, 0, 0, 0⟩)) (tFor tRg (gName 3) (tFor tRg (gName 5) (tFor tRg (gName 6) (tInner K)))) :=
      ps_for B.pass B.calm (pi_range1 rfl T.m_range (pa_cons (pv 1) pa_nil)) (pg_name sc_closed.nd rfl (by first | exact Or.inl rfl | exact Or.inr rfl)) (pss_one (ps_for B.pass B.calm (pi_range1 rfl T.m_range (pa_cons (pv 1) pa_nil)) (pg_name sc_closed.nd rfl (by first | exact Or.inl rfl | exact Or.inr rfl)) (pss_one (ps_for B.pass B.calm (pi_range1 rfl T.m_range (pa_cons (pv 1) pa_nil)) (pg_name sc_closed.nd rfl (by first | exact Or.inl rfl | exact Or.inr rfl)) (pss_one
        (ps_if (pw_and (pt_truth (pe_ix ix_seq (pe_ix ix_seq (pv 2) (pv 5) (fun _ _ => rfl)) (pv 3) (fun _ _ => rfl)) (by intro _; rfl)) (pw_and1 (pt_truth (pe_ix ix_seq (pe_ix ix_seq (pv 2) (pv 3) (fun _ _ => rfl)) (pv 6) (fun _ _ => rfl)) (by intro _; rfl)))).pt
          (pss_one (ps_asg pe_bl (pg_sub (pe_ix ix_seq (pv 2) (pv 5) (fun _ _ => rfl)) (pv 6) set_list (by intro _; rfl)))) pss_nil))))))
    refine ⟨_, pss_cons p1 (pss_cons p2 p3), ?_⟩
    unfold G_closed at e
    split at e
    · rename_i d m
      split at e
      · rename_i dd hs
        split at e
        · rename_i hc
          obtain ⟨n, rfl⟩ : ∃ n : Nat, m = (n : Int) := ⟨m.toNat, by omega⟩
          cases hd with
          | cons h0 hd =>
            cases hd with
            | cons h1 hd =>
              cases hd
              cases h1
              rename_i v0
              have hn : n ≤ 300 := by omega
              refine sim1 l h0 hs hc.2.2 hn fun p rows H1 X1 => ?_
              refine sim2 hn X1 fun x3 x5 x6 H2 X2 => ?_
              obtain ⟨z1, z2, z3⟩ := X2.frz (Z0 := Z) l
              have R : Rep K H2 (frzM Z H2 p rows) [some v0, some (.int n), some (.ref p), x3, none, x5, x6] (env3 d n (warsh n (mat0 n dd))) := by
                refine ⟨z2, rfl, fun i u hu => ?_, fun i u hu => ?_, fun i j us es q1 hu => ?_⟩
                · match i, hu with
                  | 0, hu => cases hu; exact ⟨v0, rfl, z1.dp _ _ h0⟩
                  | 1, hu => cases hu; exact ⟨.int n, rfl, .int n⟩
                  | 2, hu => cases hu; exact ⟨.ref p, rfl, X2.data⟩
                  | 3, hu => cases hu
                  | 4, hu => cases hu
                  | 5, hu => cases hu
                  | 6, hu => cases hu
                  | i + 7, hu => simp [env3] at hu
                · exact (env3_no i u hu).elim
                · exact (env3_no i us hu).elim
              have frT : ∀ {σ' env' H' Z'}, Step K [some v0, some (.int n), some (.ref p), x3, none, x5, x6] (env3 d n (warsh n (mat0 n dd))) H2 (frzM Z H2 p rows) σ' env' H' Z' → Fr0 none H Z H' Z' := fun S a o ha hne => by
                obtain ⟨b1, b2⟩ := z3 a o ha hne
                obtain ⟨c1, c2⟩ := S.fr a o b1 fun ⟨i, es, e1, _⟩ => env3_no i es e1
                exact ⟨c1, c2.trans b2⟩
              simp only [Int.toNat_natCast] at e
              split at e
              · rename_i ha
                cases e
                obtain ⟨e9, h9⟩ := cl3_err d X2.sq hn ha
                exact sim _ H2 _ _ R _ h9 _ fun c dx σ' H' Z' S1 _ i1 => q c dx H' Z' (frT S1) S1.rep.zh i1
              · rename_i ha
                cases e
                obtain ⟨e9, h9⟩ := cl3_ok d X2.sq hn (Bool.eq_false_iff.mpr ha)
                exact sim _ H2 _ _ R _ h9 _ fun v σ' H' Z' S1 _ i1 => q v H' Z' (frT S1) S1.rep.zh i1
        · cases e
      · cases e
    · cases e
end BV

namespace BV
open PySem PySem.Spec L2
open PyProof.Rows hiding St
variable {P : Program} {w : World} {K : Fg} {mg : Str → Option Value} {base : Heap}
theorem ok_with_more (T : Facts K mg) : FnOk P w K mg base (L2.CX P w) 1 T.a_with_more T.d_with_more ["known", "i", "j"] (spP K G_with_more) := by
  refine fn_P (g := g_with_more) G_with_more T.f_with_more sc_with_more (fun ds o e => ?_) (fun cdv A outer s H E B => ?_)
  · unfold G_with_more at e; split at e; exact ⟨by assumption, e⟩; cases e
  · exact sb_cons (ss_set 3 (by decide) sc_with_more.nd (se_bin op_plus od_plus (se_lst (sf_cons (se_var 1) (sf_nil))) (se_lc [("one", 6), ("other", 7)] B.calm sc_with_more.nd (si_seq (se_var 0)) (by decide) (blkOk_by (own := [("one", 6), ("other", 7)]) (by kernel_rfl)) (fun _ _ _ _ _ => sg_tup B.calm (sgs_cons (sg_name 6 sc_with_more.nd) (sgs_cons (sg_name 7 sc_with_more.nd) (sgs_nil))) (tl_2)) (fun _ _ _ _ _ => sts_one (st_cmp (op_eqD B.room.units) od_eq (nomark _) (se_var 7) (se_var 1))) (fun _ _ _ _ _ => se_var 6)))) (sb_cons (ss_set 4 (by decide) sc_with_more.nd (se_bin op_plus od_plus (se_lst (sf_cons (se_var 2) (sf_nil))) (se_lc [("one", 6), ("other", 7)] B.calm sc_with_more.nd (si_seq (se_var 0)) (by decide) (blkOk_by (own := [("one", 6), ("other", 7)]) (by kernel_rfl)) (fun _ _ _ _ _ => sg_tup B.calm (sgs_cons (sg_name 6 sc_with_more.nd) (sgs_cons (sg_name 7 sc_with_more.nd) (sgs_nil))) (tl_2)) (fun _ _ _ _ _ => sts_one (st_cmp (op_eqD B.room.units) od_eq (nomark _) (se_var 6) (se_var 2))) (fun _ _ _ _ _ => se_var 7)))) (sb_cons (ss_set 5 (by decide) sc_with_more.nd (se_callT call_list_of cd_list T.m_list (by decide +kernel) (sa_cons (se_var 0) (sa_nil)))) (sb_cons (ss_for B.calm B.pass (by decide) (si_seq (se_var 3)) (sg_name 6 sc_with_more.nd) (sb_one (ss_expr (se_mt 5 PySem.F.slot_list_extend PySem.F.type_list_extend mt_extendR md_extend (sf_cons (se_lc [("other", 7)] B.calm sc_with_more.nd (si_seq (se_var 4)) (by decide) (blkOk_by (own := [("other", 7)]) (by kernel_rfl)) (fun _ _ _ _ _ => sg_name 7 sc_with_more.nd) (fun _ _ _ _ _ => sts_one (st_cmp (op_notInA (hu65 B.room)) od_notIn (by rfl) (se_tup (sf_cons (se_var 6) (sf_cons (se_var 7) (sf_nil)))) (se_var 0))) (fun _ _ _ _ _ => se_tup (sf_cons (se_var 6) (sf_cons (se_var 7) (sf_nil))))) (sf_nil)))))) (sb_one (ss_ret (se_callT call_tuple_of cd_tuple T.m_tuple (by decide +kernel) (sa_cons (se_callB (cr_sortP B.room) cd_sortP T.m_sorted (by decide +kernel) (sa_cons (se_var 5) (sa_nil))) (sa_nil))))))))
theorem ok_both_ways (T : Facts K mg) : FnOk P w K mg base (L2.CX P w) 2 T.a_both_ways T.d_both_ways ["known", "i", "j"] (spP K G_both_ways) := by
  refine fn_P (g := g_both_ways) G_both_ways T.f_both_ways sc_both_ways (fun ds o e => ?_) (fun cdv A outer s H E B => ?_)
  · unfold G_both_ways at e; split at e; exact ⟨by assumption, e⟩; cases e
  · exact sb_one (ss_ret (se_tup (sf_cons (se_call (ok_with_more T) (B.room.mono (by decide)) T.g_with_more T.f_with_more.kp T.b_with_more B.tk (sf_cons (se_var 0) (sf_cons (se_var 1) (sf_cons (se_var 2) (sf_nil))))) (sf_cons (se_call (ok_with_more T) (B.room.mono (by decide)) T.g_with_more T.f_with_more.kp T.b_with_more B.tk (sf_cons (se_var 0) (sf_cons (se_var 2) (sf_cons (se_var 1) (sf_nil))))) (sf_nil)))))
theorem ok_not_parted (T : Facts K mg) : FnOk P w K mg base (L2.CX P w) 1 T.a_not_parted T.d_not_parted ["known", "many"] (spP K G_not_parted) := by
  refine fn_P (g := g_not_parted) G_not_parted T.f_not_parted sc_not_parted (fun ds o e => ?_) (fun cdv A outer s H E B => ?_)
  · unfold G_not_parted at e; split at e; exact ⟨by assumption, e⟩; cases e
  · exact sb_cons (ss_set 2 (by decide) sc_not_parted.nd (se_lst (sf_nil))) (sb_cons (ss_for B.calm B.pass (by decide) (si_range1 T.m_range (se_var 1)) (sg_name 3 sc_not_parted.nd) (sb_one (ss_expr (se_mt 2 PySem.F.slot_list_extend PySem.F.type_list_extend mt_extendR md_extend (sf_cons (se_lc [("i", 4)] B.calm sc_not_parted.nd (si_range1 T.m_range (se_var 3)) (by decide) (blkOk_by (own := [("i", 4)]) (by kernel_rfl)) (fun _ _ _ _ _ => sg_name 4 sc_not_parted.nd) (fun _ _ _ _ _ => sts_one (sw_st (sw_and (st_cmp (op_notInA (hu65 B.room)) od_notIn (by rfl) (se_tup (sf_cons (se_var 4) (sf_cons (se_var 3) (sf_nil)))) (se_var 0)) (sw_and1 (st_cmp (op_notInA (hu65 B.room)) od_notIn (by rfl) (se_tup (sf_cons (se_var 3) (sf_cons (se_var 4) (sf_nil)))) (se_var 0)))))) (fun _ _ _ _ _ => se_tup (sf_cons (se_var 4) (sf_cons (se_var 3) (sf_nil))))) (sf_nil)))))) (sb_one (ss_ret (se_var 2))))
theorem ok_is_known (T : Facts K mg) : FnOk P w K mg base (L2.CX P w) 2 T.a_is_known T.d_is_known ["known", "many"] (spP K G_is_known) := by
  refine fn_P (g := g_is_known) G_is_known T.f_is_known sc_is_known (fun ds o e => ?_) (fun cdv A outer s H E B => ?_)
  · unfold G_is_known at e; split at e; exact ⟨by assumption, e⟩; cases e
  · exact sb_cons (ss_try rfl rfl ⟨rfl, by decide, .inl T.c_Clash⟩ B.tk T.mt_Clash (fun W1 pn1 xe1 tk1 pw1 => sb_one (ss_set 2 (by decide) sc_is_known.nd (se_call (ok_closed T) (B.room.mono (by decide)) T.g_closed T.f_closed.kp T.b_closed tk1 (sf_cons (se_var 0) (sf_cons (se_var 1) (sf_nil)))))) (fun a1 oe1 cls1 d1 pn1 z1 f1 => sb_one (ss_ret (se_bl)))) (sb_one (ss_ret (se_cmp (op_eqD B.room.units) od_eq (nomark _) (se_var 2) (se_var 0))))
theorem ok_has_more (T : Facts K mg) : FnOk P w K mg base (L2.CX P w) 1 T.a_has_more T.d_has_more ["paper", "known", "number"] (spP K G_has_more) := by
  refine fn_P (g := g_has_more) G_has_more T.f_has_more sc_has_more (fun ds o e => ?_) (fun cdv A outer s H E B => ?_)
  · unfold G_has_more at e; split at e; exact ⟨by assumption, e⟩; cases e
  · exact sb_cons (ss_if (sw_st (sw_or (st_cmp (op_inA (hu65 B.room)) od_in (by rfl) (se_tup (sf_cons (se_var 1) (sf_cons (se_var 2) (sf_nil)))) (se_var 0)) (sw_or1 (st_cmp (op_inA (hu65 B.room)) od_in (by rfl) (se_tup (sf_cons (se_var 1) (sf_cons (se_bin op_plus od_plus (se_var 2) (se_int)) (sf_nil)))) (se_var 0))))) (sb_one (ss_ret (se_bl))) (sb_nil)) (sb_one (ss_ret (se_callB (cr_any B.calm) cd_any T.m_any (by decide +kernel) (sa_cons (se_lc [("some", 3), ("other", 4)] B.calm sc_has_more.nd (si_seq (se_var 0)) (by decide) (blkOk_by (own := [("some", 3), ("other", 4)]) (by kernel_rfl)) (fun _ _ _ _ _ => sg_tup B.calm (sgs_cons (sg_name 3 sc_has_more.nd) (sgs_cons (sg_name 4 sc_has_more.nd) (sgs_nil))) (tl_2)) (fun _ _ _ _ _ => sts_nil) (fun _ _ _ _ _ => se_and (se_cmp op_ge od_ge (nomark _) (se_var 4) (se_var 2)) (se_one (se_callB (cr_all B.calm) cd_all T.m_all (by decide +kernel) (sa_cons (se_lc [("pair", 5)] B.calm sc_has_more.nd (si_seq (se_var 1)) (by decide) (blkOk_by (own := [("pair", 5)]) (by kernel_rfl)) (fun _ _ _ _ _ => sg_name 5 sc_has_more.nd) (fun _ _ _ _ _ => sts_nil) (fun _ _ _ _ _ => se_cmp (op_inA (hu65 B.room)) od_in (by rfl) (se_var 5) (se_var 3))) (sa_nil)))))) (sa_nil)))))
theorem ok_bound_shown (T : Facts K mg) : FnOk P w K mg base (L2.CX P w) 3 T.a_bound_shown T.d_bound_shown ["paper", "many"] (spP K G_bound_shown) := by
  refine fn_P (g := g_bound_shown) G_bound_shown T.f_bound_shown sc_bound_shown (fun ds o e => ?_) (fun cdv A outer s H E B => ?_)
  · unfold G_bound_shown at e; split at e; exact ⟨by assumption, e⟩; cases e
  · exact sb_cons (ss_for B.calm B.pass (by decide) (si_seq (se_var 0)) (sg_tup B.calm (sgs_cons (sg_name 2 sc_bound_shown.nd) (sgs_cons (sg_name 3 sc_bound_shown.nd) (sgs_nil))) (tl_2)) (sb_one (ss_if (sw_st (sw_or (st_cmp op_lt od_lt (nomark _) (se_var 3) (se_int)) (sw_or1 (st_not (st_tru (se_callS (ok_is_known T) (B.room.mono (by decide)) T.g_is_known T.f_is_known.kp T.b_is_known B.tk (sa_cons (se_var 2) (sa_cons (se_var 1) (sa_nil))))))))) (sb_one (ss_ret (se_bl))) (sb_nil)))) (sb_cons (ss_for B.calm B.pass (by decide) (si_seq (se_var 0)) (sg_tup B.calm (sgs_cons (sg_name 2 sc_bound_shown.nd) (sgs_cons (sg_name 3 sc_bound_shown.nd) (sgs_nil))) (tl_2)) (sb_cons (ss_set 4 (by decide) sc_bound_shown.nd (se_call (ok_not_parted T) (B.room.mono (by decide)) T.g_not_parted T.f_not_parted.kp T.b_not_parted B.tk (sf_cons (se_var 2) (sf_cons (se_var 1) (sf_nil))))) (sb_cons (ss_if (sw_st (sw_and (st_cmp op_gt od_gt (nomark _) (se_var 3) (se_int)) (sw_and1 (st_cmp (op_eqD B.room.units) od_eq (nomark _) (se_var 4) (se_lst (sf_nil)))))) (sb_one (ss_ret (se_bl))) (sb_nil)) (sb_one (ss_if (st_cmp op_gt od_gt (nomark _) (se_var 3) (se_int)) (sb_one (ss_for B.calm B.pass (by decide) (si_seq (se_var 4)) (sg_tup B.calm (sgs_cons (sg_name 5 sc_bound_shown.nd) (sgs_cons (sg_name 6 sc_bound_shown.nd) (sgs_nil))) (tl_2)) (sb_one (ss_if (st_not (st_tru (se_callB (cr_any B.calm) cd_any T.m_any (by decide +kernel) (sa_cons (se_lc [("some", 7)] B.calm sc_bound_shown.nd (si_seq (se_call (ok_both_ways T) (B.room.mono (by decide)) T.g_both_ways T.f_both_ways.kp T.b_both_ways B.tk (sf_cons (se_var 2) (sf_cons (se_var 5) (sf_cons (se_var 6) (sf_nil)))))) (by decide) (blkOk_by (own := [("some", 7)]) (by kernel_rfl)) (fun _ _ _ _ _ => sg_name 7 sc_bound_shown.nd) (fun _ _ _ _ _ => sts_nil) (fun _ _ _ _ _ => se_callS (ok_has_more T) (B.room.mono (by decide)) T.g_has_more T.f_has_more.kp T.b_has_more takes0 (sa_cons (se_var 0) (sa_cons (se_var 7) (sa_cons (se_bin op_sub od_sub (se_var 3) (se_int)) (sa_nil)))))) (sa_nil))))) (sb_one (ss_ret (se_bl))) (sb_nil))))) (sb_nil)))))) (sb_one (ss_ret (se_bl))))
theorem ok__law_next (T : Facts K mg) : FnOk P w K mg base (L2.CX P w) 1 T.a__law_next T.d__law_next ["deck"] (spM K G__law_next) := by
  refine fn_M (g := g__law_next) G__law_next T.f__law_next sc__law_next (by decide) (fun d0 ds o e => ?_) (fun cdv A outer s H E B => ?_)
  · unfold G__law_next at e; split at e; exact ⟨by assumption, e⟩; cases e
  · exact sb_cons (ss_set 1 (by decide) sc__law_next.nd (se_ix (fun _ _ => rfl) (se_var 0) (se_int))) (sb_cons (ss_set 2 (by decide) sc__law_next.nd (se_ix (fun _ _ => rfl) (se_var 0) (se_int))) (sb_cons (ss_setIx 0 (se_bin op_plus od_plus (se_var 2) (se_int)) (se_int)) (sb_cons (ss_if (st_cmp op_lt od_lt (nomark _) (se_var 2) (se_callB call_len_seq cd_len T.m_len (by decide +kernel) (sa_cons (se_var 1) (sa_nil)))) (sb_one (ss_ret (se_ix (fun _ _ => rfl) (se_var 1) (se_var 2)))) (sb_nil)) (sb_cons (ss_if (st_cmp (op_eqD B.room.units) od_eq (nomark _) (se_callB call_len_seq cd_len T.m_len (by decide +kernel) (sa_cons (se_var 1) (sa_nil))) (se_int)) (sb_one (ss_ret (se_bin op_plus od_plus (se_bin op_mulA od_mulA (se_bin op_mulA od_mulA (se_var 2) (se_var 2)) (se_int)) (se_var 2)))) (sb_nil)) (sb_cons (ss_set 3 (by decide) sc__law_next.nd (se_bin op_modN od_mod (se_bin op_mulA od_mulA (se_bin op_plus od_plus (se_bin op_plus od_plus (se_bin op_modN od_mod (se_ix (fun _ _ => rfl) (se_var 1) (se_bin op_modN od_mod (se_var 2) (se_callB call_len_seq cd_len T.m_len (by decide +kernel) (sa_cons (se_var 1) (sa_nil))))) (se_int)) (se_bin op_mulA od_mulA (se_var 2) (se_int))) (se_int)) (se_int)) (se_int))) (sb_one (ss_ret (se_bin op_modN od_mod (se_bin op_mulA od_mulA (se_var 3) (se_var 3)) (se_int)))))))))
theorem ok__law_closed (T : Facts K mg) : FnOk P w K mg base (L2.CX P w) 1 T.a__law_closed T.d__law_closed ["pairs"] (spP K G__law_closed) := by
  refine fn_P (g := g__law_closed) G__law_closed T.f__law_closed sc__law_closed (fun ds o e => ?_) (fun cdv A outer s H E B => ?_)
  · unfold G__law_closed at e; split at e; exact ⟨by assumption, e⟩; cases e
  · exact sb_cons (ss_set 1 (by decide) sc__law_closed.nd (se_sortset B.calm B.room T.m_sorted T.m_set (sa_cons (se_var 0) (sa_nil)))) (sb_cons (ss_set 2 (by decide) sc__law_closed.nd (se_bl)) (sb_cons (ss_while 1000 B.pass (st_tru (se_var 2)) (sb_cons (ss_set 3 (by decide) sc__law_closed.nd (se_lst (sf_nil))) (sb_cons (ss_for B.calm B.pass (by decide) (si_seq (se_var 1)) (sg_tup B.calm (sgs_cons (sg_name 4 sc__law_closed.nd) (sgs_cons (sg_name 5 sc__law_closed.nd) (sgs_nil))) (tl_2)) (sb_one (ss_set 3 (by decide) sc__law_closed.nd (se_bin op_plus od_plus (se_var 3) (se_lc [("k", 6), ("l", 7)] B.calm sc__law_closed.nd (si_seq (se_var 1)) (by decide) (blkOk_by (own := [("k", 6), ("l", 7)]) (by kernel_rfl)) (fun _ _ _ _ _ => sg_tup B.calm (sgs_cons (sg_name 6 sc__law_closed.nd) (sgs_cons (sg_name 7 sc__law_closed.nd) (sgs_nil))) (tl_2)) (fun _ _ _ _ _ => sts_one (sw_st (sw_and (st_cmp (op_eqD B.room.units) od_eq (nomark _) (se_var 5) (se_var 6)) (sw_and1 (st_cmp (op_notInA (hu65 B.room)) od_notIn (by rfl) (se_tup (sf_cons (se_var 4) (sf_cons (se_var 7) (sf_nil)))) (se_var 1)))))) (fun _ _ _ _ _ => se_tup (sf_cons (se_var 4) (sf_cons (se_var 7) (sf_nil))))))))) (sb_cons (ss_set 2 (by decide) sc__law_closed.nd (se_cmp (op_neD B.room.units) od_ne (nomark _) (se_var 3) (se_lst (sf_nil)))) (sb_one (ss_set 1 (by decide) sc__law_closed.nd (se_sortset B.calm B.room T.m_sorted T.m_set (sa_cons (se_bin op_plus od_plus (se_var 1) (se_var 3)) (sa_nil))))))))) (sb_one (ss_ret (se_callT call_tuple_of cd_tuple T.m_tuple (by decide +kernel) (sa_cons (se_var 1) (sa_nil)))))))
theorem ok__law_good (T : Facts K mg) : FnOk P w K mg base (L2.CX P w) 1 T.a__law_good T.d__law_good ["known"] (spP K G__law_good) := by
  refine fn_P (g := g__law_good) G__law_good T.f__law_good sc__law_good (fun ds o e => ?_) (fun cdv A outer s H E B => ?_)
  · unfold G__law_good at e; split at e; exact ⟨by assumption, e⟩; cases e
  · exact sb_one (ss_ret (se_cmp (op_eqD B.room.units) od_eq (nomark _) (se_lc [("pair", 1)] B.calm sc__law_good.nd (si_seq (se_var 0)) (by decide) (blkOk_by (own := [("pair", 1)]) (by kernel_rfl)) (fun _ _ _ _ _ => sg_name 1 sc__law_good.nd) (fun _ _ _ _ _ => sts_one (st_cmp (op_eqD B.room.units) od_eq (nomark _) (se_ix (fun _ _ => rfl) (se_var 1) (se_int)) (se_ix (fun _ _ => rfl) (se_var 1) (se_int)))) (fun _ _ _ _ _ => se_var 1)) (se_lst (sf_nil))))
theorem ok__law_turn (T : Facts K mg) : FnOk P w K mg base (L2.CX P w) 2 T.a__law_turn T.d__law_turn ["deck", "many"] (spM K G__law_turn) := by
  refine fn_M (g := g__law_turn) G__law_turn T.f__law_turn sc__law_turn (by decide) (fun d0 ds o e => ?_) (fun cdv A outer s H E B => ?_)
  · unfold G__law_turn at e; split at e; exact ⟨by assumption, e⟩; cases e
  · exact sb_cons (ss_set 2 (by decide) sc__law_turn.nd (se_listrange B.calm T.m_list T.m_range (se_var 1))) (sb_cons (ss_set 3 (by decide) sc__law_turn.nd (se_lst (sf_nil))) (sb_cons (ss_while 20 B.pass (st_cmp (op_neD B.room.units) od_ne (nomark _) (se_var 2) (se_lst (sf_nil))) (sb_one (ss_expr (se_mt 3 PySem.F.slot_list_append PySem.F.type_list_append mt_append md_append (sf_cons (se_mt 2 PySem.F.slot_list_pop PySem.F.type_list_pop mt_popAt md_popAt (sf_cons (se_bin op_modN od_mod (se_callM 0 (ok__law_next T) (B.room.mono (by decide)) T.g__law_next T.f__law_next.kp T.b__law_next B.tk (sf_nil)) (se_callB call_len_seq cd_len T.m_len (by decide +kernel) (sa_cons (se_var 2) (sa_nil)))) (sf_nil))) (sf_nil)))))) (sb_one (ss_ret (se_var 3)))))
theorem ok__law_known (T : Facts K mg) : FnOk P w K mg base (L2.CX P w) 3 T.a__law_known T.d__law_known ["deck", "many"] (spM K G__law_known) := by
  refine fn_M (g := g__law_known) G__law_known T.f__law_known sc__law_known (by decide) (fun d0 ds o e => ?_) (fun cdv A outer s H E B => ?_)
  · unfold G__law_known at e; split at e; exact ⟨by assumption, e⟩; cases e
  · exact sb_cons (ss_set 2 (by decide) sc__law_known.nd (se_callM 0 (ok__law_turn T) (B.room.mono (by decide)) T.g__law_turn T.f__law_turn.kp T.b__law_turn B.tk (sf_cons (se_var 1) (sf_nil)))) (sb_cons (ss_set 3 (by decide) sc__law_known.nd (se_lst (sf_nil))) (sb_cons (ss_for B.calm B.pass (by decide) (si_range1 T.m_range (se_bin op_mulA od_mulA (se_bin op_modN od_mod (se_callM 0 (ok__law_next T) (B.room.mono (by decide)) T.g__law_next T.f__law_next.kp T.b__law_next B.tk (sf_nil)) (se_bin op_plus od_plus (se_var 1) (se_int))) (se_callT call_int1 cd_int T.m_int (by decide +kernel) (sa_cons (se_cmp op_gt od_gt (nomark _) (se_var 1) (se_int)) (sa_nil))))) (sg_name 4 sc__law_known.nd) (sb_cons (ss_set 5 (by decide) sc__law_known.nd (se_callM 0 (ok__law_next T) (B.room.mono (by decide)) T.g__law_next T.f__law_next.kp T.b__law_next B.tk (sf_nil))) (sb_cons (ss_set 6 (by decide) sc__law_known.nd (se_bin op_plus od_plus (se_int) (se_bin op_modN od_mod (se_var 5) (se_bin op_sub od_sub (se_var 1) (se_int))))) (sb_one (ss_expr (se_mt 3 PySem.F.slot_list_append PySem.F.type_list_append mt_append md_append (sf_cons (se_tup (sf_cons (se_ix (fun _ _ => rfl) (se_var 2) (se_bin op_modN od_mod (se_bin op_fdivN od_div (se_var 5) (se_var 1)) (se_var 6))) (sf_cons (se_ix (fun _ _ => rfl) (se_var 2) (se_var 6)) (sf_nil)))) (sf_nil)))))))) (sb_one (ss_ret (se_call (ok__law_closed T) (B.room.mono (by decide)) T.g__law_closed T.f__law_closed.kp T.b__law_closed B.tk (sf_cons (se_var 3) (sf_nil)))))))
theorem ok__law_open (T : Facts K mg) : FnOk P w K mg base (L2.CX P w) 1 T.a__law_open T.d__law_open ["known", "many"] (spP K G__law_open) := by
  refine fn_P (g := g__law_open) G__law_open T.f__law_open sc__law_open (fun ds o e => ?_) (fun cdv A outer s H E B => ?_)
  · unfold G__law_open at e; split at e; exact ⟨by assumption, e⟩; cases e
  · exact sb_cons (ss_set 2 (by decide) sc__law_open.nd (se_lst (sf_nil))) (sb_cons (ss_for B.calm B.pass (by decide) (si_range1 T.m_range (se_var 1)) (sg_name 3 sc__law_open.nd) (sb_one (ss_set 2 (by decide) sc__law_open.nd (se_bin op_plus od_plus (se_var 2) (se_lc [("i", 4)] B.calm sc__law_open.nd (si_range1 T.m_range (se_var 3)) (by decide) (blkOk_by (own := [("i", 4)]) (by kernel_rfl)) (fun _ _ _ _ _ => sg_name 4 sc__law_open.nd) (fun _ _ _ _ _ => sts_one (sw_st (sw_and (st_cmp (op_notInA (hu65 B.room)) od_notIn (by rfl) (se_tup (sf_cons (se_var 4) (sf_cons (se_var 3) (sf_nil)))) (se_var 0)) (sw_and1 (st_cmp (op_notInA (hu65 B.room)) od_notIn (by rfl) (se_tup (sf_cons (se_var 3) (sf_cons (se_var 4) (sf_nil)))) (se_var 0)))))) (fun _ _ _ _ _ => se_tup (sf_cons (se_var 4) (sf_cons (se_var 3) (sf_nil))))))))) (sb_one (ss_ret (se_var 2))))
theorem ok__law_within (T : Facts K mg) : FnOk P w K mg base (L2.CX P w) 1 T.a__law_within T.d__law_within ["one", "some"] (spP K G__law_within) := by
  refine fn_P (g := g__law_within) G__law_within T.f__law_within sc__law_within (fun ds o e => ?_) (fun cdv A outer s H E B => ?_)
  · unfold G__law_within at e; split at e; exact ⟨by assumption, e⟩; cases e
  · exact sb_one (ss_ret (se_callB (cr_any B.calm) cd_any T.m_any (by decide +kernel) (sa_cons (se_lc [("more", 2)] B.calm sc__law_within.nd (si_seq (se_var 1)) (by decide) (blkOk_by (own := [("more", 2)]) (by kernel_rfl)) (fun _ _ _ _ _ => sg_name 2 sc__law_within.nd) (fun _ _ _ _ _ => sts_nil) (fun _ _ _ _ _ => se_callB (cr_all B.calm) cd_all T.m_all (by decide +kernel) (sa_cons (se_lc [("pair", 3)] B.calm sc__law_within.nd (si_seq (se_var 2)) (by decide) (blkOk_by (own := [("pair", 3)]) (by kernel_rfl)) (fun _ _ _ _ _ => sg_name 3 sc__law_within.nd) (fun _ _ _ _ _ => sts_nil) (fun _ _ _ _ _ => se_cmp (op_inA (hu65 B.room)) od_in (by rfl) (se_var 3) (se_var 0))) (sa_nil)))) (sa_nil))))
theorem ok__law_pair_good (T : Facts K mg) : FnOk P w K mg base (L2.CX P w) 2 T.a__law_pair_good T.d__law_pair_good ["known", "number", "paper", "many"] (spP K G__law_pair_good) := by
  refine fn_P (g := g__law_pair_good) G__law_pair_good T.f__law_pair_good sc__law_pair_good (fun ds o e => ?_) (fun cdv A outer s H E B => ?_)
  · unfold G__law_pair_good at e; split at e; exact ⟨by assumption, e⟩; cases e
  · exact sb_cons (ss_if (st_cmp op_lt od_lt (nomark _) (se_var 1) (se_int)) (sb_one (ss_ret (se_bl))) (sb_nil)) (sb_cons (ss_if (sw_st (sw_or (st_cmp (op_neD B.room.units) od_ne (nomark _) (se_var 0) (se_call (ok__law_closed T) (B.room.mono (by decide)) T.g__law_closed T.f__law_closed.kp T.b__law_closed B.tk (sf_cons (se_var 0) (sf_nil)))) (sw_or1 (st_not (st_tru (se_callS (ok__law_good T) (B.room.mono (by decide)) T.g__law_good T.f__law_good.kp T.b__law_good B.tk (sa_cons (se_var 0) (sa_nil)))))))) (sb_one (ss_ret (se_bl))) (sb_nil)) (sb_cons (ss_set 4 (by decide) sc__law_pair_good.nd (se_call (ok__law_open T) (B.room.mono (by decide)) T.g__law_open T.f__law_open.kp T.b__law_open B.tk (sf_cons (se_var 0) (sf_cons (se_var 3) (sf_nil))))) (sb_cons (ss_if (sw_st (sw_and (st_cmp op_gt od_gt (nomark _) (se_var 1) (se_int)) (sw_and1 (st_cmp (op_eqD B.room.units) od_eq (nomark _) (se_var 4) (se_lst (sf_nil)))))) (sb_one (ss_ret (se_bl))) (sb_nil)) (sb_cons (ss_for B.calm B.pass (by decide) (si_seq (se_bin op_mulA od_mulA (se_var 4) (se_callT call_int1 cd_int T.m_int (by decide +kernel) (sa_cons (se_cmp op_gt od_gt (nomark _) (se_var 1) (se_int)) (sa_nil))))) (sg_tup B.calm (sgs_cons (sg_name 5 sc__law_pair_good.nd) (sgs_cons (sg_name 6 sc__law_pair_good.nd) (sgs_nil))) (tl_2)) (sb_cons (ss_set 7 (by decide) sc__law_pair_good.nd (se_lst (sf_cons (se_call (ok__law_closed T) (B.room.mono (by decide)) T.g__law_closed T.f__law_closed.kp T.b__law_closed B.tk (sf_cons (se_bin op_plus od_plus (se_var 0) (se_tup (sf_cons (se_tup (sf_cons (se_var 5) (sf_cons (se_var 6) (sf_nil)))) (sf_nil)))) (sf_nil))) (sf_cons (se_call (ok__law_closed T) (B.room.mono (by decide)) T.g__law_closed T.f__law_closed.kp T.b__law_closed B.tk (sf_cons (se_bin op_plus od_plus (se_var 0) (se_tup (sf_cons (se_tup (sf_cons (se_var 6) (sf_cons (se_var 5) (sf_nil)))) (sf_nil)))) (sf_nil))) (sf_nil))))) (sb_one (ss_if (st_cmp (op_eqD B.room.units) od_eq (nomark _) (se_lc [("one", 8), ("other", 9)] B.calm sc__law_pair_good.nd (si_seq (se_var 2)) (by decide) (blkOk_by (own := [("one", 8), ("other", 9)]) (by kernel_rfl)) (fun _ _ _ _ _ => sg_tup B.calm (sgs_cons (sg_name 8 sc__law_pair_good.nd) (sgs_cons (sg_name 9 sc__law_pair_good.nd) (sgs_nil))) (tl_2)) (fun _ _ _ _ _ => sts_one (sw_st (sw_and (st_cmp op_ge od_ge (nomark _) (se_var 9) (se_bin op_sub od_sub (se_var 1) (se_int))) (sw_and1 (st_tru (se_callS (ok__law_within T) (B.room.mono (by decide)) T.g__law_within T.f__law_within.kp T.b__law_within takes0 (sa_cons (se_var 8) (sa_cons (se_var 7) (sa_nil))))))))) (fun _ _ _ _ _ => se_int)) (se_lst (sf_nil))) (sb_one (ss_ret (se_bl))) (sb_nil))))) (sb_one (ss_ret (se_bl)))))))
theorem ok__law_paper (T : Facts K mg) : FnOk P w K mg base (L2.CX P w) 4 T.a__law_paper T.d__law_paper ["deck", "many"] (spM K G__law_paper) := by
  refine fn_M (g := g__law_paper) G__law_paper T.f__law_paper sc__law_paper (by decide) (fun d0 ds o e => ?_) (fun cdv A outer s H E B => ?_)
  · unfold G__law_paper at e; split at e; exact ⟨by assumption, e⟩; cases e
  · exact sb_cons (ss_set 2 (by decide) sc__law_paper.nd (se_lst (sf_nil))) (sb_cons (ss_for B.calm B.pass (by decide) (si_range1 T.m_range (se_bin op_modN od_mod (se_callM 0 (ok__law_next T) (B.room.mono (by decide)) T.g__law_next T.f__law_next.kp T.b__law_next B.tk (sf_nil)) (se_int))) (sg_name 3 sc__law_paper.nd) (sb_cons (ss_set 4 (by decide) sc__law_paper.nd (se_callM 0 (ok__law_known T) (B.room.mono (by decide)) T.g__law_known T.f__law_known.kp T.b__law_known B.tk (sf_cons (se_var 1) (sf_nil)))) (sb_cons (ss_set 6 (by decide) sc__law_paper.nd (se_ix (fun _ _ => rfl) (se_lc [("number", 5)] B.calm sc__law_paper.nd (si_range1 T.m_range (se_int)) (by decide) (blkOk_by (own := [("number", 5)]) (by kernel_rfl)) (fun _ _ _ _ _ => sg_name 5 sc__law_paper.nd) (fun _ _ _ _ _ => sts_one (st_tru (se_callS (ok__law_pair_good T) (B.room.mono (by decide)) T.g__law_pair_good T.f__law_pair_good.kp T.b__law_pair_good takes0 (sa_cons (se_var 4) (sa_cons (se_var 5) (sa_cons (se_var 2) (sa_cons (se_var 1) (sa_nil)))))))) (fun _ _ _ _ _ => se_var 5)) (se_neg (se_int)))) (sb_one (ss_expr (se_mt 2 PySem.F.slot_list_append PySem.F.type_list_append mt_append md_append (sf_cons (se_tup (sf_cons (se_var 4) (sf_cons (se_ix (fun _ _ => rfl) (se_lst (sf_cons (se_var 6) (sf_cons (se_bin op_modN od_mod (se_callM 0 (ok__law_next T) (B.room.mono (by decide)) T.g__law_next T.f__law_next.kp T.b__law_next B.tk (sf_nil)) (se_int)) (sf_nil)))) (se_callT call_int1 cd_int T.m_int (by decide +kernel) (sa_cons (se_cmp (op_eqD B.room.units) od_eq (nomark _) (se_bin op_modN od_mod (se_callM 0 (ok__law_next T) (B.room.mono (by decide)) T.g__law_next T.f__law_next.kp T.b__law_next B.tk (sf_nil)) (se_int)) (se_int)) (sa_nil)))) (sf_nil)))) (sf_nil)))))))) (sb_cons (ss_set 4 (by decide) sc__law_paper.nd (se_tup (sf_nil))) (sb_cons (ss_set 5 (by decide) sc__law_paper.nd (se_int)) (sb_cons (ss_while 20 B.pass (sw_st (sw_and (st_cmp op_lt od_lt (nomark _) (se_var 5) (se_int)) (sw_and1 (st_cmp op_gt od_gt (nomark _) (se_bin op_modN od_mod (se_callM 0 (ok__law_next T) (B.room.mono (by decide)) T.g__law_next T.f__law_next.kp T.b__law_next B.tk (sf_nil)) (se_int)) (se_int))))) (sb_cons (ss_for B.calm B.pass (by decide) (si_seq (se_call (ok__law_open T) (B.room.mono (by decide)) T.g__law_open T.f__law_open.kp T.b__law_open B.tk (sf_cons (se_var 4) (sf_cons (se_var 1) (sf_nil))))) (sg_tup B.calm (sgs_cons (sg_name 7 sc__law_paper.nd) (sgs_cons (sg_name 8 sc__law_paper.nd) (sgs_nil))) (tl_2)) (sb_one (ss_expr (se_mt 2 PySem.F.slot_list_append PySem.F.type_list_append mt_append md_append (sf_cons (se_tup (sf_cons (se_call (ok__law_closed T) (B.room.mono (by decide)) T.g__law_closed T.f__law_closed.kp T.b__law_closed B.tk (sf_cons (se_bin op_plus od_plus (se_var 4) (se_tup (sf_cons (se_tup (sf_cons (se_var 7) (sf_cons (se_var 8) (sf_nil)))) (sf_nil)))) (sf_nil))) (sf_cons (se_var 5) (sf_nil)))) (sf_nil)))))) (sb_cons (ss_set 5 (by decide) sc__law_paper.nd (se_bin op_plus od_plus (se_var 5) (se_int))) (sb_one (ss_expr (se_mt 2 PySem.F.slot_list_append PySem.F.type_list_append mt_append md_append (sf_cons (se_tup (sf_cons (se_var 4) (sf_cons (se_var 5) (sf_nil)))) (sf_nil)))))))) (sb_one (ss_ret (se_callT call_tuple_of cd_tuple T.m_tuple (by decide +kernel) (sa_cons (se_var 2) (sa_nil)))))))))
theorem ok__law_spoilt (T : Facts K mg) : FnOk P w K mg base (L2.CX P w) 4 T.a__law_spoilt T.d__law_spoilt ["deck", "paper", "many"] (spM K G__law_spoilt) := by
  refine fn_M (g := g__law_spoilt) G__law_spoilt T.f__law_spoilt sc__law_spoilt (by decide) (fun d0 ds o e => ?_) (fun cdv A outer s H E B => ?_)
  · unfold G__law_spoilt at e; split at e; exact ⟨by assumption, e⟩; cases e
  · exact sb_cons (ss_set 3 (by decide) sc__law_spoilt.nd (se_callM 0 (ok__law_next T) (B.room.mono (by decide)) T.g__law_next T.f__law_next.kp T.b__law_next B.tk (sf_nil))) (sb_cons (ss_set 4 (by decide) sc__law_spoilt.nd (se_bin op_modN od_mod (se_bin op_fdivN od_div (se_var 3) (se_int)) (se_callB (call_max2 B.calm) cd_max2 T.m_max (by decide +kernel) (sa_cons (se_int) (sa_cons (se_callB call_len_seq cd_len T.m_len (by decide +kernel) (sa_cons (se_var 1) (sa_nil))) (sa_nil)))))) (sb_cons (ss_if (sw_st (sw_or (st_cmp (op_eqD B.room.units) od_eq (nomark _) (se_var 1) (se_tup (sf_nil))) (sw_or1 (st_cmp (op_eqD B.room.units) od_eq (nomark _) (se_bin op_modN od_mod (se_var 3) (se_int)) (se_int))))) (sb_one (ss_ret (se_bin op_plus od_plus (se_var 1) (se_tup (sf_cons (se_tup (sf_cons (se_callM 0 (ok__law_known T) (B.room.mono (by decide)) T.g__law_known T.f__law_known.kp T.b__law_known B.tk (sf_cons (se_var 2) (sf_nil))) (sf_cons (se_bin op_modN od_mod (se_bin op_fdivN od_div (se_var 3) (se_int)) (se_int)) (sf_nil)))) (sf_nil)))))) (sb_nil)) (sb_cons (ss_asg (by decide) (se_ix (fun _ _ => rfl) (se_var 1) (se_var 4)) (sg_tup B.calm (sgs_cons (sg_name 5 sc__law_spoilt.nd) (sgs_cons (sg_name 6 sc__law_spoilt.nd) (sgs_nil))) (tl_2))) (sb_cons (ss_if (st_cmp op_lt od_lt (nomark _) (se_bin op_modN od_mod (se_var 3) (se_int)) (se_int)) (sb_one (ss_set 6 (by decide) sc__law_spoilt.nd (se_ix (fun _ _ => rfl) (se_lst (sf_cons (se_bin op_plus od_plus (se_var 6) (se_int)) (sf_cons (se_bin op_sub od_sub (se_var 6) (se_int)) (sf_cons (se_neg (se_int)) (sf_cons (se_bin op_pow od_pow (se_int) (se_int)) (sf_cons (se_int) (sf_nil))))))) (se_bin op_modN od_mod (se_bin op_fdivN od_div (se_var 3) (se_int)) (se_int))))) (sb_one (ss_if (st_cmp (op_eqD B.room.units) od_eq (nomark _) (se_bin op_modN od_mod (se_var 3) (se_int)) (se_int)) (sb_one (ss_ret (se_bin op_plus od_plus (se_slice (se_var 1) (sp_no) (sp_some (se_var 4))) (se_slice (se_var 1) (sp_some (se_bin op_plus od_plus (se_var 4) (se_int))) (sp_no))))) (sb_one (ss_if (st_cmp (op_eqD B.room.units) od_eq (nomark _) (se_bin op_modN od_mod (se_var 3) (se_int)) (se_int)) (sb_one (ss_set 5 (by decide) sc__law_spoilt.nd (se_callM 0 (ok__law_known T) (B.room.mono (by decide)) T.g__law_known T.f__law_known.kp T.b__law_known B.tk (sf_cons (se_var 2) (sf_nil))))) (sb_one (ss_if (st_cmp (op_eqD B.room.units) od_eq (nomark _) (se_bin op_modN od_mod (se_var 3) (se_int)) (se_int)) (sb_one (ss_set 5 (by decide) sc__law_spoilt.nd (se_ix (fun _ _ => rfl) (se_lst (sf_cons (se_rev (se_var 5)) (sf_cons (se_slice (se_var 5) (sp_no) (sp_some (se_neg (se_int)))) (sf_cons (se_bin op_plus od_plus (se_var 5) (se_slice (se_var 5) (sp_no) (sp_some (se_int)))) (sf_cons (se_bin op_plus od_plus (se_slice (se_var 5) (sp_some (se_int)) (sp_no)) (se_slice (se_var 5) (sp_no) (sp_some (se_int)))) (sf_nil)))))) (se_bin op_modN od_mod (se_bin op_fdivN od_div (se_var 3) (se_int)) (se_int))))) (sb_one (ss_if (sw_st (sw_and (st_cmp (op_eqD B.room.units) od_eq (nomark _) (se_bin op_modN od_mod (se_var 3) (se_int)) (se_int)) (sw_and1 (st_cmp op_gt od_gt (nomark _) (se_var 2) (se_int))))) (sb_one (ss_set 5 (by decide) sc__law_spoilt.nd (se_bin op_plus od_plus (se_var 5) (se_tup (sf_cons (se_tup (sf_cons (se_bin op_modN od_mod (se_bin op_fdivN od_div (se_var 3) (se_int)) (se_var 2)) (sf_cons (se_bin op_modN od_mod (se_bin op_fdivN od_div (se_var 3) (se_int)) (se_var 2)) (sf_nil)))) (sf_nil)))))) (sb_one (ss_set 5 (by decide) sc__law_spoilt.nd (se_callT call_tuple_of cd_tuple T.m_tuple (by decide +kernel) (sa_cons (se_lc [("pair", 7)] B.calm sc__law_spoilt.nd (si_seq (se_var 5)) (by decide) (blkOk_by (own := [("pair", 7)]) (by kernel_rfl)) (fun _ _ _ _ _ => sg_name 7 sc__law_spoilt.nd) (fun _ _ _ _ _ => sts_nil) (fun _ _ _ _ _ => se_rev (se_var 7))) (sa_nil)))))))))))))) (sb_one (ss_ret (se_bin op_plus od_plus (se_bin op_plus od_plus (se_slice (se_var 1) (sp_no) (sp_some (se_var 4))) (se_tup (sf_cons (se_tup (sf_cons (se_var 5) (sf_cons (se_var 6) (sf_nil)))) (sf_nil)))) (se_slice (se_var 1) (sp_some (se_bin op_plus od_plus (se_var 4) (se_int))) (sp_no)))))))))
theorem ok_law (T : Facts K mg) (hG : ∀ ns : List Int, ns.length ≤ 63 → ∃ e, g_law (envL 12 ns) = some (.ok (.rt (.val (.imm (.bool true)))) e)) : FnOk P w K mg base (L2.CX P w) 5 T.a_law T.d_law ["script"] (spL K) := by
  refine fn_L (g := g_law) T.f_law sc_law rfl (by decide) rfl hG (fun cdv A outer s H E B => ?_)
  exact ⟨ps_set (i := 1) sc_law.nd rfl (.inl rfl) (pe_lst (pa_cons (pe_slice sl_list (pv 0) po_none (po_some pe_int)) (pa_cons pe_int pa_nil))), sb_cons (ss_for B.calm B.pass (by decide) (si_range1 T.m_range (se_int)) (sg_name 2 sc_law.nd) (sb_cons (ss_set 3 (by decide) sc_law.nd (se_ix (fun _ _ => rfl) (se_lst (sf_cons (se_bin op_plus od_plus (se_int) (se_bin op_modN od_mod (se_callM 1 (ok__law_next T) (B.room.mono (by decide)) T.g__law_next T.f__law_next.kp T.b__law_next B.tk (sf_nil)) (se_int))) (sf_cons (se_ix (fun _ _ => rfl) (se_lst (sf_cons (se_int) (sf_cons (se_int) (sf_nil)))) (se_bin op_modN od_mod (se_callM 1 (ok__law_next T) (B.room.mono (by decide)) T.g__law_next T.f__law_next.kp T.b__law_next B.tk (sf_nil)) (se_int))) (sf_nil)))) (se_callT call_int1 cd_int T.m_int (by decide +kernel) (sa_cons (se_cmp (op_eqD B.room.units) od_eq (nomark _) (se_bin op_modN od_mod (se_callM 1 (ok__law_next T) (B.room.mono (by decide)) T.g__law_next T.f__law_next.kp T.b__law_next B.tk (sf_nil)) (se_int)) (se_int)) (sa_nil))))) (sb_cons (ss_set 4 (by decide) sc_law.nd (se_callM 1 (ok__law_paper T) (B.room.mono (by decide)) T.g__law_paper T.f__law_paper.kp T.b__law_paper B.tk (sf_cons (se_var 3) (sf_nil)))) (sb_one (ss_for B.calm B.pass (by decide) (si_range1 T.m_range (se_int)) (sg_name 5 sc_law.nd) (sb_cons (ss_set 6 (by decide) sc_law.nd (se_callB (cr_all B.calm) cd_all T.m_all (by decide +kernel) (sa_cons (se_lc [("known", 10), ("number", 11)] B.calm sc_law.nd (si_seq (se_var 4)) (by decide) (blkOk_by (own := [("known", 10), ("number", 11)]) (by kernel_rfl)) (fun _ _ _ _ _ => sg_tup B.calm (sgs_cons (sg_name 10 sc_law.nd) (sgs_cons (sg_name 11 sc_law.nd) (sgs_nil))) (tl_2)) (fun _ _ _ _ _ => sts_nil) (fun _ _ _ _ _ => se_callS (ok__law_pair_good T) (B.room.mono (by decide)) T.g__law_pair_good T.f__law_pair_good.kp T.b__law_pair_good takes0 (sa_cons (se_var 10) (sa_cons (se_var 11) (sa_cons (se_var 4) (sa_cons (se_var 3) (sa_nil))))))) (sa_nil)))) (sb_cons (ss_set 7 (by decide) sc_law.nd (se_callM 1 (ok__law_next T) (B.room.mono (by decide)) T.g__law_next T.f__law_next.kp T.b__law_next B.tk (sf_nil))) (sb_cons (ss_set 8 (by decide) sc_law.nd (se_ix (fun _ _ => rfl) (se_lst (sf_cons (se_var 4) (sf_cons (se_bin op_plus od_plus (se_bin op_mulA od_mulA (se_tup (sf_cons (se_tup (sf_cons (se_tup (sf_nil)) (sf_cons (se_int) (sf_nil)))) (sf_nil))) (se_bin op_modN od_mod (se_bin op_fdivN od_div (se_var 7) (se_int)) (se_int))) (se_var 4)) (sf_cons (se_bin op_mulA od_mulA (se_var 4) (se_bin op_plus od_plus (se_int) (se_bin op_modN od_mod (se_bin op_fdivN od_div (se_var 7) (se_int)) (se_int)))) (sf_cons (se_var 4) (sf_nil)))))) (se_bin op_modN od_mod (se_var 7) (se_int)))) (sb_cons (ss_set 9 (by decide) sc_law.nd (se_callS (ok_bound_shown T) (B.room.mono (by decide)) T.g_bound_shown T.f_bound_shown.kp T.b_bound_shown B.tk (sa_cons (se_var 8) (sa_cons (se_var 3) (sa_nil))))) (sb_cons (ss_if (sw_st (sw_or (st_not (st_tru (se_isi T.m_isinstance T.m_bool (by decide +kernel) (se_var 9)))) (sw_or (st_cmp (op_neD B.room.units) od_ne (nomark _) (se_var 9) (se_var 6)) (sw_or1 (st_cmp (op_neD B.room.units) od_ne (nomark _) (se_callS (ok_bound_shown T) (B.room.mono (by decide)) T.g_bound_shown T.f_bound_shown.kp T.b_bound_shown B.tk (sa_cons (se_var 4) (sa_cons (se_var 3) (sa_nil)))) (se_var 6)))))) (sb_one (ss_ret (se_bl))) (sb_nil)) (sb_one (ss_set 4 (by decide) sc_law.nd (se_callM 1 (ok__law_spoilt T) (B.room.mono (by decide)) T.g__law_spoilt T.f__law_spoilt.kp T.b__law_spoilt B.tk (sf_cons (se_var 4) (sf_cons (se_var 3) (sf_nil)))))))))))))))) (sb_one (ss_ret (se_cmp op_isBl od_isB (nomark _) (se_callS (ok_bound_shown T) (B.room.mono (by decide)) T.g_bound_shown T.f_bound_shown.kp T.b_bound_shown B.tk (sa_cons (se_tup (sf_nil)) (sa_cons (se_var 3) (sa_nil)))) (se_bl))))⟩
end BV

namespace BV
open PySem PySem.Spec
open PyProof.Rows hiding St
open Enc
theorem wp_lc {α : Type} {vs : List Nat} {fi : M (List PyData)} {tg : PyData → BE → Option BE} {ft : M Bool} {fe : M Opd} {e e1 : BE} {Q : Opd → BE → Prop} {X : Ex → BE → Prop} (enc : α → PyData) (xs : List α) (p : α → Bool) (f : α → PyData) (hi : fi e = some (.ok (xs.map enc) e1)) (hn : noOwn e1 vs = true) (hlen : xs.length ≤ 100000) (hbk : backB e1 (wipeB e1 vs) vs = e1)
    (hb : ∀ x ∈ xs, ∃ e2, tg (enc x) (wipeB e1 vs) = some e2 ∧ wipeB e2 vs = wipeB e1 vs ∧ ft e2 = some (.ok (p x) e2) ∧ (p x = true → ∃ r, fe e2 = some (.ok r e2) ∧ r.fr e2 = some (f x, e2))) (k : Q (.val (.new ((xs.filter p).map f))) e1) : wp (fLc vs fi tg ft fe e) Q X := by
  rw [lc_eq enc xs p f hi hn hlen hbk hb, wp_ok]
  exact k
/-! ### sorted -/
theorem allAlike_pd (l : List Pr) : allAlike (l.map en) = true := by
  unfold allAlike
  rw [List.all_eq_true]
  intro x hx
  rw [List.all_eq_true]
  intro y hy
  obtain ⟨p, _, rfl⟩ := List.mem_map.mp hx
  obtain ⟨q, _, rfl⟩ := List.mem_map.mp hy
  rfl
theorem sortable_pd (l : List Pr) : sortable (l.map en) = true := by
  unfold sortable
  rw [Bool.or_eq_true]
  left
  rw [List.all_eq_true]
  intro x hx
  obtain ⟨p, _, rfl⟩ := List.mem_map.mp hx
  rfl
theorem deepOk_pd (l : List Pr) : deepOk (l.map en) = true := by
  unfold deepOk
  rw [List.all_eq_true]
  intro x hx
  obtain ⟨p, _, rfl⟩ := List.mem_map.mp hx
  exact decide_eq_true (Nat.le_trans (dpl p) (by decide))
def leP (p q : Pr) : Bool := decide (p.1 < q.1 ∨ (p.1 = q.1 ∧ p.2 ≤ q.2))
theorem sortD_pd {l : List Pr} (hn : l.Nodup) : sortD (l.map en) = (sortP l).map en := by
  have e : (l.mergeSort leP).map en = (l.map en).mergeSort (PySem.W.dataLe false id) := by
    refine List.map_mergeSort fun p _ q _ => ?_
    have := congrFun (congrFun (PySem.W.dataLe_ii (fun p : Pr => p.1) (fun p : Pr => p.2)) p) q
    exact this.symm
  unfold sortD
  rw [← e]
  congr 1
  have hp := List.mergeSort_perm l leP
  refine sorted_unique ?_ (sorted_sortP l) fun q => by rw [mem_sortP]; exact hp.mem_iff
  have h1 : (l.mergeSort leP).Pairwise fun a b => leP a b = true := by
    refine List.pairwise_mergeSort ?_ ?_ l
    · intro a b c h1 h2
      simp only [leP, decide_eq_true_eq] at *
      omega
    · intro a b
      simp only [leP, Bool.or_eq_true, decide_eq_true_eq]
      omega
  have h2 : (l.mergeSort leP).Nodup := hp.nodup_iff.mpr hn
  refine (h1.and h2).imp ?_
  rintro ⟨a, b⟩ ⟨c, d⟩ ⟨h1, h2⟩
  simp only [leP, decide_eq_true_eq] at h1
  have : ¬ (a = c ∧ b = d) := fun ⟨x, y⟩ => h2 (by rw [x, y])
  show a < c ∨ (a = c ∧ b < d)
  omega
theorem d_sorted {l : List Pr} (hn : l.Nodup) (hl : l.length ≤ 100000) : dSorted [.list (l.map en)] = some (.new ((sortP l).map en)) := by
  unfold dSorted
  dsimp only
  rw [allAlike_pd, sortable_pd, deepOk_pd, show small (l.map en).length = true from by rw [List.length_map]; exact decide_eq_true hl, sortD_pd hn]
  rfl
/-! ### one pair more -/
def firsts (ps : List Pr) (i : Int) : List Int := i :: (ps.filter fun p => decide (p.2 = i)).map (·.1)
def lasts (ps : List Pr) (j : Int) : List Int := j :: (ps.filter fun p => decide (p.1 = j)).map (·.2)
def addJ (ps : List Pr) (j a : Int) : List Pr := ((lasts ps j).filter fun b => !decide ((a, b) ∈ ps)).map fun b => (a, b)
def addP (ps : List Pr) (i j : Int) : List Pr := ps ++ (firsts ps i).flatMap (addJ ps j)
theorem mem_firsts {ps : List Pr} {i a : Int} : a ∈ firsts ps i ↔ a = i ∨ (a, i) ∈ ps := by
  unfold firsts
  simp only [List.mem_cons, List.mem_map, List.mem_filter, decide_eq_true_eq]
  constructor
  · rintro (h | ⟨p, ⟨m, e⟩, rfl⟩)
    · exact .inl h
    · exact .inr (by rw [← e]; exact m)
  · rintro (h | m)
    · exact .inl h
    · exact .inr ⟨_, ⟨m, rfl⟩, rfl⟩
theorem mem_lasts {ps : List Pr} {j b : Int} : b ∈ lasts ps j ↔ b = j ∨ (j, b) ∈ ps := by
  unfold lasts
  simp only [List.mem_cons, List.mem_map, List.mem_filter, decide_eq_true_eq]
  constructor
  · rintro (h | ⟨p, ⟨m, e⟩, rfl⟩)
    · exact .inl h
    · exact .inr (by rw [← e]; exact m)
  · rintro (h | m)
    · exact .inl h
    · exact .inr ⟨_, ⟨m, rfl⟩, rfl⟩
theorem mem_addJ {ps : List Pr} {j a : Int} {p : Pr} : p ∈ addJ ps j a ↔ p.1 = a ∧ p.2 ∈ lasts ps j ∧ p ∉ ps := by
  unfold addJ
  simp only [List.mem_map, List.mem_filter, Bool.not_eq_true', decide_eq_false_iff_not]
  constructor
  · rintro ⟨b, ⟨m, no⟩, rfl⟩
    exact ⟨rfl, m, no⟩
  · rintro ⟨rfl, m, no⟩
    exact ⟨p.2, ⟨m, no⟩, rfl⟩
theorem mem_addP {ps : List Pr} {i j : Int} {p : Pr} : p ∈ addP ps i j ↔ p ∈ ps ∨ (p.1 ∈ firsts ps i ∧ p.2 ∈ lasts ps j) := by
  unfold addP
  rw [List.mem_append, List.mem_flatMap]
  constructor
  · rintro (h | ⟨a, m, h⟩)
    · exact .inl h
    · obtain ⟨rfl, h2, _⟩ := mem_addJ.mp h
      exact .inr ⟨m, h2⟩
  · rintro (h | ⟨h1, h2⟩)
    · exact .inl h
    · by_cases z : p ∈ ps
      · exact .inl z
      · exact .inr ⟨_, h1, mem_addJ.mpr ⟨rfl, h2, z⟩⟩
theorem sorted_nodup {ps : List Pr} (h : ps.Pairwise ltP) : ps.Nodup := h.imp fun {a b} hl e => by
  subst e
  exact ltP_irrefl a hl
theorem map_nodup {α β : Type} {f : α → β} {l : List α} (h : l.Nodup) (hf : ∀ a ∈ l, ∀ b ∈ l, f a = f b → a = b) : (l.map f).Nodup := by
  unfold List.Nodup
  rw [List.pairwise_map]
  refine List.Pairwise.imp_of_mem ?_ h
  intro a b ha hb hne e
  exact hne (hf a ha b hb e)
theorem firsts_nodup {ps : List Pr} {i : Int} (h : ps.Nodup) (hi : (i, i) ∉ ps) : (firsts ps i).Nodup := by
  unfold firsts
  rw [List.nodup_cons]
  refine ⟨fun m => ?_, map_nodup (List.Pairwise.filter _ h) ?_⟩
  · obtain ⟨p, m, e⟩ := List.mem_map.mp m
    obtain ⟨m, e2⟩ := List.mem_filter.mp m
    rw [decide_eq_true_eq] at e2
    refine hi ?_
    have : p = (i, i) := Prod.ext e e2
    rw [← this]
    exact m
  · intro a ha b hb e
    have h1 := (List.mem_filter.mp ha).2
    have h2 := (List.mem_filter.mp hb).2
    rw [decide_eq_true_eq] at h1 h2
    exact Prod.ext e (by rw [h1, h2])
theorem lasts_nodup {ps : List Pr} {j : Int} (h : ps.Nodup) (hi : (j, j) ∉ ps) : (lasts ps j).Nodup := by
  unfold lasts
  rw [List.nodup_cons]
  refine ⟨fun m => ?_, map_nodup (List.Pairwise.filter _ h) ?_⟩
  · obtain ⟨p, m, e⟩ := List.mem_map.mp m
    obtain ⟨m, e2⟩ := List.mem_filter.mp m
    rw [decide_eq_true_eq] at e2
    refine hi ?_
    have : p = (j, j) := Prod.ext e2 e
    rw [← this]
    exact m
  · intro a ha b hb e
    have h1 := (List.mem_filter.mp ha).2
    have h2 := (List.mem_filter.mp hb).2
    rw [decide_eq_true_eq] at h1 h2
    exact Prod.ext (by rw [h1, h2]) e
theorem addP_nodup {ps : List Pr} {i j : Int} (h : ps.Nodup) (hi : (i, i) ∉ ps) (hj : (j, j) ∉ ps) : (addP ps i j).Nodup := by
  unfold addP
  rw [List.nodup_append]
  refine ⟨h, ?_, ?_⟩
  · unfold List.Nodup
    rw [List.pairwise_flatMap]
    refine ⟨fun a _ => ?_, ?_⟩
    · unfold addJ
      refine map_nodup (List.Pairwise.filter _ (lasts_nodup h hj)) ?_
      intro x _ y _ e
      exact (Prod.mk.inj e).2
    · refine (firsts_nodup h hi).imp ?_
      intro a b hab x hx y hy e
      rw [e] at hx
      exact hab ((mem_addJ.mp hx).1.symm.trans (mem_addJ.mp hy).1)
  · intro a ha b hb e
    obtain ⟨c, _, m⟩ := List.mem_flatMap.mp hb
    rw [e] at ha
    exact (mem_addJ.mp m).2.2 ha
theorem add_isC {ps : List Pr} {i j : Int} (hc : IsC ps ps) : IsC (ps ++ [(i, j)]) (sortP (addP ps i j)) := by
  have tr : ∀ a b c, (a, b) ∈ ps → (b, c) ∈ ps → (a, c) ∈ ps := fun a b c h1 h2 => (hc.2 (a, c)).mpr (.step h1 (.one h2))
  refine ⟨sorted_sortP _, fun p => ?_⟩
  rw [mem_sortP, mem_addP]
  constructor
  · rintro (h | ⟨h1, h2⟩)
    · exact .one (List.mem_append.mpr (.inl h))
    · have hij : TC (ps ++ [(i, j)]) i j := .one (List.mem_append.mpr (.inr List.mem_cons_self))
      have e1 : p.1 = i ∨ TC (ps ++ [(i, j)]) p.1 i := (mem_firsts.mp h1).imp id fun m => .one (List.mem_append.mpr (.inl m))
      have e2 : p.2 = j ∨ TC (ps ++ [(i, j)]) j p.2 := (mem_lasts.mp h2).imp id fun m => .one (List.mem_append.mpr (.inl m))
      rcases e1 with e1 | e1 <;> rcases e2 with e2 | e2
      · rw [e1, e2]; exact hij
      · rw [e1]; exact hij.trans e2
      · rw [e2]; exact e1.trans hij
      · exact (e1.trans hij).trans e2
  · intro t
    refine t.closed (R := fun a b => (a, b) ∈ ps ∨ (a ∈ firsts ps i ∧ b ∈ lasts ps j)) ?_ ?_
    · intro p m
      rcases List.mem_append.mp m with m | m
      · exact .inl m
      · rw [List.mem_singleton] at m
        subst m
        exact .inr ⟨mem_firsts.mpr (.inl rfl), mem_lasts.mpr (.inl rfl)⟩
    · rintro a b c (h1 | ⟨h1, h2⟩) (h3 | ⟨h3, h4⟩)
      · exact .inl (tr a b c h1 h3)
      · refine .inr ⟨mem_firsts.mpr (.inr ?_), h4⟩
        rcases mem_firsts.mp h3 with rfl | m
        · exact h1
        · exact tr _ _ _ h1 m
      · refine .inr ⟨h1, mem_lasts.mpr (.inr ?_)⟩
        rcases mem_lasts.mp h2 with rfl | m
        · exact h3
        · exact tr _ _ _ m h3
      · exact .inr ⟨h1, h4⟩
theorem add_clo {n : Nat} {ps : List Pr} {i j : Int} (hc : IsC ps ps) (hn : inN n ps) (hi : 0 ≤ i ∧ i < n) (hj : 0 ≤ j ∧ j < n) : sortP (addP ps i j) = clo n (ps ++ [(i, j)]) := by
  refine (add_isC hc).unique (clo_isC ?_)
  intro p m
  rcases List.mem_append.mp m with m | m
  · exact hn p m
  · rw [List.mem_singleton] at m
    subst m
    exact ⟨hi.1, hi.2, hj.1, hj.2⟩
def WmI (ps : List Pr) (i j : Int) (done : List Int) (e : BE) : Prop := ∃ x4 x6, e = [some (.imm (.tuple (ps.map en))), some (.imm (.int i)), some (.imm (.int j)), some (.imm (.list ((firsts ps i).map en))), some x4, some (.own ((ps ++ done.flatMap (addJ ps j)).map en)), x6, none] ∧ (x4 = .own ((lasts ps j).map en) ∨ x4 = .imm (.list ((lasts ps j).map en)))
theorem firsts_len (ps : List Pr) (i : Int) : (firsts ps i).length ≤ ps.length + 1 := by
  unfold firsts
  rw [List.length_cons, List.length_map]
  have := List.length_filter_le (fun p : Pr => decide (p.2 = i)) ps
  omega
theorem lasts_len (ps : List Pr) (i : Int) : (lasts ps i).length ≤ ps.length + 1 := by
  unfold lasts
  rw [List.length_cons, List.length_map]
  have := List.length_filter_le (fun p : Pr => decide (p.1 = i)) ps
  omega
theorem addJ_len (ps : List Pr) (j a : Int) : (addJ ps j a).length ≤ ps.length + 1 := by
  unfold addJ
  rw [List.length_map]
  exact Nat.le_trans (List.length_filter_le ..) (lasts_len ps j)
theorem e_with_more {ps : List Pr} {i j : Int} (h : ps.Nodup) (hi : (i, i) ∉ ps) (hj : (j, j) ∉ ps) (hl : ps.length ≤ 100) : G_with_more [.tuple (ps.map en), .int i, .int j] = some (.ok (.imm (.tuple ((sortP (addP ps i j)).map en)))) := by
  refine (if_pos rfl).trans ?_
  apply runP_eq
  unfold g_with_more
  refine wp_seqN (fun e => e = [some (.imm (.tuple (ps.map en))), some (.imm (.int i)), some (.imm (.int j)), some (.own ((firsts ps i).map en)), none, none, none, none]) ?_ ?_
  · simp -implicitDefEqProofs [wp_seq, wp_bind, wp_ok, wp_ex, ob_ex, gSet, gNext, gDrop, gRet, gRetN, gIf, gBreak, gCont, gFor, gAsg, fVar, fC, fOp, fUn, fCl, fNil, fCons, fTup, fLst, gNilF, gConsF, dAll, Opd.d, Opd.fr, Val.d, putO, ob_ok, toB, tru, fNot, fAnd, fOr, fAndV, fOrV, isB, ofB, iSeq, iRange1, tName, tTupT, tsCons, tsNil, fYes, envP, envM, small, resO, own0, isOwn, noOwn, wipeB, backB, List.replicate, fMt, fCall, fCallB, fCallM, dTru]
    refine wp_lc en ps (fun p => decide (p.2 = i)) (fun p => en p.1) rfl rfl (by omega) rfl ?_ ?_
    · intro p hp
      refine ⟨_, rfl, rfl, ?_, fun _ => ⟨_, rfl, rfl⟩⟩
      simp -implicitDefEqProofs [wp_seq, wp_bind, wp_ok, wp_ex, ob_ex, gSet, gNext, gDrop, gRet, gRetN, gIf, gBreak, gCont, gFor, gAsg, fVar, fC, fOp, fUn, fCl, fNil, fCons, fTup, fLst, gNilF, gConsF, dAll, Opd.d, Opd.fr, Val.d, putO, ob_ok, toB, tru, fNot, fAnd, fOr, fAndV, fOrV, isB, ofB, iSeq, iRange1, tName, tTupT, tsCons, tsNil, fYes, envP, envM, small, resO, own0, isOwn, noOwn, wipeB, backB, List.replicate, fMt, fCall, fCallB, fCallM, dTru, en_int, d_eqI]
    · have hs : ((ps.filter fun p => decide (p.2 = i)).map fun p => p.1).length ≤ 100 := by
        rw [List.length_map]
        exact Nat.le_trans (List.length_filter_le ..) hl
      have e1 : List.map (fun p : Pr => en p.1) (List.filter (fun p => decide (p.2 = i)) ps) = ((ps.filter fun p => decide (p.2 = i)).map fun p => p.1).map en := by rw [List.map_map]; rfl
      rw [e1]
      unfold firsts
      generalize ((ps.filter fun p => decide (p.2 = i)).map fun p => p.1) = l at hs ⊢
      have hd : dPlus (.list [.int i]) (.list (l.map en)) = some (.new ((i :: l).map en)) := d_catL (a := [i]) (b := l) (by simp; omega)
      simp -implicitDefEqProofs [wp_seq, wp_bind, wp_ok, wp_ex, ob_ex, gSet, gNext, gDrop, gRet, gRetN, gIf, gBreak, gCont, gFor, gAsg, fVar, fC, fOp, fUn, fCl, fNil, fCons, fTup, fLst, gNilF, gConsF, dAll, Opd.d, Opd.fr, Val.d, putO, ob_ok, toB, tru, fNot, fAnd, fOr, fAndV, fOrV, isB, ofB, iSeq, iRange1, tName, tTupT, tsCons, tsNil, fYes, envP, envM, small, resO, own0, isOwn, noOwn, wipeB, backB, List.replicate, fMt, fCall, fCallB, fCallM, dTru, hd]
  rintro _ rfl
  refine wp_seqN (fun e => e = [some (.imm (.tuple (ps.map en))), some (.imm (.int i)), some (.imm (.int j)), some (.own ((firsts ps i).map en)), some (.own ((lasts ps j).map en)), none, none, none]) ?_ ?_
  · generalize firsts ps i = fs
    simp -implicitDefEqProofs [wp_seq, wp_bind, wp_ok, wp_ex, ob_ex, gSet, gNext, gDrop, gRet, gRetN, gIf, gBreak, gCont, gFor, gAsg, fVar, fC, fOp, fUn, fCl, fNil, fCons, fTup, fLst, gNilF, gConsF, dAll, Opd.d, Opd.fr, Val.d, putO, ob_ok, toB, tru, fNot, fAnd, fOr, fAndV, fOrV, isB, ofB, iSeq, iRange1, tName, tTupT, tsCons, tsNil, fYes, envP, envM, small, resO, own0, isOwn, noOwn, wipeB, backB, List.replicate, fMt, fCall, fCallB, fCallM, dTru]
    refine wp_lc en ps (fun p => decide (p.1 = j)) (fun p => en p.2) rfl rfl (by omega) rfl ?_ ?_
    · intro p hp
      refine ⟨_, rfl, rfl, ?_, fun _ => ⟨_, rfl, rfl⟩⟩
      simp -implicitDefEqProofs [wp_seq, wp_bind, wp_ok, wp_ex, ob_ex, gSet, gNext, gDrop, gRet, gRetN, gIf, gBreak, gCont, gFor, gAsg, fVar, fC, fOp, fUn, fCl, fNil, fCons, fTup, fLst, gNilF, gConsF, dAll, Opd.d, Opd.fr, Val.d, putO, ob_ok, toB, tru, fNot, fAnd, fOr, fAndV, fOrV, isB, ofB, iSeq, iRange1, tName, tTupT, tsCons, tsNil, fYes, envP, envM, small, resO, own0, isOwn, noOwn, wipeB, backB, List.replicate, fMt, fCall, fCallB, fCallM, dTru, en_int, d_eqI]
    · have hs : ((ps.filter fun p => decide (p.1 = j)).map fun p => p.2).length ≤ 100 := by
        rw [List.length_map]
        exact Nat.le_trans (List.length_filter_le ..) hl
      have e1 : List.map (fun p : Pr => en p.2) (List.filter (fun p => decide (p.1 = j)) ps) = ((ps.filter fun p => decide (p.1 = j)).map fun p => p.2).map en := by rw [List.map_map]; rfl
      rw [e1]
      unfold lasts
      generalize ((ps.filter fun p => decide (p.1 = j)).map fun p => p.2) = l at hs ⊢
      have hd : dPlus (.list [.int j]) (.list (l.map en)) = some (.new ((j :: l).map en)) := d_catL (a := [j]) (b := l) (by simp; omega)
      simp -implicitDefEqProofs [wp_seq, wp_bind, wp_ok, wp_ex, ob_ex, gSet, gNext, gDrop, gRet, gRetN, gIf, gBreak, gCont, gFor, gAsg, fVar, fC, fOp, fUn, fCl, fNil, fCons, fTup, fLst, gNilF, gConsF, dAll, Opd.d, Opd.fr, Val.d, putO, ob_ok, toB, tru, fNot, fAnd, fOr, fAndV, fOrV, isB, ofB, iSeq, iRange1, tName, tTupT, tsCons, tsNil, fYes, envP, envM, small, resO, own0, isOwn, noOwn, wipeB, backB, List.replicate, fMt, fCall, fCallB, fCallM, dTru, hd]
  rintro _ rfl
  refine wp_seqN (fun e => e = [some (.imm (.tuple (ps.map en))), some (.imm (.int i)), some (.imm (.int j)), some (.own ((firsts ps i).map en)), some (.own ((lasts ps j).map en)), some (.own (ps.map en)), none, none]) ?_ ?_
  · simp -implicitDefEqProofs [wp_seq, wp_bind, wp_ok, wp_ex, ob_ex, gSet, gNext, gDrop, gRet, gRetN, gIf, gBreak, gCont, gFor, gAsg, fVar, fC, fOp, fUn, fCl, fNil, fCons, fTup, fLst, gNilF, gConsF, dAll, Opd.d, Opd.fr, Val.d, putO, ob_ok, toB, tru, fNot, fAnd, fOr, fAndV, fOrV, isB, ofB, iSeq, iRange1, tName, tTupT, tsCons, tsNil, fYes, envP, envM, small, resO, own0, isOwn, noOwn, wipeB, backB, List.replicate, fMt, fCall, fCallB, fCallM, dTru, dList]
  rintro _ rfl
  refine wp_seqN (WmI ps i j (firsts ps i)) ?_ ?_
  · refine wp_forS en (firsts ps i) rfl (WmI ps i j) ⟨.own ((lasts ps j).map en), none, by simp [Opd.fr], .inl rfl⟩ ?_ fun e h => ⟨rfl, h⟩
    rintro done a rest hx _ ⟨x4, x6, rfl, h4⟩
    refine ⟨_, rfl, ?_⟩
    have hf := firsts_len ps i
    have hdl : done.length ≤ ps.length + 1 := by
      have z := congrArg List.length hx
      rw [List.length_append] at z
      omega
    have ha1 := flat_len (addJ ps j) (ps.length + 1) done fun x _ => addJ_len ps j x
    have ha2 := addJ_len ps j a
    have ha3 : done.length * (ps.length + 1) ≤ 101 * 101 := Nat.mul_le_mul (by omega) (by omega)
    have hla := lasts_len ps j
    have hadd : List.map (fun b : Int => en ((a, b) : Pr)) ((lasts ps j).filter fun b => !decide ((a, b) ∈ ps)) = (addJ ps j a).map en := by unfold addJ; rw [List.map_map]; rfl
    have hfl : ps ++ (done ++ [a]).flatMap (addJ ps j) = (ps ++ done.flatMap (addJ ps j)) ++ addJ ps j a := by simp
    unfold WmI
    rw [hfl]
    have hal : (ps ++ done.flatMap (addJ ps j)).length ≤ 50000 := by rw [List.length_append]; omega
    generalize ps ++ done.flatMap (addJ ps j) = acc at hal ⊢
    generalize (firsts ps i) = fs at *
    have hsm : acc.length + (addJ ps j a).length ≤ 100000 := by omega
    show wp (gDrop _ [some (.imm (.tuple (ps.map en))), some (.imm (.int i)), some (.imm (.int j)), some (.imm (.list (fs.map en))), some x4, some (.own (acc.map en)), some (.imm (.int a)), none]) _ _
    simp -implicitDefEqProofs [wp_seq, wp_bind, wp_ok, wp_ex, ob_ex, gSet, gNext, gDrop, gRet, gRetN, gIf, gBreak, gCont, gFor, gAsg, fVar, fC, fOp, fUn, fCl, fNil, fCons, fTup, fLst, gNilF, gConsF, dAll, Opd.d, Opd.fr, Val.d, putO, ob_ok, toB, tru, fNot, fAnd, fOr, fAndV, fOrV, isB, ofB, iSeq, iRange1, tName, tTupT, tsCons, tsNil, fYes, envP, envM, small, resO, own0, isOwn, noOwn, wipeB, backB, List.replicate, fMt, fCall, fCallB, fCallM, dTru]
    have hfi : iSeq (fVar 4) [some (.imm (.tuple (ps.map en))), some (.imm (.int i)), some (.imm (.int j)), some (.imm (.list (fs.map en))), some x4, some (.own (acc.map en)), some (.imm (.int a)), none] = some (.ok ((lasts ps j).map en) [some (.imm (.tuple (ps.map en))), some (.imm (.int i)), some (.imm (.int j)), some (.imm (.list (fs.map en))), some (.imm (.list ((lasts ps j).map en))), some (.own (acc.map en)), some (.imm (.int a)), none]) := by
      rcases h4 with rfl | rfl
      · rfl
      · rfl
    refine wp_lc en (lasts ps j) (fun b => !decide ((a, b) ∈ ps)) (fun b => en ((a, b) : Pr)) hfi rfl (by omega) rfl ?_ ?_
    · intro b hb
      refine ⟨_, rfl, rfl, ?_, fun _ => ⟨_, rfl, rfl⟩⟩
      simp -implicitDefEqProofs [wp_seq, wp_bind, wp_ok, wp_ex, ob_ex, gSet, gNext, gDrop, gRet, gRetN, gIf, gBreak, gCont, gFor, gAsg, fVar, fC, fOp, fUn, fCl, fNil, fCons, fTup, fLst, gNilF, gConsF, dAll, Opd.d, Opd.fr, Val.d, putO, ob_ok, toB, tru, fNot, fAnd, fOr, fAndV, fOrV, isB, ofB, iSeq, iRange1, tName, tTupT, tsCons, tsNil, fYes, envP, envM, small, resO, own0, isOwn, noOwn, wipeB, backB, List.replicate, fMt, fCall, fCallB, fCallM, dTru, en_int, d_ninPT]
    · rw [hadd]
      generalize addJ ps j a = new at hsm ⊢
      simp -implicitDefEqProofs [wp_seq, wp_bind, wp_ok, wp_ex, ob_ex, gSet, gNext, gDrop, gRet, gRetN, gIf, gBreak, gCont, gFor, gAsg, fVar, fC, fOp, fUn, fCl, fNil, fCons, fTup, fLst, gNilF, gConsF, dAll, Opd.d, Opd.fr, Val.d, putO, ob_ok, toB, tru, fNot, fAnd, fOr, fAndV, fOrV, isB, ofB, iSeq, iRange1, tName, tTupT, tsCons, tsNil, fYes, envP, envM, small, resO, own0, isOwn, noOwn, wipeB, backB, List.replicate, fMt, fCall, fCallB, fCallM, dTru, mExtend, hsm]
  rintro _ ⟨x4, x6, rfl, _⟩
  have hnd := addP_nodup h hi hj
  have hlen : (addP ps i j).length ≤ 100000 := by
    unfold addP
    rw [List.length_append]
    have ha1 := flat_len (addJ ps j) (ps.length + 1) (firsts ps i) fun x _ => addJ_len ps j x
    have hf := firsts_len ps i
    have ha3 : (firsts ps i).length * (ps.length + 1) ≤ 101 * 101 := Nat.mul_le_mul (by omega) (by omega)
    omega
  have hso := d_sorted hnd hlen
  rw [show ps ++ (firsts ps i).flatMap (addJ ps j) = addP ps i j from rfl]
  generalize addP ps i j = ad at hso ⊢
  simp -implicitDefEqProofs [wp_seq, wp_bind, wp_ok, wp_ex, ob_ex, gSet, gNext, gDrop, gRet, gRetN, gIf, gBreak, gCont, gFor, gAsg, fVar, fC, fOp, fUn, fCl, fNil, fCons, fTup, fLst, gNilF, gConsF, dAll, Opd.d, Opd.fr, Val.d, putO, ob_ok, toB, tru, fNot, fAnd, fOr, fAndV, fOrV, isB, ofB, iSeq, iRange1, tName, tTupT, tsCons, tsNil, fYes, envP, envM, small, resO, own0, isOwn, noOwn, wipeB, backB, List.replicate, fMt, fCall, fCallB, fCallM, dTru, hso, dTuple]
end BV

namespace BV
open PySem PySem.Spec
open PyProof.Rows hiding St
open Enc
abbrev Ent := List Pr × Int
def acyB (n : Nat) (ps : List Pr) : Bool := !((List.range n).any fun i => getB (warsh n (mat0 n (ps.map pd))) i i)
theorem acyB_iff {n : Nat} {ps : List Pr} (hn : inN n ps) : acyB n ps = true ↔ Acy ps := by
  have := diag hn
  unfold acyB
  rw [Bool.not_eq_true', ← Bool.not_eq_true, this]
  exact Classical.not_not
def isK (n : Nat) (ps : List Pr) : Bool := acyB n ps && decide (clo n ps = ps)
theorem isK_iff {n : Nat} {ps : List Pr} (hn : inN n ps) : isK n ps = true ↔ IsC ps ps ∧ Acy ps := by
  unfold isK
  rw [Bool.and_eq_true, acyB_iff hn, decide_eq_true_eq]
  constructor
  · rintro ⟨h1, h2⟩
    have := clo_isC hn
    rw [h2] at this
    exact ⟨this, h1⟩
  · rintro ⟨h1, h2⟩
    exact ⟨h2, (clo_isC hn).unique h1⟩
theorem d_eqT {α : Type} [DecidableEq α] [Enc α] (h : dp α < 64) (a b : List α) : dEq (.tuple (a.map en)) (.tuple (b.map en)) = some (.imm (.bool (decide (a = b)))) := d_eq (α := List α) (by show dp α + 1 ≤ 64; omega) a b
theorem d_neT {α : Type} [DecidableEq α] [Enc α] (h : dp α < 64) (a b : List α) : dNe (.tuple (a.map en)) (.tuple (b.map en)) = some (.imm (.bool (!decide (a = b)))) := d_ne (α := List α) (by show dp α + 1 ≤ 64; omega) a b
theorem e_is_known {n : Nat} {ps : List Pr} (hn : inN n ps) (hb : n ≤ 7) : G_is_known [.tuple (ps.map en), .int n] = some (.ok (.imm (.bool (isK n ps)))) := by
  refine (if_pos rfl).trans ?_
  apply runP_eq
  unfold g_is_known
  have hc := e_closed (n := n) (ps := ps) (d := .tuple (ps.map en)) rfl hn (by omega)
  by_cases ha : Acy ps
  · have hG := hc.1 ha
    have h2 : isK n ps = decide (clo n ps = ps) := by
      unfold isK
      rw [(acyB_iff hn).mpr ha, Bool.true_and]
    have he := d_eqT (α := Pr) (by decide) (clo n ps) ps
    rw [en_list] at hG
    rw [h2]
    generalize clo n ps = c at hG he ⊢
    simp -implicitDefEqProofs [wp_seq, wp_bind, wp_ok, wp_ex, ob_ex, gSet, gNext, gDrop, gRet, gRetN, gIf, gBreak, gCont, gFor, gAsg, fVar, fC, fOp, fUn, fCl, fNil, fCons, fTup, fLst, gNilF, gConsF, dAll, Opd.d, Opd.fr, Val.d, putO, ob_ok, toB, tru, fNot, fAnd, fOr, fAndV, fOrV, isB, ofB, iSeq, iRange1, tName, tTupT, tsCons, tsNil, fYes, envP, envM, small, resO, own0, isOwn, noOwn, wipeB, backB, List.replicate, fMt, fCall, fCallB, fCallM, dTru, gTry, hG, he]
  · have hG := hc.2 ha
    have h2 : isK n ps = false := by
      unfold isK
      rw [Bool.eq_false_iff.mpr fun h => ha ((acyB_iff hn).mp h), Bool.false_and]
    rw [h2]
    simp -implicitDefEqProofs [wp_seq, wp_bind, wp_ok, wp_ex, ob_ex, gSet, gNext, gDrop, gRet, gRetN, gIf, gBreak, gCont, gFor, gAsg, fVar, fC, fOp, fUn, fCl, fNil, fCons, fTup, fLst, gNilF, gConsF, dAll, Opd.d, Opd.fr, Val.d, putO, ob_ok, toB, tru, fNot, fAnd, fOr, fAndV, fOrV, isB, ofB, iSeq, iRange1, tName, tTupT, tsCons, tsNil, fYes, envP, envM, small, resO, own0, isOwn, noOwn, wipeB, backB, List.replicate, fMt, fCall, fCallB, fCallM, dTru, gTry, hG, mt_Clash]
/-! ### has_more, _law_within -/
def within (one ps : List Pr) : Bool := ps.all fun p => decide (p ∈ one)
def hasM (paper : List Ent) (ps : List Pr) (num : Int) : Bool := paper.any fun q => decide (num ≤ q.2) && within q.1 ps
theorem d_inET (ps : List Pr) (b : Int) (xs : List Ent) : dIn (.tuple [.tuple (ps.map en), .int b]) (.tuple (xs.map en)) = some (.imm (.bool (decide ((ps, b) ∈ xs)))) := (d_inT (α := Ent) (by decide) (ps, b) xs).trans (by congr)
theorem filter_tt {α : Type} (xs : List α) : xs.filter (fun _ => true) = xs := by simp
theorem d_anyM {α : Type} (xs : List α) (B : α → Bool) : dAny [.list (xs.map fun x => .bool (B x))] = some (.imm (.bool (xs.any B))) := by
  have : (xs.map fun x => PyData.bool (B x)) = (xs.map B).map .bool := by rw [List.map_map]; rfl
  unfold dAny
  rw [this]
  dsimp only
  rw [boolsOf_map, Option.map_some, List.any_map]
  rfl
theorem d_allM {α : Type} (xs : List α) (B : α → Bool) : dAllB [.list (xs.map fun x => .bool (B x))] = some (.imm (.bool (xs.all B))) := by
  have : (xs.map fun x => PyData.bool (B x)) = (xs.map B).map .bool := by rw [List.map_map]; rfl
  unfold dAllB
  rw [this]
  dsimp only
  rw [boolsOf_map, Option.map_some, List.all_map]
  rfl
theorem lcHas {paper ps one : List PyData} {num oth : Int} {os pr : List Pr} (hp : ps = pr.map en) (ho : one = os.map en) (hl : pr.length ≤ 100000) : fLc [5] (iSeq (fVar 1)) (tName 5) (fYes) (fOp dIn (fVar 5) (fVar 3)) [some (.imm (.tuple paper)), some (.imm (.tuple ps)), some (.imm (.int num)), some (.imm (.tuple one)), some (.imm (.int oth)), none] =
    some (.ok (.val (.new (pr.map fun p => .bool (decide (p ∈ os))))) [some (.imm (.tuple paper)), some (.imm (.tuple ps)), some (.imm (.int num)), some (.imm (.tuple one)), some (.imm (.int oth)), none]) := by
  subst hp ho
  have h := lc_eq (vs := [5]) (fi := iSeq (fVar 1)) (tg := tName 5) (ft := fYes) (fe := (fOp dIn (fVar 5) (fVar 3))) (e := [some (.imm (.tuple paper)), some (.imm (.tuple (pr.map en))), some (.imm (.int num)), some (.imm (.tuple (os.map en))), some (.imm (.int oth)), none]) (e1 := [some (.imm (.tuple paper)), some (.imm (.tuple (pr.map en))), some (.imm (.int num)), some (.imm (.tuple (os.map en))), some (.imm (.int oth)), none]) en pr (fun _ => true) (fun p => .bool (decide (p ∈ os))) rfl rfl hl rfl ?_
  · rw [h, filter_tt]
  · intro p hp
    refine ⟨_, rfl, rfl, rfl, fun _ => ⟨.val (.imm (.bool (decide (p ∈ os)))), ?_, rfl⟩⟩
    have := d_inT (α := Pr) (by decide) p os
    simp -implicitDefEqProofs [wp_seq, wp_bind, wp_ok, wp_ex, ob_ex, gSet, gNext, gDrop, gRet, gRetN, gIf, gBreak, gCont, gFor, gAsg, fVar, fC, fOp, fUn, fCl, fNil, fCons, fTup, fLst, gNilF, gConsF, dAll, Opd.d, Opd.fr, Val.d, putO, ob_ok, toB, tru, fNot, fAnd, fOr, fAndV, fOrV, isB, ofB, iSeq, iRange1, tName, tTupT, tsCons, tsNil, fYes, envP, envM, small, resO, own0, isOwn, noOwn, wipeB, backB, List.replicate, fMt, fCall, fCallB, fCallM, dTru, this]
theorem e_has_more {paper : List Ent} {ps : List Pr} {num : Int} (hl : paper.length ≤ 10000) (hp : ps.length ≤ 10000) : G_has_more [.tuple (paper.map en), .tuple (ps.map en), .int num] = some (.ok (.imm (.bool (hasM paper ps num)))) := by
  refine (if_pos rfl).trans ?_
  apply runP_eq
  unfold g_has_more
  have h1 := d_inET ps num paper
  have h2 := d_inET ps (num + 1) paper
  have hplus : dPlus (.int num) (.int 1) = some (.imm (.int (num + 1))) := rfl
  have self : within ps ps = true := by
    unfold within
    rw [List.all_eq_true]
    exact fun p m => decide_eq_true m
  rw [wp_seq]
  by_cases c1 : (ps, num) ∈ paper
  · have : hasM paper ps num = true := by
      unfold hasM
      rw [List.any_eq_true]
      exact ⟨_, c1, by rw [self, Bool.and_true]; exact decide_eq_true (Int.le_refl _)⟩
    rw [this]
    simp -implicitDefEqProofs [wp_seq, wp_bind, wp_ok, wp_ex, ob_ex, gSet, gNext, gDrop, gRet, gRetN, gIf, gBreak, gCont, gFor, gAsg, fVar, fC, fOp, fUn, fCl, fNil, fCons, fTup, fLst, gNilF, gConsF, dAll, Opd.d, Opd.fr, Val.d, putO, ob_ok, toB, tru, fNot, fAnd, fOr, fAndV, fOrV, isB, ofB, iSeq, iRange1, tName, tTupT, tsCons, tsNil, fYes, envP, envM, small, resO, own0, isOwn, noOwn, wipeB, backB, List.replicate, fMt, fCall, fCallB, fCallM, dTru, h1, c1]
  · by_cases c2 : (ps, num + 1) ∈ paper
    · have : hasM paper ps num = true := by
        unfold hasM
        rw [List.any_eq_true]
        exact ⟨_, c2, by rw [self, Bool.and_true]; exact decide_eq_true (by show num ≤ num + 1; omega)⟩
      rw [this]
      simp -implicitDefEqProofs [wp_seq, wp_bind, wp_ok, wp_ex, ob_ex, gSet, gNext, gDrop, gRet, gRetN, gIf, gBreak, gCont, gFor, gAsg, fVar, fC, fOp, fUn, fCl, fNil, fCons, fTup, fLst, gNilF, gConsF, dAll, Opd.d, Opd.fr, Val.d, putO, ob_ok, toB, tru, fNot, fAnd, fOr, fAndV, fOrV, isB, ofB, iSeq, iRange1, tName, tTupT, tsCons, tsNil, fYes, envP, envM, small, resO, own0, isOwn, noOwn, wipeB, backB, List.replicate, fMt, fCall, fCallB, fCallM, dTru, h1, c1, hplus, h2, c2]
    · simp -implicitDefEqProofs [wp_seq, wp_bind, wp_ok, wp_ex, ob_ex, gSet, gNext, gDrop, gRet, gRetN, gIf, gBreak, gCont, gFor, gAsg, fVar, fC, fOp, fUn, fCl, fNil, fCons, fTup, fLst, gNilF, gConsF, dAll, Opd.d, Opd.fr, Val.d, putO, ob_ok, toB, tru, fNot, fAnd, fOr, fAndV, fOrV, isB, ofB, iSeq, iRange1, tName, tTupT, tsCons, tsNil, fYes, envP, envM, small, resO, own0, isOwn, noOwn, wipeB, backB, List.replicate, fMt, fCall, fCallB, fCallM, dTru, h1, c1, hplus, h2, c2]
      refine wp_lc en paper (fun _ => true) (fun q => .bool (decide (num ≤ q.2) && within q.1 ps)) rfl rfl (by omega) rfl ?_ ?_
      · intro q hq
        refine ⟨_, rfl, rfl, rfl, fun _ => ⟨.val (.imm (.bool (decide (num ≤ q.2) && within q.1 ps))), ?_, rfl⟩⟩
        have hlc := lcHas (paper := paper.map en) (ps := ps.map en) (one := q.1.map en) (num := num) (oth := q.2) (os := q.1) (pr := ps) rfl rfl (by omega)
        have hge : dGe (.int q.2) (.int num) = some (.imm (.bool (decide (num ≤ q.2)))) := rfl
        have hall := d_allM ps fun p => decide (p ∈ q.1)
        show fAndV _ _ [some (.imm (.tuple (paper.map en))), some (.imm (.tuple (ps.map en))), some (.imm (.int num)), some (.imm (.tuple (q.1.map en))), some (.imm (.int q.2)), none] = _
        unfold within
        by_cases c3 : num ≤ q.2
        · simp -implicitDefEqProofs [wp_seq, wp_bind, wp_ok, wp_ex, ob_ex, gSet, gNext, gDrop, gRet, gRetN, gIf, gBreak, gCont, gFor, gAsg, fVar, fC, fOp, fUn, fCl, fNil, fCons, fTup, fLst, gNilF, gConsF, dAll, Opd.d, Opd.fr, Val.d, putO, ob_ok, toB, tru, fNot, fAnd, fOr, fAndV, fOrV, isB, ofB, iSeq, iRange1, tName, tTupT, tsCons, tsNil, fYes, envP, envM, small, resO, own0, isOwn, noOwn, wipeB, backB, List.replicate, fMt, fCall, fCallB, fCallM, dTru, hge, c3, hlc, hall]
          exact ⟨rfl, rfl⟩
        · simp -implicitDefEqProofs [wp_seq, wp_bind, wp_ok, wp_ex, ob_ex, gSet, gNext, gDrop, gRet, gRetN, gIf, gBreak, gCont, gFor, gAsg, fVar, fC, fOp, fUn, fCl, fNil, fCons, fTup, fLst, gNilF, gConsF, dAll, Opd.d, Opd.fr, Val.d, putO, ob_ok, toB, tru, fNot, fAnd, fOr, fAndV, fOrV, isB, ofB, iSeq, iRange1, tName, tTupT, tsCons, tsNil, fYes, envP, envM, small, resO, own0, isOwn, noOwn, wipeB, backB, List.replicate, fMt, fCall, fCallB, fCallM, dTru, hge, c3]
          exact ⟨rfl, rfl⟩
      · rw [filter_tt]
        have := d_anyM paper fun q => decide (num ≤ q.2) && within q.1 ps
        simp -implicitDefEqProofs [wp_seq, wp_bind, wp_ok, wp_ex, ob_ex, gSet, gNext, gDrop, gRet, gRetN, gIf, gBreak, gCont, gFor, gAsg, fVar, fC, fOp, fUn, fCl, fNil, fCons, fTup, fLst, gNilF, gConsF, dAll, Opd.d, Opd.fr, Val.d, putO, ob_ok, toB, tru, fNot, fAnd, fOr, fAndV, fOrV, isB, ofB, iSeq, iRange1, tName, tTupT, tsCons, tsNil, fYes, envP, envM, small, resO, own0, isOwn, noOwn, wipeB, backB, List.replicate, fMt, fCall, fCallB, fCallM, dTru, this, hasM]
theorem lcWith {one ways w : List PyData} {os pr : List Pr} {x : Sl} {kk : List PyData → PyData} (hx : x = .imm (.list ways)) (hp : w = pr.map en) (ho : one = os.map en) (hl : pr.length ≤ 100000) : fLc [3] (iSeq (fVar 2)) (tName 3) (fYes) (fOp dIn (fVar 3) (fVar 0)) [some (.imm (.tuple one)), some x, some (.imm (.tuple w)), none] =
    some (.ok (.val (.new (pr.map fun p => .bool (decide (p ∈ os))))) [some (.imm (.tuple one)), some x, some (.imm (.tuple w)), none]) := by
  subst hp ho hx
  have h := lc_eq (vs := [3]) (fi := iSeq (fVar 2)) (tg := tName 3) (ft := fYes) (fe := (fOp dIn (fVar 3) (fVar 0))) (e := [some (.imm (.tuple (os.map en))), some (.imm (.list ways)), some (.imm (.tuple (pr.map en))), none]) (e1 := [some (.imm (.tuple (os.map en))), some (.imm (.list ways)), some (.imm (.tuple (pr.map en))), none]) en pr (fun _ => true) (fun p => .bool (decide (p ∈ os))) rfl rfl hl rfl ?_
  · rw [h, filter_tt]
  · intro p hp
    refine ⟨_, rfl, rfl, rfl, fun _ => ⟨.val (.imm (.bool (decide (p ∈ os)))), ?_, rfl⟩⟩
    have := d_inT (α := Pr) (by decide) p os
    simp -implicitDefEqProofs [wp_seq, wp_bind, wp_ok, wp_ex, ob_ex, gSet, gNext, gDrop, gRet, gRetN, gIf, gBreak, gCont, gFor, gAsg, fVar, fC, fOp, fUn, fCl, fNil, fCons, fTup, fLst, gNilF, gConsF, dAll, Opd.d, Opd.fr, Val.d, putO, ob_ok, toB, tru, fNot, fAnd, fOr, fAndV, fOrV, isB, ofB, iSeq, iRange1, tName, tTupT, tsCons, tsNil, fYes, envP, envM, small, resO, own0, isOwn, noOwn, wipeB, backB, List.replicate, fMt, fCall, fCallB, fCallM, dTru, this]
theorem e__law_within {one : List Pr} {ways : List (List Pr)} (hl : ways.length ≤ 10000) (hw : ∀ w ∈ ways, w.length ≤ 10000) : G__law_within [.tuple (one.map en), .list (ways.map en)] = some (.ok (.imm (.bool (ways.any (within one))))) := by
  refine (if_pos rfl).trans ?_
  apply runP_eq
  unfold g__law_within
  simp -implicitDefEqProofs [wp_seq, wp_bind, wp_ok, wp_ex, ob_ex, gSet, gNext, gDrop, gRet, gRetN, gIf, gBreak, gCont, gFor, gAsg, fVar, fC, fOp, fUn, fCl, fNil, fCons, fTup, fLst, gNilF, gConsF, dAll, Opd.d, Opd.fr, Val.d, putO, ob_ok, toB, tru, fNot, fAnd, fOr, fAndV, fOrV, isB, ofB, iSeq, iRange1, tName, tTupT, tsCons, tsNil, fYes, envP, envM, small, resO, own0, isOwn, noOwn, wipeB, backB, List.replicate, fMt, fCall, fCallB, fCallM, dTru]
  refine wp_lc en ways (fun _ => true) (fun w => .bool (within one w)) rfl rfl (by omega) rfl ?_ ?_
  · intro w hm
    refine ⟨_, rfl, rfl, rfl, fun _ => ⟨.val (.imm (.bool (within one w))), ?_, rfl⟩⟩
    have hlc := lcWith (kk := .list) (one := one.map en) (ways := ways.map en) (w := w.map en) (os := one) (pr := w) rfl rfl rfl (by have := hw w hm; omega)
    have hall := d_allM w fun p => decide (p ∈ one)
    show fCl _ _ [some (.imm (.tuple (one.map en))), some (.imm (.list (ways.map en))), some (.imm (.tuple (w.map en))), none] = _
    simp -implicitDefEqProofs [wp_seq, wp_bind, wp_ok, wp_ex, ob_ex, gSet, gNext, gDrop, gRet, gRetN, gIf, gBreak, gCont, gFor, gAsg, fVar, fC, fOp, fUn, fCl, fNil, fCons, fTup, fLst, gNilF, gConsF, dAll, Opd.d, Opd.fr, Val.d, putO, ob_ok, toB, tru, fNot, fAnd, fOr, fAndV, fOrV, isB, ofB, iSeq, iRange1, tName, tTupT, tsCons, tsNil, fYes, envP, envM, small, resO, own0, isOwn, noOwn, wipeB, backB, List.replicate, fMt, fCall, fCallB, fCallM, dTru, hlc, hall]
    exact ⟨rfl, rfl⟩
  · rw [filter_tt]
    have := d_anyM ways (within one)
    simp -implicitDefEqProofs [wp_seq, wp_bind, wp_ok, wp_ex, ob_ex, gSet, gNext, gDrop, gRet, gRetN, gIf, gBreak, gCont, gFor, gAsg, fVar, fC, fOp, fUn, fCl, fNil, fCons, fTup, fLst, gNilF, gConsF, dAll, Opd.d, Opd.fr, Val.d, putO, ob_ok, toB, tru, fNot, fAnd, fOr, fAndV, fOrV, isB, ofB, iSeq, iRange1, tName, tTupT, tsCons, tsNil, fYes, envP, envM, small, resO, own0, isOwn, noOwn, wipeB, backB, List.replicate, fMt, fCall, fCallB, fCallM, dTru, this]
theorem e_both_ways {ps : List Pr} {i j : Int} (h : ps.Nodup) (hi : (i, i) ∉ ps) (hj : (j, j) ∉ ps) (hl : ps.length ≤ 100) : G_both_ways [.tuple (ps.map en), .int i, .int j] = some (.ok (.imm (.tuple (([sortP (addP ps i j), sortP (addP ps j i)] : List (List Pr)).map en)))) := by
  refine (if_pos rfl).trans ?_
  apply runP_eq
  unfold g_both_ways
  have h1 := e_with_more h hi hj hl
  have h2 := e_with_more h hj hi hl
  generalize sortP (addP ps i j) = a at h1 ⊢
  generalize sortP (addP ps j i) = b at h2 ⊢
  simp -implicitDefEqProofs [wp_seq, wp_bind, wp_ok, wp_ex, ob_ex, gSet, gNext, gDrop, gRet, gRetN, gIf, gBreak, gCont, gFor, gAsg, fVar, fC, fOp, fUn, fCl, fNil, fCons, fTup, fLst, gNilF, gConsF, dAll, Opd.d, Opd.fr, Val.d, putO, ob_ok, toB, tru, fNot, fAnd, fOr, fAndV, fOrV, isB, ofB, iSeq, iRange1, tName, tTupT, tsCons, tsNil, fYes, envP, envM, small, resO, own0, isOwn, noOwn, wipeB, backB, List.replicate, fMt, fCall, fCallB, fCallM, dTru, h1, h2, en_list]
end BV

namespace BV
open PySem PySem.Spec
open PyProof.Rows hiding St
open Enc
def irr (ps : List Pr) : Bool := (ps.filter fun p => decide (p.1 = p.2)).isEmpty
def waysOf (n : Nat) (ps : List Pr) (p : Pr) : List (List Pr) := [clo n (ps ++ [(p.1, p.2)]), clo n (ps ++ [(p.2, p.1)])]
def okQ (n : Nat) (ps : List Pr) (num : Int) (p : Pr) (q : Ent) : Bool := decide (num - 1 ≤ q.2) && (waysOf n ps p).any (within q.1)
def okW (n : Nat) (paper : List Ent) (ps : List Pr) (num : Int) (p : Pr) : Bool := paper.any (okQ n ps num p)
def goodE (n : Nat) (paper : List Ent) (ps : List Pr) (num : Int) : Bool := decide (0 ≤ num) && (decide (ps = clo n ps) && irr ps) && (decide (num ≤ 0) || (!(openP n ps).isEmpty && (openP n ps).all (okW n paper ps num)))
theorem mem_openP {n : Nat} {ps : List Pr} {p : Pr} : p ∈ openP n ps ↔ ∃ i j : Nat, i < j ∧ j < n ∧ p = ((i : Int), (j : Int)) ∧ ((i : Int), (j : Int)) ∉ ps ∧ ((j : Int), (i : Int)) ∉ ps := by
  unfold openP openJ
  simp only [List.mem_flatMap, List.mem_range, List.mem_map, List.mem_filter, Bool.and_eq_true, Bool.not_eq_true', decide_eq_false_iff_not]
  constructor
  · rintro ⟨j, hj, i, ⟨hi, h1, h2⟩, rfl⟩
    exact ⟨i, j, hi, hj, rfl, h1, h2⟩
  · rintro ⟨i, j, hi, hj, rfl, h1, h2⟩
    exact ⟨j, hj, i, ⟨hi, h1, h2⟩, rfl⟩
theorem inN_add {n : Nat} {ps : List Pr} {i j : Int} (hn : inN n ps) (hi : 0 ≤ i ∧ i < n) (hj : 0 ≤ j ∧ j < n) : inN n (ps ++ [(i, j)]) := by
  intro p m
  rcases List.mem_append.mp m with m | m
  · exact hn p m
  · rw [List.mem_singleton] at m
    subst m
    exact ⟨hi.1, hi.2, hj.1, hj.2⟩
theorem clo_len {n : Nat} {ps : List Pr} (hn : inN n ps) (hb : n ≤ 7) : (clo n ps).length ≤ 49 := Nat.le_trans (sorted_len (clo_isC hn).1 ((clo_isC hn).inN hn)) (Nat.mul_le_mul hb hb)
theorem openP_len (n : Nat) (ps : List Pr) : (openP n ps).length ≤ n * n := openS_len ps n n (Nat.le_refl n)
def PgI (n : Nat) (paper : List Ent) (ps : List Pr) (num : Int) (d : PyData) (done : List Pr) (e : BE) : Prop := (∃ x5 x6 x7, e = [some (.imm (.tuple (ps.map en))), some (.imm (.int num)), some (.imm d), some (.imm (.int n)), some (.own ((openP n ps).map en)), x5, x6, x7, none, none]) ∧ ∀ p ∈ done, okW n paper ps num p = true
theorem e__law_pair_good {n : Nat} {paper : List Ent} {ps : List Pr} {num : Int} {d : PyData} (hd : d = .tuple (paper.map en) ∨ d = .list (paper.map en)) (hn : inN n ps) (hb : n ≤ 7) (hl : ps.length ≤ 1000) (hpl : paper.length ≤ 10000) : G__law_pair_good [.tuple (ps.map en), .int num, d, .int n] = some (.ok (.imm (.bool (goodE n paper ps num)))) := by
  generalize hB : goodE n paper ps num = B
  refine (if_pos rfl).trans ?_
  apply runP_eq
  unfold g__law_pair_good
  have hlt : dLt (.int num) (.int 0) = some (.imm (.bool (decide (num < 0)))) := rfl
  have hgt : dGt (.int num) (.int 0) = some (.imm (.bool (decide (0 < num)))) := rfl
  by_cases c0 : num < 0
  · have : B = false := by
      rw [← hB]
      unfold goodE
      rw [decide_eq_false (by omega)]
      rfl
    simp -implicitDefEqProofs [wp_seq, wp_bind, wp_ok, wp_ex, ob_ex, gSet, gNext, gDrop, gRet, gRetN, gIf, gBreak, gCont, gFor, gAsg, fVar, fC, fOp, fUn, fCl, fNil, fCons, fTup, fLst, gNilF, gConsF, dAll, Opd.d, Opd.fr, Val.d, putO, ob_ok, toB, tru, fNot, fAnd, fOr, fAndV, fOrV, isB, ofB, iSeq, iRange1, tName, tTupT, tsCons, tsNil, fYes, envP, envM, small, resO, own0, isOwn, noOwn, wipeB, backB, List.replicate, fMt, fCall, fCallB, fCallM, dTru, hlt, c0, this]
  · refine wp_seqN (fun e => e = [some (.imm (.tuple (ps.map en))), some (.imm (.int num)), some (.imm d), some (.imm (.int n)), none, none, none, none, none, none]) ?_ ?_
    · simp -implicitDefEqProofs [wp_seq, wp_bind, wp_ok, wp_ex, ob_ex, gSet, gNext, gDrop, gRet, gRetN, gIf, gBreak, gCont, gFor, gAsg, fVar, fC, fOp, fUn, fCl, fNil, fCons, fTup, fLst, gNilF, gConsF, dAll, Opd.d, Opd.fr, Val.d, putO, ob_ok, toB, tru, fNot, fAnd, fOr, fAndV, fOrV, isB, ofB, iSeq, iRange1, tName, tTupT, tsCons, tsNil, fYes, envP, envM, small, resO, own0, isOwn, noOwn, wipeB, backB, List.replicate, fMt, fCall, fCallB, fCallM, dTru, hlt, c0]
    rintro _ rfl
    have hc := e__law_closed (d := .tuple (ps.map en)) rfl hn hb
    rw [en_list] at hc
    have hne := d_neT (α := Pr) (by decide) ps (clo n ps)
    have hgo := e__law_good (ps := ps) hl
    by_cases c1 : ps = clo n ps
    · have hne' : dNe (.tuple (ps.map en)) (.tuple ((clo n ps).map en)) = some (.imm (.bool false)) := by rw [hne, decide_eq_true c1]; rfl
      by_cases c2 : irr ps = true
      · unfold irr at c2
        rw [c2] at hgo
        have hop := e__law_open (ps := ps) (n := n) (by omega)
        have h0 := d_eq0 (α := Pr) (by decide) (openP n ps)
        have hol := openP_len n ps
        have hnn : n * n ≤ 49 := Nat.mul_le_mul hb hb
        have hB2 : B = (decide (num ≤ 0) || (!(openP n ps).isEmpty && (openP n ps).all (okW n paper ps num))) := by
          rw [← hB]
          unfold goodE irr
          rw [c2, decide_eq_true c1, decide_eq_true (by omega)]
          rfl
        have hmem : ∀ p ∈ openP n ps, (0 ≤ p.1 ∧ p.1 < n) ∧ (0 ≤ p.2 ∧ p.2 < n) := by
          intro p m
          obtain ⟨i, j, h1, h2, rfl, _⟩ := mem_openP.mp m
          exact ⟨⟨by show (0 : Int) ≤ (i : Int); omega, by show (i : Int) < n; omega⟩, by show (0 : Int) ≤ (j : Int); omega, by show (j : Int) < n; omega⟩
        generalize clo n ps = c at hc hne'
        refine wp_seqN (fun e => e = [some (.imm (.tuple (ps.map en))), some (.imm (.int num)), some (.imm d), some (.imm (.int n)), none, none, none, none, none, none]) ?_ ?_
        · simp -implicitDefEqProofs [wp_seq, wp_bind, wp_ok, wp_ex, ob_ex, gSet, gNext, gDrop, gRet, gRetN, gIf, gBreak, gCont, gFor, gAsg, fVar, fC, fOp, fUn, fCl, fNil, fCons, fTup, fLst, gNilF, gConsF, dAll, Opd.d, Opd.fr, Val.d, putO, ob_ok, toB, tru, fNot, fAnd, fOr, fAndV, fOrV, isB, ofB, iSeq, iRange1, tName, tTupT, tsCons, tsNil, fYes, envP, envM, small, resO, own0, isOwn, noOwn, wipeB, backB, List.replicate, fMt, fCall, fCallB, fCallM, dTru, hc, hne', hgo, scalar]
        rintro _ rfl
        refine wp_seqN (fun e => e = [some (.imm (.tuple (ps.map en))), some (.imm (.int num)), some (.imm d), some (.imm (.int n)), some (.own ((openP n ps).map en)), none, none, none, none, none]) ?_ ?_
        · generalize openP n ps = op at hop ⊢
          simp -implicitDefEqProofs [wp_seq, wp_bind, wp_ok, wp_ex, ob_ex, gSet, gNext, gDrop, gRet, gRetN, gIf, gBreak, gCont, gFor, gAsg, fVar, fC, fOp, fUn, fCl, fNil, fCons, fTup, fLst, gNilF, gConsF, dAll, Opd.d, Opd.fr, Val.d, putO, ob_ok, toB, tru, fNot, fAnd, fOr, fAndV, fOrV, isB, ofB, iSeq, iRange1, tName, tTupT, tsCons, tsNil, fYes, envP, envM, small, resO, own0, isOwn, noOwn, wipeB, backB, List.replicate, fMt, fCall, fCallB, fCallM, dTru, hop]
        rintro _ rfl
        by_cases c3 : 0 < num ∧ openP n ps = []
        · have : B = false := by
            rw [hB2, c3.2, decide_eq_false (by omega)]
            rfl
          have hie : dEq (.list ((openP n ps).map en)) (.list []) = some (.imm (.bool true)) := by rw [h0, c3.2]; rfl
          generalize openP n ps = op at hie
          simp -implicitDefEqProofs [wp_seq, wp_bind, wp_ok, wp_ex, ob_ex, gSet, gNext, gDrop, gRet, gRetN, gIf, gBreak, gCont, gFor, gAsg, fVar, fC, fOp, fUn, fCl, fNil, fCons, fTup, fLst, gNilF, gConsF, dAll, Opd.d, Opd.fr, Val.d, putO, ob_ok, toB, tru, fNot, fAnd, fOr, fAndV, fOrV, isB, ofB, iSeq, iRange1, tName, tTupT, tsCons, tsNil, fYes, envP, envM, small, resO, own0, isOwn, noOwn, wipeB, backB, List.replicate, fMt, fCall, fCallB, fCallM, dTru, hgt, c3.1, hie, this]
        · have hfirst : gIf (fAnd (toB (fOp dGt (fVar 1) (fC (.int 0)))) (toB (fOp dEq (fVar 4) (fLst (gNilF))))) (gRet (fC (.bool false))) (gNext) [some (.imm (.tuple (ps.map en))), some (.imm (.int num)), some (.imm d), some (.imm (.int n)), some (.own ((openP n ps).map en)), none, none, none, none, none] = some (.ok .nx [some (.imm (.tuple (ps.map en))), some (.imm (.int num)), some (.imm d), some (.imm (.int n)), some (.own ((openP n ps).map en)), none, none, none, none, none]) := by
            by_cases c4 : 0 < num
            · have hie : dEq (.list ((openP n ps).map en)) (.list []) = some (.imm (.bool false)) := by
                rw [h0]
                have : openP n ps ≠ [] := fun z => c3 ⟨c4, z⟩
                cases hh : openP n ps with
                | nil => exact absurd hh this
                | cons _ _ => rfl
              generalize openP n ps = op at hie ⊢
              simp -implicitDefEqProofs [wp_seq, wp_bind, wp_ok, wp_ex, ob_ex, gSet, gNext, gDrop, gRet, gRetN, gIf, gBreak, gCont, gFor, gAsg, fVar, fC, fOp, fUn, fCl, fNil, fCons, fTup, fLst, gNilF, gConsF, dAll, Opd.d, Opd.fr, Val.d, putO, ob_ok, toB, tru, fNot, fAnd, fOr, fAndV, fOrV, isB, ofB, iSeq, iRange1, tName, tTupT, tsCons, tsNil, fYes, envP, envM, small, resO, own0, isOwn, noOwn, wipeB, backB, List.replicate, fMt, fCall, fCallB, fCallM, dTru, hgt, c4, hie]
            · generalize openP n ps = op
              simp -implicitDefEqProofs [wp_seq, wp_bind, wp_ok, wp_ex, ob_ex, gSet, gNext, gDrop, gRet, gRetN, gIf, gBreak, gCont, gFor, gAsg, fVar, fC, fOp, fUn, fCl, fNil, fCons, fTup, fLst, gNilF, gConsF, dAll, Opd.d, Opd.fr, Val.d, putO, ob_ok, toB, tru, fNot, fAnd, fOr, fAndV, fOrV, isB, ofB, iSeq, iRange1, tName, tTupT, tsCons, tsNil, fYes, envP, envM, small, resO, own0, isOwn, noOwn, wipeB, backB, List.replicate, fMt, fCall, fCallB, fCallM, dTru, hgt, c4]
          rw [wp_seq, hfirst, wp_ok]
          dsimp only
          rw [wp_seq]
          have hit : iSeq (fOp dMulA (fVar 4) (fCl dInt (fCons (fOp dGt (fVar 1) (fC (.int 0))) (fNil)))) [some (.imm (.tuple (ps.map en))), some (.imm (.int num)), some (.imm d), some (.imm (.int n)), some (.own ((openP n ps).map en)), none, none, none, none, none] = some (.ok ((if 0 < num then openP n ps else []).map en) [some (.imm (.tuple (ps.map en))), some (.imm (.int num)), some (.imm d), some (.imm (.int n)), some (.own ((openP n ps).map en)), none, none, none, none, none]) := by
            have hol2 : (openP n ps).length ≤ 49 := Nat.le_trans hol hnn
            generalize openP n ps = op at hol2 ⊢
            by_cases c4 : 0 < num
            · have hs : op.length ≤ 100000 := by omega
              simp -implicitDefEqProofs [wp_seq, wp_bind, wp_ok, wp_ex, ob_ex, gSet, gNext, gDrop, gRet, gRetN, gIf, gBreak, gCont, gFor, gAsg, fVar, fC, fOp, fUn, fCl, fNil, fCons, fTup, fLst, gNilF, gConsF, dAll, Opd.d, Opd.fr, Val.d, putO, ob_ok, toB, tru, fNot, fAnd, fOr, fAndV, fOrV, isB, ofB, iSeq, iRange1, tName, tTupT, tsCons, tsNil, fYes, envP, envM, small, resO, own0, isOwn, noOwn, wipeB, backB, List.replicate, fMt, fCall, fCallB, fCallM, dTru, hgt, c4, dInt, dMulA, hs]
            · simp -implicitDefEqProofs [wp_seq, wp_bind, wp_ok, wp_ex, ob_ex, gSet, gNext, gDrop, gRet, gRetN, gIf, gBreak, gCont, gFor, gAsg, fVar, fC, fOp, fUn, fCl, fNil, fCons, fTup, fLst, gNilF, gConsF, dAll, Opd.d, Opd.fr, Val.d, putO, ob_ok, toB, tru, fNot, fAnd, fOr, fAndV, fOrV, isB, ofB, iSeq, iRange1, tName, tTupT, tsCons, tsNil, fYes, envP, envM, small, resO, own0, isOwn, noOwn, wipeB, backB, List.replicate, fMt, fCall, fCallB, fCallM, dTru, hgt, c4, dInt, dMulA]
          refine wp_forS en _ hit (PgI n paper ps num d) ⟨⟨_, _, _, rfl⟩, by simp⟩ ?_ ?_
          · rintro done p rest hx _ ⟨⟨x5, x6, x7, rfl⟩, hok⟩
            have pos : 0 < num := by
              apply Classical.byContradiction
              intro z
              rw [if_neg z] at hx
              simp at hx
            rw [if_pos pos] at hx
            have hp : p ∈ openP n ps := by rw [hx]; simp
            obtain ⟨m1, m2⟩ := hmem p hp
            have hna := inN_add hn m1 m2
            have hnb := inN_add hn m2 m1
            refine ⟨_, rfl, ?_⟩
            have ca := e__law_closed (d := .tuple ((ps ++ [(p.1, p.2)]).map en)) rfl hna hb
            have cb := e__law_closed (d := .tuple ((ps ++ [(p.2, p.1)]).map en)) rfl hnb hb
            have pa : dPlus (.tuple (ps.map en)) (.tuple [.tuple [.int p.1, .int p.2]]) = some (.imm (.tuple ((ps ++ [(p.1, p.2)]).map en))) := d_catT (a := ps) (b := [(p.1, p.2)]) (by simp; omega)
            have pb : dPlus (.tuple (ps.map en)) (.tuple [.tuple [.int p.2, .int p.1]]) = some (.imm (.tuple ((ps ++ [(p.2, p.1)]).map en))) := d_catT (a := ps) (b := [(p.2, p.1)]) (by simp; omega)
            have la := clo_len hna hb
            have lb := clo_len hnb hb
            rw [en_list] at ca cb
            have hB3 : okW n paper ps num p = false → B = false := fun z => by
              rw [hB2, decide_eq_false (by omega), Bool.false_or]
              have : (openP n ps).all (okW n paper ps num) = false := by
                rw [List.all_eq_false]
                exact ⟨p, hp, by rw [z]; decide⟩
              rw [this, Bool.and_false]
            have hJ : okW n paper ps num p = true → PgI n paper ps num d (done ++ [p]) [some (.imm (.tuple (ps.map en))), some (.imm (.int num)), some (.imm d), some (.imm (.int n)), some (.own ((openP n ps).map en)), some (.imm (.int p.1)), some (.imm (.int p.2)), some (.own ((waysOf n ps p).map en)), none, none] := fun z => by
              refine ⟨⟨_, _, _, rfl⟩, fun q m => ?_⟩
              rcases List.mem_append.mp m with m | m
              · exact hok q m
              · rw [List.mem_singleton] at m
                rw [m]
                exact z
            have hokq : ∀ q : Ent, okQ n ps num p q = (decide (num - 1 ≤ q.2) && ([clo n (ps ++ [(p.1, p.2)]), clo n (ps ++ [(p.2, p.1)])] : List (List Pr)).any (within q.1)) := fun q => rfl
            have hokw : okW n paper ps num p = paper.any (okQ n ps num p) := rfl
            unfold waysOf at hJ
            generalize (ps ++ [(p.1, p.2)]).map en = da at *
            generalize (ps ++ [(p.2, p.1)]).map en = db at *
            generalize clo n (ps ++ [(p.1, p.2)]) = la' at *
            generalize clo n (ps ++ [(p.2, p.1)]) = lb' at *
            generalize openP n ps = op at *
            show wp (gSeq _ _ [some (.imm (.tuple (ps.map en))), some (.imm (.int num)), some (.imm d), some (.imm (.int n)), some (.own (op.map en)), some (.imm (.int p.1)), some (.imm (.int p.2)), x7, none, none]) _ _
            refine wp_seqN (fun e => e = [some (.imm (.tuple (ps.map en))), some (.imm (.int num)), some (.imm d), some (.imm (.int n)), some (.own (op.map en)), some (.imm (.int p.1)), some (.imm (.int p.2)), some (.own (([la', lb'] : List (List Pr)).map en)), none, none]) ?_ ?_
            · simp -implicitDefEqProofs [wp_seq, wp_bind, wp_ok, wp_ex, ob_ex, gSet, gNext, gDrop, gRet, gRetN, gIf, gBreak, gCont, gFor, gAsg, fVar, fC, fOp, fUn, fCl, fNil, fCons, fTup, fLst, gNilF, gConsF, dAll, Opd.d, Opd.fr, Val.d, putO, ob_ok, toB, tru, fNot, fAnd, fOr, fAndV, fOrV, isB, ofB, iSeq, iRange1, tName, tTupT, tsCons, tsNil, fYes, envP, envM, small, resO, own0, isOwn, noOwn, wipeB, backB, List.replicate, fMt, fCall, fCallB, fCallM, dTru, pa, pb, ca, cb, en_list]
            rintro _ rfl
            generalize hlw : ([la', lb'] : List (List Pr)) = lw at hJ hokq ⊢
            have hsub : dSub (.int num) (.int 1) = some (.imm (.int (num - 1))) := rfl
            have hlc := lc_eq (vs := [8, 9]) (fi := iSeq (fVar 2)) (tg := (tTupT (tsCons (tName 8) (tsCons (tName 9) (tsNil))))) (ft := (fAnd (toB (fOp dGe (fVar 9) (fOp dSub (fVar 1) (fC (.int 1))))) (tru (fCallB G__law_within (fCons (fVar 8) (fCons (fVar 7) (fNil))))))) (fe := (fC (.int 1)))
              (e := [some (.imm (.tuple (ps.map en))), some (.imm (.int num)), some (.imm d), some (.imm (.int n)), some (.own (op.map en)), some (.imm (.int p.1)), some (.imm (.int p.2)), some (.own (lw.map en)), none, none])
              (e1 := [some (.imm (.tuple (ps.map en))), some (.imm (.int num)), some (.imm d), some (.imm (.int n)), some (.own (op.map en)), some (.imm (.int p.1)), some (.imm (.int p.2)), some (.own (lw.map en)), none, none])
              en paper (okQ n ps num p) (fun _ => en (1 : Int)) (by rcases hd with rfl | rfl <;> rfl) rfl (by omega) rfl ?_
            · have h0' := d_eq0 (α := Int) (by decide) ((paper.filter (okQ n ps num p)).map fun _ => (1 : Int))
              have hm : List.map (fun _ => en (1 : Int)) (paper.filter (okQ n ps num p)) = ((paper.filter (okQ n ps num p)).map fun _ => (1 : Int)).map en := by rw [List.map_map]; rfl
              rw [hm] at hlc
              cases z : okW n paper ps num p with
              | true =>
                have hne : ((paper.filter (okQ n ps num p)).map fun _ => (1 : Int)).isEmpty = false := by
                  rw [hokw, List.any_eq_true] at z
                  obtain ⟨q, hq, hz⟩ := z
                  have : q ∈ paper.filter (okQ n ps num p) := List.mem_filter.mpr ⟨hq, hz⟩
                  cases hh : paper.filter (okQ n ps num p) with
                  | nil => rw [hh] at this; simp at this
                  | cons _ _ => rfl
                have hJ := hJ z
                rw [hne] at h0'
                generalize ((paper.filter (okQ n ps num p)).map fun _ => (1 : Int)) = l at h0' hlc
                simp -implicitDefEqProofs [wp_seq, wp_bind, wp_ok, wp_ex, ob_ex, gSet, gNext, gDrop, gRet, gRetN, gIf, gBreak, gCont, gFor, gAsg, fVar, fC, fOp, fUn, fCl, fNil, fCons, fTup, fLst, gNilF, gConsF, dAll, Opd.d, Opd.fr, Val.d, putO, ob_ok, toB, tru, fNot, fAnd, fOr, fAndV, fOrV, isB, ofB, iSeq, iRange1, tName, tTupT, tsCons, tsNil, fYes, envP, envM, small, resO, own0, isOwn, noOwn, wipeB, backB, List.replicate, fMt, fCall, fCallB, fCallM, dTru, hlc, h0']
                exact hJ
              | false =>
                have hne : ((paper.filter (okQ n ps num p)).map fun _ => (1 : Int)).isEmpty = true := by
                  rw [hokw, List.any_eq_false] at z
                  have : paper.filter (okQ n ps num p) = [] := List.filter_eq_nil_iff.mpr z
                  rw [this]
                  rfl
                have hB3 := hB3 z
                rw [hne] at h0'
                generalize ((paper.filter (okQ n ps num p)).map fun _ => (1 : Int)) = l at h0' hlc
                simp -implicitDefEqProofs [wp_seq, wp_bind, wp_ok, wp_ex, ob_ex, gSet, gNext, gDrop, gRet, gRetN, gIf, gBreak, gCont, gFor, gAsg, fVar, fC, fOp, fUn, fCl, fNil, fCons, fTup, fLst, gNilF, gConsF, dAll, Opd.d, Opd.fr, Val.d, putO, ob_ok, toB, tru, fNot, fAnd, fOr, fAndV, fOrV, isB, ofB, iSeq, iRange1, tName, tTupT, tsCons, tsNil, fYes, envP, envM, small, resO, own0, isOwn, noOwn, wipeB, backB, List.replicate, fMt, fCall, fCallB, fCallM, dTru, hlc, h0']
                rw [hB3]
            · intro q hq
              refine ⟨_, rfl, rfl, ?_, fun _ => ⟨_, rfl, rfl⟩⟩
              have hge : dGe (.int q.2) (.int (num - 1)) = some (.imm (.bool (decide (num - 1 ≤ q.2)))) := rfl
              have hw := e__law_within (one := q.1) (ways := lw) (by rw [← hlw]; simp) (by
                intro w m
                rw [← hlw] at m
                rcases List.mem_cons.mp m with rfl | m
                · omega
                · rw [List.mem_singleton] at m
                  subst m
                  omega)
              show fAnd _ _ [some (.imm (.tuple (ps.map en))), some (.imm (.int num)), some (.imm d), some (.imm (.int n)), some (.own (op.map en)), some (.imm (.int p.1)), some (.imm (.int p.2)), some (.own (lw.map en)), some (.imm (.tuple (q.1.map en))), some (.imm (.int q.2))] = _
              rw [hokq]
              by_cases c5 : num - 1 ≤ q.2
              · simp -implicitDefEqProofs [wp_seq, wp_bind, wp_ok, wp_ex, ob_ex, gSet, gNext, gDrop, gRet, gRetN, gIf, gBreak, gCont, gFor, gAsg, fVar, fC, fOp, fUn, fCl, fNil, fCons, fTup, fLst, gNilF, gConsF, dAll, Opd.d, Opd.fr, Val.d, putO, ob_ok, toB, tru, fNot, fAnd, fOr, fAndV, fOrV, isB, ofB, iSeq, iRange1, tName, tTupT, tsCons, tsNil, fYes, envP, envM, small, resO, own0, isOwn, noOwn, wipeB, backB, List.replicate, fMt, fCall, fCallB, fCallM, dTru, hsub, hge, c5, hw, scalar]
                exact ⟨rfl, rfl⟩
              · simp -implicitDefEqProofs [wp_seq, wp_bind, wp_ok, wp_ex, ob_ex, gSet, gNext, gDrop, gRet, gRetN, gIf, gBreak, gCont, gFor, gAsg, fVar, fC, fOp, fUn, fCl, fNil, fCons, fTup, fLst, gNilF, gConsF, dAll, Opd.d, Opd.fr, Val.d, putO, ob_ok, toB, tru, fNot, fAnd, fOr, fAndV, fOrV, isB, ofB, iSeq, iRange1, tName, tTupT, tsCons, tsNil, fYes, envP, envM, small, resO, own0, isOwn, noOwn, wipeB, backB, List.replicate, fMt, fCall, fCallB, fCallM, dTru, hsub, hge, c5]
                exact ⟨rfl, rfl⟩
          · rintro _ ⟨⟨x5, x6, x7, rfl⟩, hok⟩
            have : B = true := by
              rw [hB2]
              by_cases c4 : num ≤ 0
              · rw [decide_eq_true c4]
                rfl
              · rw [if_pos (by omega)] at hok
                rw [decide_eq_false c4, Bool.false_or]
                have h1 : (openP n ps).all (okW n paper ps num) = true := List.all_eq_true.mpr hok
                have h2 : openP n ps ≠ [] := fun z => c3 ⟨by omega, z⟩
                rw [h1, Bool.and_true]
                cases hh : openP n ps with
                | nil => exact absurd hh h2
                | cons _ _ => rfl
            simp -implicitDefEqProofs [wp_seq, wp_bind, wp_ok, wp_ex, ob_ex, gSet, gNext, gDrop, gRet, gRetN, gIf, gBreak, gCont, gFor, gAsg, fVar, fC, fOp, fUn, fCl, fNil, fCons, fTup, fLst, gNilF, gConsF, dAll, Opd.d, Opd.fr, Val.d, putO, ob_ok, toB, tru, fNot, fAnd, fOr, fAndV, fOrV, isB, ofB, iSeq, iRange1, tName, tTupT, tsCons, tsNil, fYes, envP, envM, small, resO, own0, isOwn, noOwn, wipeB, backB, List.replicate, fMt, fCall, fCallB, fCallM, dTru, this]
      · have hie : ((ps.filter fun p => decide (p.1 = p.2)).isEmpty) = false := Bool.eq_false_iff.mpr c2
        rw [hie] at hgo
        have : B = false := by
          rw [← hB]
          unfold goodE
          rw [Bool.eq_false_iff.mpr c2, Bool.and_false, Bool.and_false, Bool.false_and]
        generalize clo n ps = c at hc hne'
        simp -implicitDefEqProofs [wp_seq, wp_bind, wp_ok, wp_ex, ob_ex, gSet, gNext, gDrop, gRet, gRetN, gIf, gBreak, gCont, gFor, gAsg, fVar, fC, fOp, fUn, fCl, fNil, fCons, fTup, fLst, gNilF, gConsF, dAll, Opd.d, Opd.fr, Val.d, putO, ob_ok, toB, tru, fNot, fAnd, fOr, fAndV, fOrV, isB, ofB, iSeq, iRange1, tName, tTupT, tsCons, tsNil, fYes, envP, envM, small, resO, own0, isOwn, noOwn, wipeB, backB, List.replicate, fMt, fCall, fCallB, fCallM, dTru, hc, hne', hgo, this, scalar]
    · have hne' : dNe (.tuple (ps.map en)) (.tuple ((clo n ps).map en)) = some (.imm (.bool true)) := by rw [hne, decide_eq_false c1]; rfl
      have : B = false := by
        rw [← hB]
        unfold goodE
        rw [decide_eq_false c1, Bool.false_and, Bool.and_false, Bool.false_and]
      generalize clo n ps = c at hc hne'
      simp -implicitDefEqProofs [wp_seq, wp_bind, wp_ok, wp_ex, ob_ex, gSet, gNext, gDrop, gRet, gRetN, gIf, gBreak, gCont, gFor, gAsg, fVar, fC, fOp, fUn, fCl, fNil, fCons, fTup, fLst, gNilF, gConsF, dAll, Opd.d, Opd.fr, Val.d, putO, ob_ok, toB, tru, fNot, fAnd, fOr, fAndV, fOrV, isB, ofB, iSeq, iRange1, tName, tTupT, tsCons, tsNil, fYes, envP, envM, small, resO, own0, isOwn, noOwn, wipeB, backB, List.replicate, fMt, fCall, fCallB, fCallM, dTru, hc, hne', this]
end BV

namespace BV
open PySem PySem.Spec
open PyProof.Rows hiding St
open Enc
def b1 (n : Nat) (q : Ent) : Bool := decide (0 ≤ q.2) && isK n q.1
def hasB (paper : List Ent) (q : Ent) (p : Pr) : Bool := ([sortP (addP q.1 p.1 p.2), sortP (addP q.1 p.2 p.1)] : List (List Pr)).any fun w => hasM paper w (q.2 - 1)
def b2 (n : Nat) (paper : List Ent) (q : Ent) : Bool := decide (q.2 ≤ 0) || (!(openP n q.1).isEmpty && (openP n q.1).all (hasB paper q))
def bnd (n : Nat) (paper : List Ent) : Bool := paper.all (b1 n) && paper.all (b2 n paper)
def BsI (n : Nat) (paper : List Ent) (e : BE) : Prop := ∃ x2 x3 x4 x5 x6, e = [some (.imm (.tuple (paper.map en))), some (.imm (.int n)), x2, x3, x4, x5, x6, none]
def Bs1 (n : Nat) (paper : List Ent) (b : Ent → Bool) (done : List Ent) (e : BE) : Prop := BsI n paper e ∧ ∀ q ∈ done, b q = true
def Bs2 (n : Nat) (paper : List Ent) (q : Ent) (done : List Pr) (e : BE) : Prop := (∃ x5 x6, e = [some (.imm (.tuple (paper.map en))), some (.imm (.int n)), some (.imm (.tuple (q.1.map en))), some (.imm (.int q.2)), some (.imm (.list ((openP n q.1).map en))), x5, x6, none]) ∧ ∀ p ∈ done, hasB paper q p = true
theorem addP_len {ps : List Pr} {i j : Int} (hl : ps.length ≤ 60) : (addP ps i j).length ≤ 10000 := by
  unfold addP
  rw [List.length_append]
  have ha1 := flat_len (addJ ps j) (ps.length + 1) (firsts ps i) fun x _ => addJ_len ps j x
  have hf := firsts_len ps i
  have ha3 : (firsts ps i).length * (ps.length + 1) ≤ 61 * 61 := Nat.mul_le_mul (by omega) (by omega)
  omega
theorem insP_len (p : Pr) : ∀ l : List Pr, (insP p l).length ≤ l.length + 1
  | [] => Nat.le_refl _
  | x :: l => by
    unfold insP
    split
    · exact Nat.le_refl _
    · split
      · exact Nat.le_succ _
      · rw [List.length_cons, List.length_cons]
        have := insP_len p l
        omega
theorem sortP_len : ∀ l : List Pr, (sortP l).length ≤ l.length
  | [] => Nat.le_refl _
  | x :: l => Nat.le_trans (insP_len x (sortP l)) (by rw [List.length_cons]; have := sortP_len l; omega)
theorem set_np {G : List PyData → Option Res} {a b : PyData} {op : List PyData} {x0 x3 y4 y5 y6 x7 : Option Sl} (hG : G [a, b] = some (.ok (.new op))) : gSet 4 (fCall G (gConsF (fVar 2) (gConsF (fVar 1) (gNilF)))) [x0, some (.imm b), some (.imm a), x3, y4, y5, y6, x7] = some (.ok .nx [x0, some (.imm b), some (.imm a), x3, some (.own op), y5, y6, x7]) := by
  simp -implicitDefEqProofs [wp_seq, wp_bind, wp_ok, wp_ex, ob_ex, gSet, gNext, gDrop, gRet, gRetN, gIf, gBreak, gCont, gFor, gAsg, fVar, fC, fOp, fUn, fCl, fNil, fCons, fTup, fLst, gNilF, gConsF, dAll, Opd.d, Opd.fr, Val.d, putO, ob_ok, toB, tru, fNot, fAnd, fOr, fAndV, fOrV, isB, ofB, iSeq, iRange1, tName, tTupT, tsCons, tsNil, fYes, envP, envM, small, resO, own0, isOwn, noOwn, wipeB, backB, List.replicate, fMt, fCall, fCallB, fCallM, dTru, hG]
theorem e_bound_shown {n : Nat} {paper : List Ent} (hb : n ≤ 7) (hn : ∀ q ∈ paper, inN n q.1) (hpl : paper.length ≤ 10000) (hl : ∀ q ∈ paper, q.1.length ≤ 1000) : G_bound_shown [.tuple (paper.map en), .int n] = some (.ok (.imm (.bool (bnd n paper)))) := by
  generalize hB : bnd n paper = B
  refine (if_pos rfl).trans ?_
  apply runP_eq
  unfold g_bound_shown
  rw [wp_seq]
  refine wp_forS en paper rfl (Bs1 n paper (b1 n)) ⟨⟨_, _, _, _, _, rfl⟩, by simp⟩ ?_ ?_
  · rintro done q rest hx _ ⟨⟨x2, x3, x4, x5, x6, rfl⟩, hok⟩
    have hq : q ∈ paper := by rw [hx]; simp
    refine ⟨_, rfl, ?_⟩
    have hlt : dLt (.int q.2) (.int 0) = some (.imm (.bool (decide (q.2 < 0)))) := rfl
    have hk := e_is_known (hn q hq) hb
    have hB1 : b1 n q = false → B = false := fun z => by
      rw [← hB]
      unfold bnd
      have : paper.all (b1 n) = false := by
        rw [List.all_eq_false]
        exact ⟨q, hq, by rw [z]; decide⟩
      rw [this, Bool.false_and]
    have hJ : b1 n q = true → Bs1 n paper (b1 n) (done ++ [q]) [some (.imm (.tuple (paper.map en))), some (.imm (.int n)), some (.imm (.tuple (q.1.map en))), some (.imm (.int q.2)), x4, x5, x6, none] := fun z => by
      refine ⟨⟨_, _, _, _, _, rfl⟩, fun r m => ?_⟩
      rcases List.mem_append.mp m with m | m
      · exact hok r m
      · rw [List.mem_singleton] at m
        rw [m]
        exact z
    show wp (gIf _ _ _ [some (.imm (.tuple (paper.map en))), some (.imm (.int n)), some (.imm (.tuple (q.1.map en))), some (.imm (.int q.2)), x4, x5, x6, none]) _ _
    have hb1e : b1 n q = (decide (0 ≤ q.2) && isK n q.1) := rfl
    rw [hb1e] at hB1 hJ
    by_cases c0 : q.2 < 0
    · have := hB1 (by rw [decide_eq_false (by omega)]; rfl)
      simp -implicitDefEqProofs [wp_seq, wp_bind, wp_ok, wp_ex, ob_ex, gSet, gNext, gDrop, gRet, gRetN, gIf, gBreak, gCont, gFor, gAsg, fVar, fC, fOp, fUn, fCl, fNil, fCons, fTup, fLst, gNilF, gConsF, dAll, Opd.d, Opd.fr, Val.d, putO, ob_ok, toB, tru, fNot, fAnd, fOr, fAndV, fOrV, isB, ofB, iSeq, iRange1, tName, tTupT, tsCons, tsNil, fYes, envP, envM, small, resO, own0, isOwn, noOwn, wipeB, backB, List.replicate, fMt, fCall, fCallB, fCallM, dTru, hlt, c0, this]
    · rw [decide_eq_true (by omega), Bool.true_and] at hB1 hJ
      cases z : isK n q.1 with
      | true =>
        rw [z] at hk
        have hJ := hJ z
        simp -implicitDefEqProofs [wp_seq, wp_bind, wp_ok, wp_ex, ob_ex, gSet, gNext, gDrop, gRet, gRetN, gIf, gBreak, gCont, gFor, gAsg, fVar, fC, fOp, fUn, fCl, fNil, fCons, fTup, fLst, gNilF, gConsF, dAll, Opd.d, Opd.fr, Val.d, putO, ob_ok, toB, tru, fNot, fAnd, fOr, fAndV, fOrV, isB, ofB, iSeq, iRange1, tName, tTupT, tsCons, tsNil, fYes, envP, envM, small, resO, own0, isOwn, noOwn, wipeB, backB, List.replicate, fMt, fCall, fCallB, fCallM, dTru, hlt, c0, hk, scalar]
        exact hJ
      | false =>
        rw [z] at hk
        have := hB1 z
        simp -implicitDefEqProofs [wp_seq, wp_bind, wp_ok, wp_ex, ob_ex, gSet, gNext, gDrop, gRet, gRetN, gIf, gBreak, gCont, gFor, gAsg, fVar, fC, fOp, fUn, fCl, fNil, fCons, fTup, fLst, gNilF, gConsF, dAll, Opd.d, Opd.fr, Val.d, putO, ob_ok, toB, tru, fNot, fAnd, fOr, fAndV, fOrV, isB, ofB, iSeq, iRange1, tName, tTupT, tsCons, tsNil, fYes, envP, envM, small, resO, own0, isOwn, noOwn, wipeB, backB, List.replicate, fMt, fCall, fCallB, fCallM, dTru, hlt, c0, hk, scalar, this]
  · rintro _ ⟨⟨x2, x3, x4, x5, x6, rfl⟩, hall⟩
    dsimp only
    have hB2 : B = paper.all (b2 n paper) := by
      rw [← hB]
      unfold bnd
      rw [List.all_eq_true.mpr hall, Bool.true_and]
    rw [wp_seq]
    refine wp_forS en paper rfl (Bs1 n paper (b2 n paper)) ⟨⟨_, _, _, _, _, rfl⟩, by simp⟩ ?_ ?_
    · rintro done q rest hx _ ⟨⟨y2, y3, y4, y5, y6, rfl⟩, hok⟩
      have hq : q ∈ paper := by rw [hx]; simp
      have hb1 := hall q hq
      unfold b1 at hb1
      rw [Bool.and_eq_true, isK_iff (hn q hq)] at hb1
      obtain ⟨hnn, hic, hac⟩ := hb1
      have hnd := sorted_nodup hic.1
      have hself : ∀ a, (a, a) ∉ q.1 := fun a m => hac a (.one m)
      have hq49 : q.1.length ≤ 49 := Nat.le_trans (sorted_len hic.1 (hn q hq)) (Nat.mul_le_mul hb hb)
      refine ⟨_, rfl, ?_⟩
      have hop := e_not_parted (ps := q.1) (n := n) (by omega)
      have h0 := d_eq0 (α := Pr) (by decide) (openP n q.1)
      have hgt : dGt (.int q.2) (.int 0) = some (.imm (.bool (decide (0 < q.2)))) := rfl
      have hsub : dSub (.int q.2) (.int 1) = some (.imm (.int (q.2 - 1))) := rfl
      have hB3 : b2 n paper q = false → B = false := fun z => by
        rw [hB2, List.all_eq_false]
        exact ⟨q, hq, by rw [z]; decide⟩
      have hJ : ∀ x4 x5 x6, b2 n paper q = true → Bs1 n paper (b2 n paper) (done ++ [q]) [some (.imm (.tuple (paper.map en))), some (.imm (.int n)), some (.imm (.tuple (q.1.map en))), some (.imm (.int q.2)), x4, x5, x6, none] := fun _ _ _ z => by
        refine ⟨⟨_, _, _, _, _, rfl⟩, fun r m => ?_⟩
        rcases List.mem_append.mp m with m | m
        · exact hok r m
        · rw [List.mem_singleton] at m
          rw [m]
          exact z
      have hb2 : b2 n paper q = (decide (q.2 ≤ 0) || (!(openP n q.1).isEmpty && (openP n q.1).all (hasB paper q))) := rfl
      show wp (gSeq _ _ [some (.imm (.tuple (paper.map en))), some (.imm (.int n)), some (.imm (.tuple (q.1.map en))), some (.imm (.int q.2)), y4, y5, y6, none]) _ _
      refine wp_seqN (fun e => e = [some (.imm (.tuple (paper.map en))), some (.imm (.int n)), some (.imm (.tuple (q.1.map en))), some (.imm (.int q.2)), some (.own ((openP n q.1).map en)), y5, y6, none]) ?_ ?_
      · rw [set_np hop, wp_ok]
        exact ⟨rfl, rfl⟩
      rintro _ rfl
      by_cases c4 : 0 < q.2
      · cases ho : openP n q.1 with
        | nil =>
          have hz := hB3 (by rw [hb2, ho, decide_eq_false (by omega)]; rfl)
          rw [ho] at h0
          have h0 : dEq (.list []) (.list []) = some (.imm (.bool true)) := h0
          simp -implicitDefEqProofs [wp_seq, wp_bind, wp_ok, wp_ex, ob_ex, gSet, gNext, gDrop, gRet, gRetN, gIf, gBreak, gCont, gFor, gAsg, fVar, fC, fOp, fUn, fCl, fNil, fCons, fTup, fLst, gNilF, gConsF, dAll, Opd.d, Opd.fr, Val.d, putO, ob_ok, toB, tru, fNot, fAnd, fOr, fAndV, fOrV, isB, ofB, iSeq, iRange1, tName, tTupT, tsCons, tsNil, fYes, envP, envM, small, resO, own0, isOwn, noOwn, wipeB, backB, List.replicate, fMt, fCall, fCallB, fCallM, dTru, hgt, c4, h0, hz]
        | cons p0 ops =>
          have hne : (openP n q.1).isEmpty = false := by rw [ho]; rfl
          rw [← ho]
          rw [hne] at h0
          have hb3 : b2 n paper q = (openP n q.1).all (hasB paper q) := by
            rw [hb2, hne, decide_eq_false (by omega)]
            rfl
          refine wp_seqN (fun e => e = [some (.imm (.tuple (paper.map en))), some (.imm (.int n)), some (.imm (.tuple (q.1.map en))), some (.imm (.int q.2)), some (.own ((openP n q.1).map en)), y5, y6, none]) ?_ ?_
          · generalize openP n q.1 = op at h0 ⊢
            simp -implicitDefEqProofs [wp_seq, wp_bind, wp_ok, wp_ex, ob_ex, gSet, gNext, gDrop, gRet, gRetN, gIf, gBreak, gCont, gFor, gAsg, fVar, fC, fOp, fUn, fCl, fNil, fCons, fTup, fLst, gNilF, gConsF, dAll, Opd.d, Opd.fr, Val.d, putO, ob_ok, toB, tru, fNot, fAnd, fOr, fAndV, fOrV, isB, ofB, iSeq, iRange1, tName, tTupT, tsCons, tsNil, fYes, envP, envM, small, resO, own0, isOwn, noOwn, wipeB, backB, List.replicate, fMt, fCall, fCallB, fCallM, dTru, hgt, c4, h0]
          rintro _ rfl
          have hgif : ∀ (g : M Flw) e, e = [some (.imm (.tuple (paper.map en))), some (.imm (.int n)), some (.imm (.tuple (q.1.map en))), some (.imm (.int q.2)), some (.own ((openP n q.1).map en)), y5, y6, none] → gIf (toB (fOp dGt (fVar 3) (fC (.int 0)))) g gNext e = g e := by
            intro g e he
            subst he
            generalize openP n q.1 = op
            simp -implicitDefEqProofs [wp_seq, wp_bind, wp_ok, wp_ex, ob_ex, gSet, gNext, gDrop, gRet, gRetN, gIf, gBreak, gCont, gFor, gAsg, fVar, fC, fOp, fUn, fCl, fNil, fCons, fTup, fLst, gNilF, gConsF, dAll, Opd.d, Opd.fr, Val.d, putO, ob_ok, toB, tru, fNot, fAnd, fOr, fAndV, fOrV, isB, ofB, iSeq, iRange1, tName, tTupT, tsCons, tsNil, fYes, envP, envM, small, resO, own0, isOwn, noOwn, wipeB, backB, List.replicate, fMt, fCall, fCallB, fCallM, dTru, hgt, c4]
          rw [hgif _ _ rfl]
          refine wp_forS en (openP n q.1) rfl (Bs2 n paper q) ⟨⟨_, _, rfl⟩, by simp⟩ ?_ ?_
          · rintro done2 p rest2 hx2 _ ⟨⟨z5, z6, rfl⟩, hok2⟩
            have hp : p ∈ openP n q.1 := by rw [hx2]; simp
            refine ⟨_, rfl, ?_⟩
            have hbw := e_both_ways (i := p.1) (j := p.2) hnd (hself _) (hself _) (by omega)
            have hl1 : (sortP (addP q.1 p.1 p.2)).length ≤ 10000 := Nat.le_trans (sortP_len _) (addP_len (by omega))
            have hl2 : (sortP (addP q.1 p.2 p.1)).length ≤ 10000 := Nat.le_trans (sortP_len _) (addP_len (by omega))
            have hB4 : hasB paper q p = false → B = false := fun z => hB3 (by
              rw [hb3, List.all_eq_false]
              exact ⟨p, hp, by rw [z]; decide⟩)
            have hJ4 : ∀ x5 x6, hasB paper q p = true → Bs2 n paper q (done2 ++ [p]) [some (.imm (.tuple (paper.map en))), some (.imm (.int n)), some (.imm (.tuple (q.1.map en))), some (.imm (.int q.2)), some (.imm (.list ((openP n q.1).map en))), x5, x6, none] := fun _ _ z => by
              refine ⟨⟨_, _, rfl⟩, fun r m => ?_⟩
              rcases List.mem_append.mp m with m | m
              · exact hok2 r m
              · rw [List.mem_singleton] at m
                rw [m]
                exact z
            have hdef : hasB paper q p = ([sortP (addP q.1 p.1 p.2), sortP (addP q.1 p.2 p.1)] : List (List Pr)).any fun w => hasM paper w (q.2 - 1) := rfl
            have hws : ∀ w ∈ ([sortP (addP q.1 p.1 p.2), sortP (addP q.1 p.2 p.1)] : List (List Pr)), w.length ≤ 10000 := by
              intro w m
              rcases List.mem_cons.mp m with rfl | m
              · exact hl1
              · rw [List.mem_singleton] at m
                subst m
                exact hl2
            have hwl : ([sortP (addP q.1 p.1 p.2), sortP (addP q.1 p.2 p.1)] : List (List Pr)).length ≤ 10 := by simp
            generalize ([sortP (addP q.1 p.1 p.2), sortP (addP q.1 p.2 p.1)] : List (List Pr)) = ways at *
            generalize openP n q.1 = op at *
            show wp (gIf _ _ _ [some (.imm (.tuple (paper.map en))), some (.imm (.int n)), some (.imm (.tuple (q.1.map en))), some (.imm (.int q.2)), some (.imm (.list (op.map en))), some (.imm (.int p.1)), some (.imm (.int p.2)), none]) _ _
            have hlc := lc_eq (vs := [7]) (fi := (iSeq (fCall G_both_ways (gConsF (fVar 2) (gConsF (fVar 5) (gConsF (fVar 6) (gNilF))))))) (tg := tName 7) (ft := fYes) (fe := (fCallB G_has_more (fCons (fVar 0) (fCons (fVar 7) (fCons (fOp dSub (fVar 3) (fC (.int 1))) (fNil))))))
              (e := [some (.imm (.tuple (paper.map en))), some (.imm (.int n)), some (.imm (.tuple (q.1.map en))), some (.imm (.int q.2)), some (.imm (.list (op.map en))), some (.imm (.int p.1)), some (.imm (.int p.2)), none])
              (e1 := [some (.imm (.tuple (paper.map en))), some (.imm (.int n)), some (.imm (.tuple (q.1.map en))), some (.imm (.int q.2)), some (.imm (.list (op.map en))), some (.imm (.int p.1)), some (.imm (.int p.2)), none])
              en ways (fun _ => true) (fun w => .bool (hasM paper w (q.2 - 1))) (by simp -implicitDefEqProofs [wp_seq, wp_bind, wp_ok, wp_ex, ob_ex, gSet, gNext, gDrop, gRet, gRetN, gIf, gBreak, gCont, gFor, gAsg, fVar, fC, fOp, fUn, fCl, fNil, fCons, fTup, fLst, gNilF, gConsF, dAll, Opd.d, Opd.fr, Val.d, putO, ob_ok, toB, tru, fNot, fAnd, fOr, fAndV, fOrV, isB, ofB, iSeq, iRange1, tName, tTupT, tsCons, tsNil, fYes, envP, envM, small, resO, own0, isOwn, noOwn, wipeB, backB, List.replicate, fMt, fCall, fCallB, fCallM, dTru, hbw]) rfl (by omega) rfl ?_
            · rw [filter_tt] at hlc
              have hany := d_anyM ways fun w => hasM paper w (q.2 - 1)
              rw [← hdef] at hany
              cases z : hasB paper q p with
              | true =>
                rw [z] at hany
                have hJ4 := hJ4 (some (.imm (.int p.1))) (some (.imm (.int p.2))) z
                simp -implicitDefEqProofs [wp_seq, wp_bind, wp_ok, wp_ex, ob_ex, gSet, gNext, gDrop, gRet, gRetN, gIf, gBreak, gCont, gFor, gAsg, fVar, fC, fOp, fUn, fCl, fNil, fCons, fTup, fLst, gNilF, gConsF, dAll, Opd.d, Opd.fr, Val.d, putO, ob_ok, toB, tru, fNot, fAnd, fOr, fAndV, fOrV, isB, ofB, iSeq, iRange1, tName, tTupT, tsCons, tsNil, fYes, envP, envM, small, resO, own0, isOwn, noOwn, wipeB, backB, List.replicate, fMt, fCall, fCallB, fCallM, dTru, hlc, hany]
                exact hJ4
              | false =>
                rw [z] at hany
                have hz := hB4 z
                simp -implicitDefEqProofs [wp_seq, wp_bind, wp_ok, wp_ex, ob_ex, gSet, gNext, gDrop, gRet, gRetN, gIf, gBreak, gCont, gFor, gAsg, fVar, fC, fOp, fUn, fCl, fNil, fCons, fTup, fLst, gNilF, gConsF, dAll, Opd.d, Opd.fr, Val.d, putO, ob_ok, toB, tru, fNot, fAnd, fOr, fAndV, fOrV, isB, ofB, iSeq, iRange1, tName, tTupT, tsCons, tsNil, fYes, envP, envM, small, resO, own0, isOwn, noOwn, wipeB, backB, List.replicate, fMt, fCall, fCallB, fCallM, dTru, hlc, hany, hz]
            · intro w hw
              refine ⟨_, rfl, rfl, rfl, fun _ => ⟨.val (.imm (.bool (hasM paper w (q.2 - 1)))), ?_, rfl⟩⟩
              have hm := e_has_more (paper := paper) (ps := w) (num := q.2 - 1) hpl (hws w hw)
              show fCallB _ _ [some (.imm (.tuple (paper.map en))), some (.imm (.int n)), some (.imm (.tuple (q.1.map en))), some (.imm (.int q.2)), some (.imm (.list (op.map en))), some (.imm (.int p.1)), some (.imm (.int p.2)), some (.imm (.tuple (w.map en)))] = _
              simp -implicitDefEqProofs [wp_seq, wp_bind, wp_ok, wp_ex, ob_ex, gSet, gNext, gDrop, gRet, gRetN, gIf, gBreak, gCont, gFor, gAsg, fVar, fC, fOp, fUn, fCl, fNil, fCons, fTup, fLst, gNilF, gConsF, dAll, Opd.d, Opd.fr, Val.d, putO, ob_ok, toB, tru, fNot, fAnd, fOr, fAndV, fOrV, isB, ofB, iSeq, iRange1, tName, tTupT, tsCons, tsNil, fYes, envP, envM, small, resO, own0, isOwn, noOwn, wipeB, backB, List.replicate, fMt, fCall, fCallB, fCallM, dTru, hsub, hm, scalar]
              rfl
          · rintro _ ⟨⟨z5, z6, rfl⟩, hok2⟩
            have := hJ (some (.imm (.list ((openP n q.1).map en)))) z5 z6 (by rw [hb3]; exact List.all_eq_true.mpr hok2)
            exact this
      · have hJ5 := hJ (some (.own ((openP n q.1).map en))) y5 y6 (by rw [hb2, decide_eq_true (by omega)]; rfl)
        generalize openP n q.1 = op at hJ5 ⊢
        simp -implicitDefEqProofs [wp_seq, wp_bind, wp_ok, wp_ex, ob_ex, gSet, gNext, gDrop, gRet, gRetN, gIf, gBreak, gCont, gFor, gAsg, fVar, fC, fOp, fUn, fCl, fNil, fCons, fTup, fLst, gNilF, gConsF, dAll, Opd.d, Opd.fr, Val.d, putO, ob_ok, toB, tru, fNot, fAnd, fOr, fAndV, fOrV, isB, ofB, iSeq, iRange1, tName, tTupT, tsCons, tsNil, fYes, envP, envM, small, resO, own0, isOwn, noOwn, wipeB, backB, List.replicate, fMt, fCall, fCallB, fCallM, dTru, hgt, c4]
        exact hJ5
    · rintro _ ⟨⟨y2, y3, y4, y5, y6, rfl⟩, hall2⟩
      have : B = true := by rw [hB2]; exact List.all_eq_true.mpr hall2
      simp -implicitDefEqProofs [wp_seq, wp_bind, wp_ok, wp_ex, ob_ex, gSet, gNext, gDrop, gRet, gRetN, gIf, gBreak, gCont, gFor, gAsg, fVar, fC, fOp, fUn, fCl, fNil, fCons, fTup, fLst, gNilF, gConsF, dAll, Opd.d, Opd.fr, Val.d, putO, ob_ok, toB, tru, fNot, fAnd, fOr, fAndV, fOrV, isB, ofB, iSeq, iRange1, tName, tTupT, tsCons, tsNil, fYes, envP, envM, small, resO, own0, isOwn, noOwn, wipeB, backB, List.replicate, fMt, fCall, fCallB, fCallM, dTru, this]
end BV

namespace BV
open PySem PySem.Spec
open PyProof.Rows hiding St
open Enc
theorem irr_iff {ps : List Pr} (h : IsC ps ps) : irr ps = true ↔ Acy ps := by
  unfold irr
  rw [List.isEmpty_iff, List.filter_eq_nil_iff]
  constructor
  · intro hh a t
    exact hh (a, a) ((h.2 (a, a)).mpr t) (by simp)
  · intro hh p m e
    rw [decide_eq_true_eq] at e
    have : p = (p.1, p.1) := Prod.ext rfl e.symm
    rw [this] at m
    exact hh _ (.one m)
theorem isK_nil (n : Nat) : isK n [] = true := by
  have hn : inN n [] := fun p m => by simp at m
  rw [isK_iff hn]
  have no : ∀ a b, ¬ TC [] a b := fun a b t => by
    induction t with
    | one m => simp at m
    | step m _ _ => simp at m
  exact ⟨⟨List.Pairwise.nil, fun p => ⟨fun m => by simp at m, fun t => (no _ _ t).elim⟩⟩, fun a => no a a⟩
theorem bnd_eq {n : Nat} {paper longer : List Ent} (hn : ∀ q ∈ paper, inN n q.1) (h1 : ∀ q ∈ longer, q ∈ paper ∨ q = ([], 0)) (h2 : ∀ q ∈ paper, q ∈ longer) : bnd n longer = paper.all fun q => goodE n paper q.1 q.2 := by
  rw [Bool.eq_iff_iff]
  unfold bnd
  rw [Bool.and_eq_true, List.all_eq_true, List.all_eq_true, List.all_eq_true]
  have ways : ∀ q ∈ paper, IsC q.1 q.1 → ∀ p ∈ openP n q.1, ([sortP (addP q.1 p.1 p.2), sortP (addP q.1 p.2 p.1)] : List (List Pr)) = waysOf n q.1 p := by
    intro q hq hc p hp
    obtain ⟨i, j, hi, hj, rfl, _⟩ := mem_openP.mp hp
    unfold waysOf
    rw [add_clo hc (hn q hq) ⟨by show (0 : Int) ≤ (i : Int); omega, by show (i : Int) < n; omega⟩ ⟨by show (0 : Int) ≤ (j : Int); omega, by show (j : Int) < n; omega⟩,
      add_clo hc (hn q hq) ⟨by show (0 : Int) ≤ (j : Int); omega, by show (j : Int) < n; omega⟩ ⟨by show (0 : Int) ≤ (i : Int); omega, by show (i : Int) < n; omega⟩]
  have hne : ∀ q : Ent, ∀ p : Pr, ∀ w ∈ ([sortP (addP q.1 p.1 p.2), sortP (addP q.1 p.2 p.1)] : List (List Pr)), within [] w = false := by
    intro q p w hw
    unfold within
    rw [List.all_eq_false]
    rcases List.mem_cons.mp hw with rfl | hw
    · exact ⟨(p.1, p.2), mem_sortP.mpr (mem_addP.mpr (.inr ⟨mem_firsts.mpr (.inl rfl), mem_lasts.mpr (.inl rfl)⟩)), by simp⟩
    · rw [List.mem_singleton] at hw
      subst hw
      exact ⟨(p.2, p.1), mem_sortP.mpr (mem_addP.mpr (.inr ⟨mem_firsts.mpr (.inl rfl), mem_lasts.mpr (.inl rfl)⟩)), by simp⟩
  have bridge : ∀ q ∈ paper, IsC q.1 q.1 → ∀ p ∈ openP n q.1, (hasB longer q p = true ↔ okW n paper q.1 q.2 p = true) := by
    intro q hq hc p hp
    have hw := ways q hq hc p hp
    have hz := hne q p
    unfold hasB okW okQ hasM
    rw [hw] at hz ⊢
    simp only [List.any_eq_true, Bool.and_eq_true, decide_eq_true_eq]
    constructor
    · rintro ⟨w, mw, e, me, hle, hwi⟩
      rcases h1 e me with me | rfl
      · exact ⟨e, me, hle, w, mw, hwi⟩
      · rw [hz w mw] at hwi
        cases hwi
    · rintro ⟨e, me, hle, w, mw, hwi⟩
      exact ⟨w, mw, e, h2 e me, hle, hwi⟩
  constructor
  · rintro ⟨a1, a2⟩ q hq
    have q1 := a1 q (h2 q hq)
    have q2 := a2 q (h2 q hq)
    unfold b1 at q1
    rw [Bool.and_eq_true, isK_iff (hn q hq), decide_eq_true_eq] at q1
    obtain ⟨p0, hc, ha⟩ := q1
    unfold b2 at q2
    unfold goodE
    rw [decide_eq_true p0, decide_eq_true (hc.unique (clo_isC (hn q hq))), (irr_iff hc).mpr ha]
    simp only [Bool.true_and, Bool.or_eq_true, Bool.and_eq_true, List.all_eq_true] at q2 ⊢
    rcases q2 with q2 | ⟨q2, q3⟩
    · exact .inl q2
    · exact .inr ⟨q2, fun p hp => (bridge q hq hc p hp).mp (q3 p hp)⟩
  · intro hg
    have key : ∀ q ∈ paper, b1 n q = true ∧ b2 n longer q = true := by
      intro q hq
      have g := hg q hq
      unfold goodE at g
      simp only [Bool.and_eq_true, decide_eq_true_eq] at g
      obtain ⟨⟨p0, hcl, hir⟩, g2⟩ := g
      have hc : IsC q.1 q.1 := by
        have := clo_isC (hn q hq)
        rw [← hcl] at this
        exact this
      refine ⟨?_, ?_⟩
      · unfold b1
        rw [Bool.and_eq_true, isK_iff (hn q hq), decide_eq_true_eq]
        exact ⟨p0, hc, (irr_iff hc).mp hir⟩
      · unfold b2
        simp only [Bool.or_eq_true, Bool.and_eq_true, List.all_eq_true] at g2 ⊢
        rcases g2 with g2 | ⟨g2, g3⟩
        · exact .inl g2
        · exact .inr ⟨g2, fun p hp => (bridge q hq hc p hp).mpr (g3 p hp)⟩
    have nil1 : b1 n ([], 0) = true := by
      unfold b1
      rw [isK_nil]
      rfl
    have nil2 : b2 n longer ([], 0) = true := by
      unfold b2
      simp
    refine ⟨fun q hq => ?_, fun q hq => ?_⟩
    · rcases h1 q hq with h | rfl
      · exact (key q h).1
      · exact nil1
    · rcases h1 q hq with h | rfl
      · exact (key q h).2
      · exact nil2
end BV

namespace BV
open PySem PySem.Spec L2
open PyProof.Rows hiding St
open Enc
theorem d_mod {i j : Int} (h : j ≠ 0) : dMod (.int i) (.int j) = some (.imm (.int (i.fmod j))) := by
  show (if j = 0 then none else some (PyData.int (i.fmod j))).map Val.imm = _
  rw [if_neg h]
  rfl
theorem d_div {i j : Int} (h : j ≠ 0) (h2 : j.natAbs < 1073741824) : dDiv (.int i) (.int j) = some (.imm (.int (i.fdiv j))) := by
  show (if j = 0 ∨ ¬ j.natAbs < 1073741824 then none else some (PyData.int (i.fdiv j))).map Val.imm = _
  rw [if_neg (by intro z; rcases z with z | z; exact h z; exact z h2)]
  rfl
theorem w64 {i : Int} (h : -1000000000000 ≤ i ∧ i ≤ 1000000000000) : within64 i = true := by
  unfold within64
  rw [Bool.and_eq_true, decide_eq_true_eq, decide_eq_true_eq]
  omega
theorem d_mulR {i j : Int} (h : -1000000000000 ≤ j ∧ j ≤ 1000000000000) : dMulA (.int i) (.int j) = some (.imm (.int (i * j))) := by
  show (if within64 i || within64 j then some (Val.imm (.int (i * j))) else none) = _
  rw [w64 h, Bool.or_true]
  rfl
theorem d_plusI {i j : Int} : dPlus (.int i) (.int j) = some (.imm (.int (i + j))) := rfl
theorem d_subI {i j : Int} : dSub (.int i) (.int j) = some (.imm (.int (i - j))) := rfl
theorem d_gtI {i j : Int} : dGt (.int i) (.int j) = some (.imm (.bool (decide (j < i)))) := rfl
theorem d_ltI {i j : Int} : dLt (.int i) (.int j) = some (.imm (.bool (decide (i < j)))) := rfl
theorem atI_ok {α : Type} {xs : List α} {i : Int} (h : 0 ≤ i ∧ i < xs.length) : ∃ x, xs[i.toNat]? = some x ∧ x ∈ xs ∧ atI xs i = some x := by
  have hl : i.toNat < xs.length := by omega
  refine ⟨xs[i.toNat], List.getElem?_eq_getElem hl, List.getElem_mem hl, ?_⟩
  unfold atI ixN
  rw [if_pos h.1, if_pos h.2]
  exact List.getElem?_eq_getElem hl
theorem d_ixL {α : Type} (f : α → PyData) {xs : List α} {i : Int} (h : 0 ≤ i ∧ i < xs.length) : ∃ x, xs[i.toNat]? = some x ∧ x ∈ xs ∧ dIx (.list (xs.map f)) (.int i) = some (.imm (f x)) := by
  obtain ⟨x, h1, h2, h3⟩ := atI_ok h
  refine ⟨x, h1, h2, ?_⟩
  show (atI (xs.map f) i).map Val.imm = _
  unfold atI ixN at h3 ⊢
  rw [if_pos h.1, if_pos h.2] at h3
  rw [List.length_map, if_pos h.1, if_pos h.2]
  simp only [Option.bind_some, List.getElem?_map, h1, Option.map_some]
theorem d_ixT {α : Type} (f : α → PyData) {xs : List α} {i : Int} (h : 0 ≤ i ∧ i < xs.length) : ∃ x, xs[i.toNat]? = some x ∧ x ∈ xs ∧ dIx (.tuple (xs.map f)) (.int i) = some (.imm (f x)) := by
  obtain ⟨x, h1, h2, h3⟩ := d_ixL f h
  exact ⟨x, h1, h2, h3⟩
def dk (ns : List Int) (at' : Nat) : List PyData := [.list (ns.map .int), .int at']
theorem e_next (ns : List Int) {at' : Nat} (h : at' ≤ 100000) : ∃ c : Int, G__law_next (dk ns at') [] = some (.ok (.imm (.int c)), dk ns (at' + 1)) := by
  have key : ∃ r d1, runM 4 g__law_next (dk ns at') [] = some (r, d1) ∧ (∃ c : Int, r = .ok (.imm (.int c)) ∧ d1 = dk ns (at' + 1)) := by
    apply runM_wp
    unfold g__law_next dk
    have i0 : dIx (.list [.list (ns.map .int), .int (at' : Int)]) (.int 0) = some (.imm (.list (ns.map .int))) := rfl
    have i1 : dIx (.list [.list (ns.map .int), .int (at' : Int)]) (.int 1) = some (.imm (.int at')) := rfl
    have ix : ixN 2 1 = some 1 := rfl
    have hca : ((at' + 1 : Nat) : Int) = (at' : Int) + 1 := by omega
    refine wp_seqN (fun e => e = [some (.own [.list (ns.map .int), .int at']), some (.imm (.list (ns.map .int))), none, none]) ?_ ?_
    · simp -implicitDefEqProofs [wp_seq, wp_bind, wp_ok, wp_ex, ob_ex, gSet, gNext, gDrop, gRet, gRetN, gIf, gBreak, gCont, gFor, gAsg, fVar, fC, fOp, fUn, fCl, fNil, fCons, fTup, fLst, gNilF, gConsF, dAll, Opd.d, Opd.fr, Val.d, putO, ob_ok, toB, tru, fNot, fAnd, fOr, fAndV, fOrV, isB, ofB, iSeq, iRange1, tName, tTupT, tsCons, tsNil, fYes, envP, envM, small, resO, own0, isOwn, noOwn, wipeB, backB, List.replicate, fMt, fCall, fCallB, fCallM, dTru, i0]
    rintro _ rfl
    refine wp_seqN (fun e => e = [some (.own [.list (ns.map .int), .int at']), some (.imm (.list (ns.map .int))), some (.imm (.int at')), none]) ?_ ?_
    · simp -implicitDefEqProofs [wp_seq, wp_bind, wp_ok, wp_ex, ob_ex, gSet, gNext, gDrop, gRet, gRetN, gIf, gBreak, gCont, gFor, gAsg, fVar, fC, fOp, fUn, fCl, fNil, fCons, fTup, fLst, gNilF, gConsF, dAll, Opd.d, Opd.fr, Val.d, putO, ob_ok, toB, tru, fNot, fAnd, fOr, fAndV, fOrV, isB, ofB, iSeq, iRange1, tName, tTupT, tsCons, tsNil, fYes, envP, envM, small, resO, own0, isOwn, noOwn, wipeB, backB, List.replicate, fMt, fCall, fCallB, fCallM, dTru, i1]
    rintro _ rfl
    refine wp_seqN (fun e => e = [some (.own [.list (ns.map .int), .int ((at' : Int) + 1)]), some (.imm (.list (ns.map .int))), some (.imm (.int at')), none]) ?_ ?_
    · simp -implicitDefEqProofs [wp_seq, wp_bind, wp_ok, wp_ex, ob_ex, gSet, gNext, gDrop, gRet, gRetN, gIf, gBreak, gCont, gFor, gAsg, fVar, fC, fOp, fUn, fCl, fNil, fCons, fTup, fLst, gNilF, gConsF, dAll, Opd.d, Opd.fr, Val.d, putO, ob_ok, toB, tru, fNot, fAnd, fOr, fAndV, fOrV, isB, ofB, iSeq, iRange1, tName, tTupT, tsCons, tsNil, fYes, envP, envM, small, resO, own0, isOwn, noOwn, wipeB, backB, List.replicate, fMt, fCall, fCallB, fCallM, dTru, gSetIx, d_plusI, ix]
    rintro _ rfl
    have hlen : dLen [.list (ns.map .int)] = some (.imm (.int ns.length)) := by
      show some (Val.imm (.int ((ns.map PyData.int).length : Nat))) = _
      rw [List.length_map]
    by_cases c1 : (at' : Int) < ns.length
    · obtain ⟨x, _, _, hx⟩ := d_ixL PyData.int (xs := ns) (i := (at' : Int)) ⟨by omega, c1⟩
      generalize (ns.map PyData.int) = cells at *
      generalize hL : (ns.length : Int) = L at *
      simp -implicitDefEqProofs [wp_seq, wp_bind, wp_ok, wp_ex, ob_ex, gSet, gNext, gDrop, gRet, gRetN, gIf, gBreak, gCont, gFor, gAsg, fVar, fC, fOp, fUn, fCl, fNil, fCons, fTup, fLst, gNilF, gConsF, dAll, Opd.d, Opd.fr, Val.d, putO, ob_ok, toB, tru, fNot, fAnd, fOr, fAndV, fOrV, isB, ofB, iSeq, iRange1, tName, tTupT, tsCons, tsNil, fYes, envP, envM, small, resO, own0, isOwn, noOwn, wipeB, backB, List.replicate, fMt, fCall, fCallB, fCallM, dTru, hlen, d_ltI, c1, hx, hca]
    · refine wp_seqN (fun e => e = [some (.own [.list (ns.map .int), .int ((at' : Int) + 1)]), some (.imm (.list (ns.map .int))), some (.imm (.int at')), none]) ?_ ?_
      · generalize (ns.map PyData.int) = cells at *
        generalize hL : (ns.length : Int) = L at *
        simp -implicitDefEqProofs [wp_seq, wp_bind, wp_ok, wp_ex, ob_ex, gSet, gNext, gDrop, gRet, gRetN, gIf, gBreak, gCont, gFor, gAsg, fVar, fC, fOp, fUn, fCl, fNil, fCons, fTup, fLst, gNilF, gConsF, dAll, Opd.d, Opd.fr, Val.d, putO, ob_ok, toB, tru, fNot, fAnd, fOr, fAndV, fOrV, isB, ofB, iSeq, iRange1, tName, tTupT, tsCons, tsNil, fYes, envP, envM, small, resO, own0, isOwn, noOwn, wipeB, backB, List.replicate, fMt, fCall, fCallB, fCallM, dTru, hlen, d_ltI, c1]
      rintro _ rfl
      have m1 : dMulA (.int at') (.int at') = some (.imm (.int ((at' : Int) * at'))) := d_mulR (by omega)
      have m2 : ∀ x : Int, dMulA (.int x) (.int 3) = some (.imm (.int (x * 3))) := fun x => d_mulR (by omega)
      by_cases c2 : (ns.length : Int) = 0
      · generalize (ns.map PyData.int) = cells at *
        generalize hL : (ns.length : Int) = L at *
        subst c2
        simp -implicitDefEqProofs [wp_seq, wp_bind, wp_ok, wp_ex, ob_ex, gSet, gNext, gDrop, gRet, gRetN, gIf, gBreak, gCont, gFor, gAsg, fVar, fC, fOp, fUn, fCl, fNil, fCons, fTup, fLst, gNilF, gConsF, dAll, Opd.d, Opd.fr, Val.d, putO, ob_ok, toB, tru, fNot, fAnd, fOr, fAndV, fOrV, isB, ofB, iSeq, iRange1, tName, tTupT, tsCons, tsNil, fYes, envP, envM, small, resO, own0, isOwn, noOwn, wipeB, backB, List.replicate, fMt, fCall, fCallB, fCallM, dTru, hlen, d_eqI, m1, m2, d_plusI, hca]
      · refine wp_seqN (fun e => e = [some (.own [.list (ns.map .int), .int ((at' : Int) + 1)]), some (.imm (.list (ns.map .int))), some (.imm (.int at')), none]) ?_ ?_
        · generalize (ns.map PyData.int) = cells at *
          generalize hL : (ns.length : Int) = L at *
          simp -implicitDefEqProofs [wp_seq, wp_bind, wp_ok, wp_ex, ob_ex, gSet, gNext, gDrop, gRet, gRetN, gIf, gBreak, gCont, gFor, gAsg, fVar, fC, fOp, fUn, fCl, fNil, fCons, fTup, fLst, gNilF, gConsF, dAll, Opd.d, Opd.fr, Val.d, putO, ob_ok, toB, tru, fNot, fAnd, fOr, fAndV, fOrV, isB, ofB, iSeq, iRange1, tName, tTupT, tsCons, tsNil, fYes, envP, envM, small, resO, own0, isOwn, noOwn, wipeB, backB, List.replicate, fMt, fCall, fCallB, fCallM, dTru, hlen, d_eqI, c2]
        rintro _ rfl
        have hmod : dMod (.int at') (.int ns.length) = some (.imm (.int ((at' : Int).fmod ns.length))) := d_mod c2
        obtain ⟨x, _, _, hx⟩ := d_ixL PyData.int (xs := ns) (i := (at' : Int).fmod ns.length) ⟨Int.fmod_nonneg_of_pos _ (by omega), Int.fmod_lt_of_pos _ (by omega)⟩
        have n1 : ∀ x : Int, dMod (.int x) (.int 2147483629) = some (.imm (.int (x.fmod 2147483629))) := fun x => d_mod (by decide)
        have n2 : dMulA (.int at') (.int 7919) = some (.imm (.int ((at' : Int) * 7919))) := d_mulR (by omega)
        have n3 : ∀ x : Int, dMulA (.int x) (.int 50021) = some (.imm (.int (x * 50021))) := fun x => d_mulR (by omega)
        have n4 : ∀ x : Int, dMod (.int x) (.int 2147483587) = some (.imm (.int (x.fmod 2147483587))) := fun x => d_mod (by decide)
        have n5 : ∀ x : Int, dMulA (.int (x.fmod 2147483587)) (.int (x.fmod 2147483587)) = some (.imm (.int ((x.fmod 2147483587) * (x.fmod 2147483587)))) := fun x => d_mulR (by
          have a := Int.fmod_nonneg_of_pos x (b := 2147483587) (by decide)
          have b := Int.fmod_lt_of_pos x (b := 2147483587) (by decide)
          omega)
        have n6 : ∀ x : Int, dMod (.int x) (.int 2147483563) = some (.imm (.int (x.fmod 2147483563))) := fun x => d_mod (by decide)
        generalize (ns.map PyData.int) = cells at *
        generalize hL : (ns.length : Int) = L at *
        simp -implicitDefEqProofs [wp_seq, wp_bind, wp_ok, wp_ex, ob_ex, gSet, gNext, gDrop, gRet, gRetN, gIf, gBreak, gCont, gFor, gAsg, fVar, fC, fOp, fUn, fCl, fNil, fCons, fTup, fLst, gNilF, gConsF, dAll, Opd.d, Opd.fr, Val.d, putO, ob_ok, toB, tru, fNot, fAnd, fOr, fAndV, fOrV, isB, ofB, iSeq, iRange1, tName, tTupT, tsCons, tsNil, fYes, envP, envM, small, resO, own0, isOwn, noOwn, wipeB, backB, List.replicate, fMt, fCall, fCallB, fCallM, dTru, hlen, hmod, hx, n1, n2, d_plusI, n3, n4, n5, n6, hca]
  obtain ⟨r, d1, h1, c, rfl, rfl⟩ := key
  exact ⟨c, h1⟩
end BV

namespace BV
open PySem PySem.Spec L2
open PyProof.Rows hiding St
open Enc
theorem d_lenL {α : Type} (f : α → PyData) (xs : List α) : dLen [.list (xs.map f)] = some (.imm (.int xs.length)) := by
  show some (Val.imm (.int ((xs.map f).length : Nat))) = _
  rw [List.length_map]
theorem d_lenT {α : Type} (f : α → PyData) (xs : List α) : dLen [.tuple (xs.map f)] = some (.imm (.int xs.length)) := by
  show some (Val.imm (.int ((xs.map f).length : Nat))) = _
  rw [List.length_map]
theorem erase_map {α β : Type} (f : α → β) : ∀ (l : List α) (k : Nat), (l.map f).eraseIdx k = (l.eraseIdx k).map f
  | [], _ => rfl
  | _ :: _, 0 => rfl
  | x :: l, k + 1 => by
    show f x :: (l.map f).eraseIdx k = f x :: (l.eraseIdx k).map f
    rw [erase_map f l k]
theorem m_pop {α : Type} (f : α → PyData) {xs : List α} {i : Int} (h : 0 ≤ i ∧ i < xs.length) (hl : xs.length ≤ 1000000) : ∃ x, xs[i.toNat]? = some x ∧ mPopAt (xs.map f) [.int i] = some (f x, (xs.eraseIdx i.toNat).map f) := by
  have hl : i.toNat < xs.length := by omega
  refine ⟨xs[i.toNat], List.getElem?_eq_getElem hl, ?_⟩
  show (if -(2 ^ 63) ≤ i ∧ i < 2 ^ 63 then (seqIndex? i (xs.map f).length).bind fun k => ((xs.map f)[k]?).map fun y => (y, (xs.map f).eraseIdx k) else none) = _
  rw [if_pos ⟨by omega, by omega⟩]
  have : seqIndex? i (xs.map f).length = some i.toNat := by
    unfold seqIndex?
    rw [List.length_map]
    simp only [show ¬ i < 0 from by omega, if_false]
    rw [if_pos]
    rw [Bool.and_eq_true, decide_eq_true_eq, decide_eq_true_eq]
    exact h
  rw [this]
  simp only [Option.bind_some, List.getElem?_map, List.getElem?_eq_getElem hl, Option.map_some, erase_map]
theorem perm_erase {α : Type} : ∀ (l : List α) (k : Nat) (x : α), l[k]? = some x → (x :: l.eraseIdx k).Perm l
  | [], _, _, h => by simp at h
  | y :: l, 0, x, h => by
    simp at h
    subst h
    exact List.Perm.refl _
  | y :: l, k + 1, x, h => by
    simp at h
    show (x :: y :: l.eraseIdx k).Perm (y :: l)
    exact (List.Perm.swap y x _).trans ((perm_erase l k x h).cons y)
theorem m_app {α : Type} (f : α → PyData) {xs : List α} {x : α} (h : xs.length ≤ 100000) : mAppend (xs.map f) [f x] = some (.none, (xs ++ [x]).map f) := by
  show (if small (xs.map f).length then some (PyData.none, xs.map f ++ [f x]) else none) = _
  rw [List.length_map, if_pos (show small _ = true from decide_eq_true h), List.map_append]
  rfl
def num0 (n : Nat) : List Int := (List.range n).map fun (i : Nat) => (i : Int)
theorem d_lr (n : Nat) (h : n ≤ 1000) : dListRange [.int n] = some (.new ((num0 n).map .int)) := by
  show (if -(2 ^ 62) ≤ (n : Int) ∧ (n : Int) ≤ 100000 then some (Val.new (intsTo (n : Int).toNat)) else none) = _
  rw [if_pos ⟨by omega, by omega⟩]
  unfold intsTo num0
  rw [Int.toNat_natCast, List.map_map]
  rfl
def TuL (ns : List Int) (n at0 : Nat) (e : BE) : Prop := ∃ left found : List Int, e = [some (.own (dk ns (at0 + found.length))), some (.imm (.int n)), some (.own (left.map .int)), some (.own (found.map .int))] ∧ (left ++ found).Perm (num0 n)
def TuM (e : BE) : Nat := match e with
  | _ :: _ :: some (.own ds) :: _ => ds.length
  | _ => 0
theorem e_turn (ns : List Int) {n at' : Nat} (h : at' ≤ 99000) (hb : n ≤ 7) : ∃ turn : List Int, turn.Perm (num0 n) ∧ G__law_turn (dk ns at') [.int n] = some (.ok (.new (turn.map .int)), dk ns (at' + n)) := by
  have key : ∃ r d1, runM 4 g__law_turn (dk ns at') [.int n] = some (r, d1) ∧ (∃ turn : List Int, turn.Perm (num0 n) ∧ r = .ok (.new (turn.map .int)) ∧ d1 = dk ns (at' + n)) := by
    apply runM_wp
    unfold g__law_turn
    refine wp_seqN (fun e => e = [some (.own (dk ns at')), some (.imm (.int n)), some (.own ((num0 n).map .int)), none]) ?_ ?_
    · have hr := d_lr n (by omega)
      simp -implicitDefEqProofs [wp_seq, wp_bind, wp_ok, wp_ex, ob_ex, gSet, gNext, gDrop, gRet, gRetN, gIf, gBreak, gCont, gFor, gAsg, fVar, fC, fOp, fUn, fCl, fNil, fCons, fTup, fLst, gNilF, gConsF, dAll, Opd.d, Opd.fr, Val.d, putO, ob_ok, toB, tru, fNot, fAnd, fOr, fAndV, fOrV, isB, ofB, iSeq, iRange1, tName, tTupT, tsCons, tsNil, fYes, envP, envM, small, resO, own0, isOwn, noOwn, wipeB, backB, List.replicate, fMt, fCall, fCallB, fCallM, dTru, hr]
    rintro _ rfl
    refine wp_seqN (fun e => e = [some (.own (dk ns at')), some (.imm (.int n)), some (.own ((num0 n).map .int)), some (.own [])]) ?_ ?_
    · simp -implicitDefEqProofs [wp_seq, wp_bind, wp_ok, wp_ex, ob_ex, gSet, gNext, gDrop, gRet, gRetN, gIf, gBreak, gCont, gFor, gAsg, fVar, fC, fOp, fUn, fCl, fNil, fCons, fTup, fLst, gNilF, gConsF, dAll, Opd.d, Opd.fr, Val.d, putO, ob_ok, toB, tru, fNot, fAnd, fOr, fAndV, fOrV, isB, ofB, iSeq, iRange1, tName, tTupT, tsCons, tsNil, fYes, envP, envM, small, resO, own0, isOwn, noOwn, wipeB, backB, List.replicate, fMt, fCall, fCallB, fCallM, dTru]
    rintro _ rfl
    have hn0 : (num0 n).length = n := by unfold num0; rw [List.length_map, List.length_range]
    refine wp_seqN (fun e => ∃ found : List Int, e = [some (.own (dk ns (at' + found.length))), some (.imm (.int n)), some (.own []), some (.own (found.map .int))] ∧ found.Perm (num0 n)) ?_ ?_
    · refine wp_while TuM (TuL ns n at') ⟨num0 n, [], rfl, by rw [List.append_nil]⟩ ?_ ?_
      · show ((num0 n).map PyData.int).length < 20
        rw [List.length_map, hn0]
        omega
      · rintro _ ⟨left, found, rfl, hp⟩
        have hpl := hp.length_eq
        rw [List.length_append, hn0] at hpl
        have h0 := d_ne0 (α := Int) (by decide) left
        rw [show (en : Int → PyData) = PyData.int from rfl] at h0
        cases left with
        | nil =>
          have h0 : dNe (.list []) (.list []) = some (.imm (.bool false)) := h0
          simp -implicitDefEqProofs [wp_seq, wp_bind, wp_ok, wp_ex, ob_ex, gSet, gNext, gDrop, gRet, gRetN, gIf, gBreak, gCont, gFor, gAsg, fVar, fC, fOp, fUn, fCl, fNil, fCons, fTup, fLst, gNilF, gConsF, dAll, Opd.d, Opd.fr, Val.d, putO, ob_ok, toB, tru, fNot, fAnd, fOr, fAndV, fOrV, isB, ofB, iSeq, iRange1, tName, tTupT, tsCons, tsNil, fYes, envP, envM, small, resO, own0, isOwn, noOwn, wipeB, backB, List.replicate, fMt, fCall, fCallB, fCallM, dTru, h0]
          exact ⟨found, ⟨rfl, rfl⟩, hp⟩
        | cons y left =>
          have h0 : dNe (.list ((y :: left).map .int)) (.list []) = some (.imm (.bool true)) := h0
          obtain ⟨c, hc⟩ := e_next ns (at' := at' + found.length) (by omega)
          have hlen : ((y :: left).length : Int) ≠ 0 := by rw [List.length_cons]; omega
          have hmod : dMod (.int c) (.int (y :: left).length) = some (.imm (.int (c.fmod (y :: left).length))) := d_mod hlen
          have hpos : (0 : Int) < (y :: left).length := by omega
          obtain ⟨x, hx, hpop⟩ := m_pop PyData.int (xs := y :: left) (i := c.fmod (y :: left).length) ⟨Int.fmod_nonneg_of_pos _ hpos, Int.fmod_lt_of_pos _ hpos⟩ (by omega)
          have hpe := perm_erase _ _ _ hx
          have hll := d_lenL PyData.int (y :: left)
          have happ := m_app PyData.int (xs := found) (x := x) (by omega)
          have hlt : ((y :: left).eraseIdx (c.fmod (y :: left).length).toNat).length < (y :: left).length := by
            have := hpe.length_eq
            rw [List.length_cons] at this
            omega
          have hJ : TuL ns n at' [some (.own (dk ns (at' + found.length + 1))), some (.imm (.int n)), some (.own (((y :: left).eraseIdx (c.fmod (y :: left).length).toNat).map .int)), some (.own ((found ++ [x]).map .int))] := by
            refine ⟨(y :: left).eraseIdx (c.fmod (y :: left).length).toNat, found ++ [x], by rw [List.length_append, List.length_singleton, Nat.add_assoc], ?_⟩
            refine List.Perm.trans ?_ hp
            have e1 : ((y :: left).eraseIdx (c.fmod (y :: left).length).toNat ++ (found ++ [x])).Perm (x :: (y :: left).eraseIdx (c.fmod (y :: left).length).toNat ++ found) := by
              rw [← List.append_assoc]
              exact List.perm_append_singleton x _
            exact e1.trans (hpe.append_right found)
          have hM : TuM [some (.own (dk ns (at' + found.length + 1))), some (.imm (.int n)), some (.own (((y :: left).eraseIdx (c.fmod (y :: left).length).toNat).map .int)), some (.own ((found ++ [x]).map .int))] < TuM [some (.own (dk ns (at' + found.length))), some (.imm (.int n)), some (.own ((y :: left).map .int)), some (.own (found.map .int))] := by
            show (((y :: left).eraseIdx (c.fmod (y :: left).length).toNat).map PyData.int).length < ((y :: left).map PyData.int).length
            rw [List.length_map, List.length_map]
            exact hlt
          generalize hL : y :: left = L at *
          generalize (L.eraseIdx (c.fmod L.length).toNat) = L2 at *
          generalize dk ns (at' + found.length) = dk0 at *
          generalize dk ns (at' + found.length + 1) = dk1 at *
          generalize (found ++ [x]) = F2 at *
          generalize (found.map PyData.int) = F0 at *
          generalize (L.map PyData.int) = L0 at *
          generalize (c.fmod (L.length : Int)) = cm at *
          generalize (L.length : Int) = ll at *
          simp -implicitDefEqProofs [wp_seq, wp_bind, wp_ok, wp_ex, ob_ex, gSet, gNext, gDrop, gRet, gRetN, gIf, gBreak, gCont, gFor, gAsg, fVar, fC, fOp, fUn, fCl, fNil, fCons, fTup, fLst, gNilF, gConsF, dAll, Opd.d, Opd.fr, Val.d, putO, ob_ok, toB, tru, fNot, fAnd, fOr, fAndV, fOrV, isB, ofB, iSeq, iRange1, tName, tTupT, tsCons, tsNil, fYes, envP, envM, small, resO, own0, isOwn, noOwn, wipeB, backB, List.replicate, fMt, fCall, fCallB, fCallM, dTru, h0, hc, hll, hmod, hpop, happ]
          exact ⟨hJ, hM⟩
    rintro _ ⟨found, rfl, hp⟩
    have hfl : found.length = n := by rw [hp.length_eq, hn0]
    simp -implicitDefEqProofs [wp_seq, wp_bind, wp_ok, wp_ex, ob_ex, gSet, gNext, gDrop, gRet, gRetN, gIf, gBreak, gCont, gFor, gAsg, fVar, fC, fOp, fUn, fCl, fNil, fCons, fTup, fLst, gNilF, gConsF, dAll, Opd.d, Opd.fr, Val.d, putO, ob_ok, toB, tru, fNot, fAnd, fOr, fAndV, fOrV, isB, ofB, iSeq, iRange1, tName, tTupT, tsCons, tsNil, fYes, envP, envM, small, resO, own0, isOwn, noOwn, wipeB, backB, List.replicate, fMt, fCall, fCallB, fCallM, dTru, hfl]
    exact ⟨found, hp, rfl⟩
  obtain ⟨r, d1, h1, turn, hp, rfl, rfl⟩ := key
  exact ⟨turn, hp, h1⟩
end BV

namespace BV
open PySem PySem.Spec L2
open PyProof.Rows hiding St
open Enc
theorem num0_nodup (n : Nat) : (num0 n).Nodup := by
  unfold num0
  refine map_nodup List.nodup_range ?_
  intro a _ b _ e
  omega
theorem mem_num0 {n : Nat} {x : Int} : x ∈ num0 n ↔ 0 ≤ x ∧ x < n := by
  unfold num0
  rw [List.mem_map]
  constructor
  · rintro ⟨i, m, rfl⟩
    have := List.mem_range.mp m
    omega
  · intro h
    exact ⟨x.toNat, List.mem_range.mpr (by omega), by omega⟩
def Fwd (turn : List Int) (p : Pr) : Prop := ∃ a b : Nat, a < b ∧ turn[a]? = some p.1 ∧ turn[b]? = some p.2
theorem fwd_acy {turn : List Int} {ps : List Pr} (hn : turn.Nodup) (h : ∀ p ∈ ps, Fwd turn p) : Acy ps := by
  have inj : ∀ (a b : Nat) (x : Int), turn[a]? = some x → turn[b]? = some x → a = b := by
    intro a b x h1 h2
    obtain ⟨l1, e1⟩ := List.getElem?_eq_some_iff.mp h1
    obtain ⟨l2, e2⟩ := List.getElem?_eq_some_iff.mp h2
    exact (List.getElem_inj (h₀ := l1) (h₁ := l2) hn).mp (e1.trans e2.symm)
  have key : ∀ a b, TC ps a b → Fwd turn (a, b) := fun a b t => t.closed (R := fun a b => Fwd turn (a, b)) (fun p m => h p m) (by
    rintro a b c ⟨i, j, h1, h2, h3⟩ ⟨k, l, h4, h5, h6⟩
    have e := inj _ _ _ h3 h5
    exact ⟨i, l, by omega, h2, h6⟩)
  intro a t
  obtain ⟨i, j, h1, h2, h3⟩ := key a a t
  have e := inj _ _ _ h2 h3
  omega
theorem fwd_in {n : Nat} {turn : List Int} {ps : List Pr} (hp : turn.Perm (num0 n)) (h : ∀ p ∈ ps, Fwd turn p) : inN n ps := by
  intro p m
  obtain ⟨a, b, _, h1, h2⟩ := h p m
  have m1 := mem_num0.mp (hp.mem_iff.mp (List.mem_of_getElem? h1))
  have m2 := mem_num0.mp (hp.mem_iff.mp (List.mem_of_getElem? h2))
  exact ⟨m1.1, m1.2, m2.1, m2.2⟩
def KnI (ns : List Int) (n at0 : Nat) (turn : List Int) (k : Nat) (e : BE) : Prop := ∃ (pairs : List Pr) (x4 x5 x6 : Option Sl), e = [some (.own (dk ns (at0 + k))), some (.imm (.int n)), some (.own (turn.map .int)), some (.own (pairs.map en)), x4, x5, x6] ∧ pairs.length = k ∧ ∀ p ∈ pairs, Fwd turn p
theorem e_known (ns : List Int) {n at' : Nat} (h : at' ≤ 98000) (hb : n ≤ 7) : ∃ (ps : List Pr) (at2 : Nat), inN n ps ∧ Acy ps ∧ at2 ≤ at' + 20 ∧ G__law_known (dk ns at') [.int n] = some (.ok (.imm (.tuple ((clo n ps).map en))), dk ns at2) := by
  have key : ∃ r d1, runM 7 g__law_known (dk ns at') [.int n] = some (r, d1) ∧ (∃ (ps : List Pr) (at2 : Nat), inN n ps ∧ Acy ps ∧ at2 ≤ at' + 20 ∧ r = .ok (.imm (.tuple ((clo n ps).map en))) ∧ d1 = dk ns at2) := by
    apply runM_wp
    unfold g__law_known
    obtain ⟨turn, hp, ht⟩ := e_turn ns (n := n) (at' := at') (by omega) hb
    have htl : turn.length = n := by rw [hp.length_eq]; unfold num0; rw [List.length_map, List.length_range]
    refine wp_seqN (fun e => e = [some (.own (dk ns (at' + n))), some (.imm (.int n)), some (.own (turn.map .int)), none, none, none, none]) ?_ ?_
    · simp -implicitDefEqProofs [wp_seq, wp_bind, wp_ok, wp_ex, ob_ex, gSet, gNext, gDrop, gRet, gRetN, gIf, gBreak, gCont, gFor, gAsg, fVar, fC, fOp, fUn, fCl, fNil, fCons, fTup, fLst, gNilF, gConsF, dAll, Opd.d, Opd.fr, Val.d, putO, ob_ok, toB, tru, fNot, fAnd, fOr, fAndV, fOrV, isB, ofB, iSeq, iRange1, tName, tTupT, tsCons, tsNil, fYes, envP, envM, small, resO, own0, isOwn, noOwn, wipeB, backB, List.replicate, fMt, fCall, fCallB, fCallM, dTru, ht]
    rintro _ rfl
    refine wp_seqN (fun e => e = [some (.own (dk ns (at' + n))), some (.imm (.int n)), some (.own (turn.map .int)), some (.own []), none, none, none]) ?_ ?_
    · simp -implicitDefEqProofs [wp_seq, wp_bind, wp_ok, wp_ex, ob_ex, gSet, gNext, gDrop, gRet, gRetN, gIf, gBreak, gCont, gFor, gAsg, fVar, fC, fOp, fUn, fCl, fNil, fCons, fTup, fLst, gNilF, gConsF, dAll, Opd.d, Opd.fr, Val.d, putO, ob_ok, toB, tru, fNot, fAnd, fOr, fAndV, fOrV, isB, ofB, iSeq, iRange1, tName, tTupT, tsCons, tsNil, fYes, envP, envM, small, resO, own0, isOwn, noOwn, wipeB, backB, List.replicate, fMt, fCall, fCallB, fCallM, dTru]
    rintro _ rfl
    obtain ⟨c, hc⟩ := e_next ns (at' := at' + n) (by omega)
    have hm : ∃ m : Nat, m ≤ n ∧ (0 < m → 1 < n) ∧ (c.fmod (n + 1) * (if (1 : Int) < n then 1 else 0)) = (m : Int) := by
      have a := Int.fmod_nonneg_of_pos c (b := (n : Int) + 1) (by omega)
      have b := Int.fmod_lt_of_pos c (b := (n : Int) + 1) (by omega)
      by_cases z : (1 : Int) < n
      · rw [if_pos z]
        exact ⟨(c.fmod (n + 1)).toNat, by omega, fun _ => by omega, by omega⟩
      · rw [if_neg z]
        exact ⟨0, by omega, fun h => by omega, by omega⟩
    obtain ⟨m, hmn, hm1, hmv⟩ := hm
    have hmod : dMod (.int c) (.int ((n : Int) + 1)) = some (.imm (.int (c.fmod ((n : Int) + 1)))) := d_mod (by omega)
    have hin : dInt [.bool (decide ((1 : Int) < n))] = some (.imm (.int (if (1 : Int) < n then 1 else 0))) := by
      show some (Val.imm (.int (if decide ((1 : Int) < n) = true then 1 else 0))) = _
      simp only [decide_eq_true_eq]
    have hmul : dMulA (.int (c.fmod ((n : Int) + 1))) (.int (if (1 : Int) < n then 1 else 0)) = some (.imm (.int m)) := by
      rw [d_mulR (by split <;> omega), hmv]
    have hr : (fOp dMulA (fOp dMod (fCallM 0 G__law_next (gNilF)) (fOp dPlus (fVar 1) (fC (.int 1)))) (fCl dInt (fCons (fOp dGt (fVar 1) (fC (.int 1))) (fNil)))) [some (.own (dk ns (at' + n))), some (.imm (.int n)), some (.own (turn.map .int)), some (.own []), none, none, none] = some (.ok (.val (.imm (.int m))) [some (.own (dk ns (at' + n + 1))), some (.imm (.int n)), some (.own (turn.map .int)), some (.own []), none, none, none]) := by
      generalize (if (1 : Int) < n then (1 : Int) else 0) = w at hin hmul
      have hgt : dGt (.int n) (.int 1) = some (.imm (.bool (decide ((1 : Int) < n)))) := rfl
      generalize decide ((1 : Int) < n) = w2 at hin hgt
      simp -implicitDefEqProofs [wp_seq, wp_bind, wp_ok, wp_ex, ob_ex, gSet, gNext, gDrop, gRet, gRetN, gIf, gBreak, gCont, gFor, gAsg, fVar, fC, fOp, fUn, fCl, fNil, fCons, fTup, fLst, gNilF, gConsF, dAll, Opd.d, Opd.fr, Val.d, putO, ob_ok, toB, tru, fNot, fAnd, fOr, fAndV, fOrV, isB, ofB, iSeq, iRange1, tName, tTupT, tsCons, tsNil, fYes, envP, envM, small, resO, own0, isOwn, noOwn, wipeB, backB, List.replicate, fMt, fCall, fCallB, fCallM, dTru, hc, d_plusI, hmod, hgt, hin, hmul]
    refine wp_seqN (KnI ns n (at' + n + 1) turn m) ?_ ?_
    · refine wp_forR hr rfl (by omega) (KnI ns n (at' + n + 1) turn) ⟨[], _, _, _, rfl, rfl, by simp⟩ ?_ fun e h => ⟨rfl, h⟩
      rintro k hk _ ⟨pairs, x4, x5, x6, rfl, hpl, hpf⟩
      refine ⟨_, rfl, ?_⟩
      have hn1 := hm1 (by omega)
      obtain ⟨c2, hc2⟩ := e_next ns (at' := at' + n + 1 + k) (by omega)
      have j0 := Int.fmod_nonneg_of_pos c2 (b := (n : Int) - 1) (by omega)
      have j1 := Int.fmod_lt_of_pos c2 (b := (n : Int) - 1) (by omega)
      have hmj : dMod (.int c2) (.int ((n : Int) - 1)) = some (.imm (.int (c2.fmod ((n : Int) - 1)))) := d_mod (by omega)
      generalize c2.fmod ((n : Int) - 1) = jj at *
      have hdv : dDiv (.int c2) (.int n) = some (.imm (.int (c2.fdiv n))) := d_div (by omega) (by omega)
      have i0 := Int.fmod_nonneg_of_pos (c2.fdiv n) (b := 1 + jj) (by omega)
      have i1 := Int.fmod_lt_of_pos (c2.fdiv n) (b := 1 + jj) (by omega)
      have hmi : dMod (.int (c2.fdiv n)) (.int (1 + jj)) = some (.imm (.int ((c2.fdiv n).fmod (1 + jj)))) := d_mod (by omega)
      generalize (c2.fdiv n).fmod (1 + jj) = ii at *
      obtain ⟨x, hx, _, hxd⟩ := d_ixL PyData.int (xs := turn) (i := ii) ⟨i0, by omega⟩
      obtain ⟨y, hy, _, hyd⟩ := d_ixL PyData.int (xs := turn) (i := 1 + jj) ⟨by omega, by omega⟩
      have happ : mAppend (pairs.map en) [.tuple [.int x, .int y]] = some (.none, (pairs ++ [(x, y)]).map en) := m_app (en : Pr → PyData) (x := (x, y)) (by omega)
      have hJ : ∀ x4 x5 x6, KnI ns n (at' + n + 1) turn (k + 1) [some (.own (dk ns (at' + n + 1 + k + 1))), some (.imm (.int n)), some (.own (turn.map .int)), some (.own ((pairs ++ [(x, y)]).map en)), x4, x5, x6] := fun x4 x5 x6 => by
        refine ⟨_, _, _, _, rfl, by rw [List.length_append, List.length_singleton, hpl], fun p m => ?_⟩
        rcases List.mem_append.mp m with m | m
        · exact hpf p m
        · rw [List.mem_singleton] at m
          subst m
          exact ⟨ii.toNat, (1 + jj).toNat, by omega, hx, hy⟩
      generalize dk ns (at' + n + 1 + k) = dk0 at *
      generalize dk ns (at' + n + 1 + k + 1) = dk1 at *
      generalize ((pairs ++ [(x, y)]).map en) = P2 at *
      generalize (pairs.map en) = P1 at *
      generalize (turn.map PyData.int) = T at *
      generalize (c2.fdiv n) = cd at *
      show wp (gSeq _ _ [some (.own dk0), some (.imm (.int n)), some (.own T), some (.own P1), some (.imm (.int k)), x5, x6]) _ _
      simp -implicitDefEqProofs [wp_seq, wp_bind, wp_ok, wp_ex, ob_ex, gSet, gNext, gDrop, gRet, gRetN, gIf, gBreak, gCont, gFor, gAsg, fVar, fC, fOp, fUn, fCl, fNil, fCons, fTup, fLst, gNilF, gConsF, dAll, Opd.d, Opd.fr, Val.d, putO, ob_ok, toB, tru, fNot, fAnd, fOr, fAndV, fOrV, isB, ofB, iSeq, iRange1, tName, tTupT, tsCons, tsNil, fYes, envP, envM, small, resO, own0, isOwn, noOwn, wipeB, backB, List.replicate, fMt, fCall, fCallB, fCallM, dTru, hc2, hmj, d_subI, d_plusI, hdv, hmi, hxd, hyd, happ]
      exact hJ _ _ _
    rintro _ ⟨pairs, x4, x5, x6, rfl, hpl, hpf⟩
    have hin := fwd_in hp hpf
    have hac := fwd_acy (hp.nodup_iff.mpr (num0_nodup n)) hpf
    have hcl := e__law_closed (d := .list (pairs.map en)) rfl hin hb
    rw [en_list] at hcl
    have hfin : ∃ ps at2, inN n ps ∧ Acy ps ∧ at2 ≤ at' + 20 ∧ (Except.ok (Val.imm (PyData.tuple ((clo n pairs).map en))) : Res) = .ok (.imm (.tuple ((clo n ps).map en))) ∧ dk ns (at' + n + 1 + m) = dk ns at2 := ⟨pairs, _, hin, hac, by omega, rfl, rfl⟩
    generalize (clo n pairs).map en = CL at *
    generalize pairs.map en = P1 at *
    generalize dk ns (at' + n + 1 + m) = dk1 at *
    simp -implicitDefEqProofs [wp_seq, wp_bind, wp_ok, wp_ex, ob_ex, gSet, gNext, gDrop, gRet, gRetN, gIf, gBreak, gCont, gFor, gAsg, fVar, fC, fOp, fUn, fCl, fNil, fCons, fTup, fLst, gNilF, gConsF, dAll, Opd.d, Opd.fr, Val.d, putO, ob_ok, toB, tru, fNot, fAnd, fOr, fAndV, fOrV, isB, ofB, iSeq, iRange1, tName, tTupT, tsCons, tsNil, fYes, envP, envM, small, resO, own0, isOwn, noOwn, wipeB, backB, List.replicate, fMt, fCall, fCallB, fCallM, dTru, hcl]
    simpa using hfin
  obtain ⟨r, d1, h1, ps, at2, a1, a2, a3, rfl, rfl⟩ := key
  exact ⟨ps, at2, a1, a2, a3, h1⟩
end BV

namespace BV
open PySem PySem.Spec L2
open PyProof.Rows hiding St
open Enc
theorem d_ixLast {α : Type} (f : α → PyData) {xs : List α} (h : xs ≠ []) : ∃ x, x ∈ xs ∧ dIx (.list (xs.map f)) (.int (-1)) = some (.imm (f x)) := by
  have hl : 0 < xs.length := List.length_pos_iff.mpr h
  have hl2 : xs.length - 1 < xs.length := by omega
  refine ⟨xs[xs.length - 1], List.getElem_mem hl2, ?_⟩
  show (atI (xs.map f) (-1)).map Val.imm = _
  unfold atI ixN
  rw [List.length_map, if_neg (by decide), if_pos (by omega)]
  have : (-1 + (xs.length : Int)).toNat = xs.length - 1 := by omega
  rw [this]
  simp only [Option.bind_some, List.getElem?_map, List.getElem?_eq_getElem hl2, Option.map_some]
theorem d_ix2 (a b : Int) (t : Bool) : ∃ v : Int, dIx (.list [.int a, .int b]) (.int (if t = true then 1 else 0)) = some (.imm (.int v)) := by
  cases t
  · exact ⟨a, rfl⟩
  · exact ⟨b, rfl⟩
theorem d_intB (t : Bool) : dInt [.bool t] = some (.imm (.int (if t = true then 1 else 0))) := rfl
theorem good0 {n : Nat} {paper : List Ent} {ps : List Pr} (hn : inN n ps) (ha : Acy ps) : goodE n paper (clo n ps) 0 = true := by
  have hc := clo_isC hn
  have hi := hc.idem
  have hnc := hc.inN hn
  unfold goodE
  have h2 : irr (clo n ps) = true := (irr_iff hi).mpr fun a t => ha a (t.mono fun p m => (hc.2 p).mp m)
  rw [h2, decide_eq_true (hi.unique (clo_isC hnc))]
  simp
def PaE (n : Nat) (paper : List Ent) : Prop := ∀ q ∈ paper, inN n q.1 ∧ q.1.length ≤ 49
theorem PaE.add {n : Nat} {paper : List Ent} {ps : List Pr} {v : Int} (h : PaE n paper) (hn : inN n ps) (hb : n ≤ 7) : PaE n (paper ++ [(clo n ps, v)]) := by
  intro q m
  rcases List.mem_append.mp m with m | m
  · exact h q m
  · rw [List.mem_singleton] at m
    subst m
    exact ⟨(clo_isC hn).inN hn, clo_len hn hb⟩
theorem inN_nil (n : Nat) : inN n [] := fun p m => by simp at m
theorem clo_nil (n : Nat) : clo n [] = [] := by
  have := isK_nil n
  unfold isK at this
  rw [Bool.and_eq_true, decide_eq_true_eq] at this
  exact this.2
def Pa1 (ns : List Int) (n at0 k : Nat) (e : BE) : Prop := ∃ (paper : List Ent) (at2 : Nat) (x3 x4 x6 : Option Sl), e = [some (.own (dk ns at2)), some (.imm (.int n)), some (.own (paper.map en)), x3, x4, none, x6, none, none] ∧ paper.length = k ∧ PaE n paper ∧ at2 ≤ at0 + 22 * k
def Pa2 (ns : List Int) (n at0 : Nat) (e : BE) : Prop := ∃ (paper : List Ent) (at2 k : Nat) (x3 x6 x7 x8 : Option Sl), e = [some (.own (dk ns at2)), some (.imm (.int n)), some (.own (paper.map en)), x3, some (.imm (.tuple [])), some (.imm (.int k)), x6, x7, x8] ∧ paper.length ≤ 6 + 50 * k ∧ k ≤ 4 ∧ PaE n paper ∧ at2 ≤ at0 + k
def Pa3 (ns : List Int) (n at0 : Nat) (e : BE) : Prop := ∃ (paper : List Ent) (at2 : Nat) (x3 x4 x5 x6 x7 x8 : Option Sl), e = [some (.own (dk ns at2)), some (.imm (.int n)), some (.own (paper.map en)), x3, x4, x5, x6, x7, x8] ∧ paper.length ≤ 206 ∧ PaE n paper ∧ at2 ≤ at0 + 5
def Pa4 (ns : List Int) (n at2 k : Nat) (l0 : Nat) (done : List Pr) (e : BE) : Prop := ∃ (paper : List Ent) (x3 x6 x7 x8 : Option Sl), e = [some (.own (dk ns at2)), some (.imm (.int n)), some (.own (paper.map en)), x3, some (.imm (.tuple [])), some (.imm (.int k)), x6, x7, x8] ∧ paper.length = l0 + done.length ∧ PaE n paper
def PaM (e : BE) : Nat := match e with
  | _ :: _ :: _ :: _ :: _ :: some (.imm (.int k)) :: _ => (4 - k).toNat
  | _ => 0
theorem e_paper (ns : List Int) {n at' : Nat} (h : at' ≤ 90000) (hb : n ≤ 7) : ∃ (paper : List Ent) (at2 : Nat), paper.length ≤ 206 ∧ PaE n paper ∧ at2 ≤ at' + 200 ∧ G__law_paper (dk ns at') [.int n] = some (.ok (.imm (.tuple (paper.map en))), dk ns at2) := by
  have key : ∃ r d1, runM 9 g__law_paper (dk ns at') [.int n] = some (r, d1) ∧ (∃ (paper : List Ent) (at2 : Nat), paper.length ≤ 206 ∧ PaE n paper ∧ at2 ≤ at' + 200 ∧ r = .ok (.imm (.tuple (paper.map en))) ∧ d1 = dk ns at2) := by
    apply runM_wp
    unfold g__law_paper
    refine wp_seqN (fun e => e = [some (.own (dk ns at')), some (.imm (.int n)), some (.own []), none, none, none, none, none, none]) ?_ ?_
    · simp -implicitDefEqProofs [wp_seq, wp_bind, wp_ok, wp_ex, ob_ex, gSet, gNext, gDrop, gRet, gRetN, gIf, gBreak, gCont, gFor, gAsg, fVar, fC, fOp, fUn, fCl, fNil, fCons, fTup, fLst, gNilF, gConsF, dAll, Opd.d, Opd.fr, Val.d, putO, ob_ok, toB, tru, fNot, fAnd, fOr, fAndV, fOrV, isB, ofB, iSeq, iRange1, tName, tTupT, tsCons, tsNil, fYes, envP, envM, small, resO, own0, isOwn, noOwn, wipeB, backB, List.replicate, fMt, fCall, fCallB, fCallM, dTru]
    rintro _ rfl
    obtain ⟨c, hc⟩ := e_next ns (at' := at') (by omega)
    have c0 := Int.fmod_nonneg_of_pos c (b := 7) (by omega)
    have c1 := Int.fmod_lt_of_pos c (b := 7) (by omega)
    obtain ⟨m, hm⟩ : ∃ m : Nat, c.fmod 7 = (m : Int) := ⟨(c.fmod 7).toNat, by omega⟩
    have hmod : dMod (.int c) (.int 7) = some (.imm (.int m)) := by rw [d_mod (by decide), hm]
    have hr : (fOp dMod (fCallM 0 G__law_next (gNilF)) (fC (.int 7))) [some (.own (dk ns at')), some (.imm (.int n)), some (.own []), none, none, none, none, none, none] = some (.ok (.val (.imm (.int m))) [some (.own (dk ns (at' + 1))), some (.imm (.int n)), some (.own []), none, none, none, none, none, none]) := by
      simp -implicitDefEqProofs [wp_seq, wp_bind, wp_ok, wp_ex, ob_ex, gSet, gNext, gDrop, gRet, gRetN, gIf, gBreak, gCont, gFor, gAsg, fVar, fC, fOp, fUn, fCl, fNil, fCons, fTup, fLst, gNilF, gConsF, dAll, Opd.d, Opd.fr, Val.d, putO, ob_ok, toB, tru, fNot, fAnd, fOr, fAndV, fOrV, isB, ofB, iSeq, iRange1, tName, tTupT, tsCons, tsNil, fYes, envP, envM, small, resO, own0, isOwn, noOwn, wipeB, backB, List.replicate, fMt, fCall, fCallB, fCallM, dTru, hc, hmod]
    refine wp_seqN (fun e => ∃ k, k ≤ 6 ∧ Pa1 ns n (at' + 1) k e) ?_ ?_
    · refine wp_forR hr rfl (by omega) (Pa1 ns n (at' + 1)) ⟨[], _, _, _, _, rfl, rfl, (fun q m => by simp at m), by omega⟩ ?_ fun e h => ⟨rfl, m, by omega, h⟩
      rintro k hk _ ⟨paper, at2, x3, x4, x6, rfl, hpl, hpe, hat⟩
      refine ⟨_, rfl, ?_⟩
      obtain ⟨ps, at3, hin, hac, hat3, hkn⟩ := e_known ns (n := n) (at' := at2) (by omega) hb
      have hg0 := good0 (paper := paper) hin hac
      have hcin := (clo_isC hin).inN hin
      have hcl := clo_len hin hb
      have hJ0 : ∀ v : Int, PaE n (paper ++ [(clo n ps, v)]) := fun v => hpe.add hin hb
      have hpg : ∀ num : Int, G__law_pair_good [.tuple ((clo n ps).map en), .int num, .list (paper.map en), .int n] = some (.ok (.imm (.bool (goodE n paper (clo n ps) num)))) := fun num => e__law_pair_good (.inr rfl) hcin hb (by omega) (by omega)
      generalize clo n ps = cl at *
      show wp (gSeq _ _ [some (.own (dk ns at2)), some (.imm (.int n)), some (.own (paper.map en)), some (.imm (.int k)), x4, none, x6, none, none]) _ _
      refine wp_seqN (fun e => e = [some (.own (dk ns at3)), some (.imm (.int n)), some (.own (paper.map en)), some (.imm (.int k)), some (.imm (.tuple (cl.map en))), none, x6, none, none]) ?_ ?_
      · simp -implicitDefEqProofs [wp_seq, wp_bind, wp_ok, wp_ex, ob_ex, gSet, gNext, gDrop, gRet, gRetN, gIf, gBreak, gCont, gFor, gAsg, fVar, fC, fOp, fUn, fCl, fNil, fCons, fTup, fLst, gNilF, gConsF, dAll, Opd.d, Opd.fr, Val.d, putO, ob_ok, toB, tru, fNot, fAnd, fOr, fAndV, fOrV, isB, ofB, iSeq, iRange1, tName, tTupT, tsCons, tsNil, fYes, envP, envM, small, resO, own0, isOwn, noOwn, wipeB, backB, List.replicate, fMt, fCall, fCallB, fCallM, dTru, hkn]
      rintro _ rfl
      obtain ⟨mo, hmo, hix⟩ := d_ixLast (fun (i : Nat) => PyData.int i) (xs := (List.range 5).filter fun (i : Nat) => goodE n paper cl i) (fun z => by
        have : (0 : Nat) ∈ (List.range 5).filter fun (i : Nat) => goodE n paper cl i := List.mem_filter.mpr ⟨by decide, hg0⟩
        rw [z] at this
        simp at this)
      refine wp_seqN (fun e => e = [some (.own (dk ns at3)), some (.imm (.int n)), some (.own (paper.map en)), some (.imm (.int k)), some (.imm (.tuple (cl.map en))), none, some (.imm (.int mo)), none, none]) ?_ ?_
      · have hlc := lc_eq (vs := [5]) (fi := (iRange1 (fC (.int 5)))) (tg := tName 5) (ft := (tru (fCallB G__law_pair_good (fCons (fVar 4) (fCons (fVar 5) (fCons (fVar 2) (fCons (fVar 1) (fNil)))))))) (fe := fVar 5)
          (e := [some (.own (dk ns at3)), some (.imm (.int n)), some (.own (paper.map en)), some (.imm (.int k)), some (.imm (.tuple (cl.map en))), none, x6, none, none])
          (e1 := [some (.own (dk ns at3)), some (.imm (.int n)), some (.own (paper.map en)), some (.imm (.int k)), some (.imm (.tuple (cl.map en))), none, x6, none, none])
          (fun (i : Nat) => PyData.int i) (List.range 5) (fun (i : Nat) => goodE n paper cl i) (fun (i : Nat) => PyData.int i) (iR (n := 5) rfl rfl (by decide)) rfl (by decide) rfl ?_
        · have hng : dNeg (.int 1) = some (.imm (.int (-1))) := rfl
          generalize List.map (fun (i : Nat) => PyData.int i) ((List.range 5).filter fun (i : Nat) => goodE n paper cl i) = L at *
          generalize (mo : Int) = mo at *
          simp -implicitDefEqProofs [wp_seq, wp_bind, wp_ok, wp_ex, ob_ex, gSet, gNext, gDrop, gRet, gRetN, gIf, gBreak, gCont, gFor, gAsg, fVar, fC, fOp, fUn, fCl, fNil, fCons, fTup, fLst, gNilF, gConsF, dAll, Opd.d, Opd.fr, Val.d, putO, ob_ok, toB, tru, fNot, fAnd, fOr, fAndV, fOrV, isB, ofB, iSeq, iRange1, tName, tTupT, tsCons, tsNil, fYes, envP, envM, small, resO, own0, isOwn, noOwn, wipeB, backB, List.replicate, fMt, fCall, fCallB, fCallM, dTru, hlc, hng, hix]
        · intro i hi
          refine ⟨_, rfl, rfl, ?_, fun _ => ⟨_, rfl, rfl⟩⟩
          have hpg := hpg i
          generalize goodE n paper cl i = b at *
          simp -implicitDefEqProofs [wp_seq, wp_bind, wp_ok, wp_ex, ob_ex, gSet, gNext, gDrop, gRet, gRetN, gIf, gBreak, gCont, gFor, gAsg, fVar, fC, fOp, fUn, fCl, fNil, fCons, fTup, fLst, gNilF, gConsF, dAll, Opd.d, Opd.fr, Val.d, putO, ob_ok, toB, tru, fNot, fAnd, fOr, fAndV, fOrV, isB, ofB, iSeq, iRange1, tName, tTupT, tsCons, tsNil, fYes, envP, envM, small, resO, own0, isOwn, noOwn, wipeB, backB, List.replicate, fMt, fCall, fCallB, fCallM, dTru, hpg, scalar]
      rintro _ rfl
      obtain ⟨d1, hd1⟩ := e_next ns (at' := at3) (by omega)
      obtain ⟨d2, hd2⟩ := e_next ns (at' := at3 + 1) (by omega)
      have q1 : dMod (.int d1) (.int 4) = some (.imm (.int (d1.fmod 4))) := d_mod (by decide)
      have q2 : dMod (.int d2) (.int 5) = some (.imm (.int (d2.fmod 5))) := d_mod (by decide)
      have q3 := d_eqI (d2.fmod 5) 1
      have q4 := d_intB (decide (d2.fmod 5 = 1))
      obtain ⟨v, hv⟩ := d_ix2 mo (d1.fmod 4) (decide (d2.fmod 5 = 1))
      have happ : mAppend (paper.map en) [.tuple [.tuple (cl.map en), .int v]] = some (.none, (paper ++ [(cl, v)]).map en) := m_app (en : Ent → PyData) (x := (cl, v)) (by omega)
      have hJ : ∀ x3 x4 x6, Pa1 ns n (at' + 1) (k + 1) [some (.own (dk ns (at3 + 1 + 1))), some (.imm (.int n)), some (.own ((paper ++ [(cl, v)]).map en)), x3, x4, none, x6, none, none] := fun x3 x4 x6 =>
        ⟨_, _, _, _, _, rfl, by rw [List.length_append, List.length_singleton, hpl], hJ0 v, by omega⟩
      generalize decide (d2.fmod 5 = 1) = t at *
      generalize (if t = true then (1 : Int) else 0) = w at *
      generalize (mo : Int) = mo at *
      generalize d1.fmod 4 = d1m at *
      generalize d2.fmod 5 = d2m at *
      generalize (paper ++ [(cl, v)]).map en = P2 at *
      generalize paper.map en = P1 at *
      generalize dk ns at3 = D1 at *
      generalize dk ns (at3 + 1) = D2 at *
      generalize dk ns (at3 + 1 + 1) = D3 at *
      simp -implicitDefEqProofs [wp_seq, wp_bind, wp_ok, wp_ex, ob_ex, gSet, gNext, gDrop, gRet, gRetN, gIf, gBreak, gCont, gFor, gAsg, fVar, fC, fOp, fUn, fCl, fNil, fCons, fTup, fLst, gNilF, gConsF, dAll, Opd.d, Opd.fr, Val.d, putO, ob_ok, toB, tru, fNot, fAnd, fOr, fAndV, fOrV, isB, ofB, iSeq, iRange1, tName, tTupT, tsCons, tsNil, fYes, envP, envM, small, resO, own0, isOwn, noOwn, wipeB, backB, List.replicate, fMt, fCall, fCallB, fCallM, dTru, hd1, hd2, q1, q2, q3, q4, hv, happ]
      exact hJ _ _ _
    rintro _ ⟨k0, hk0, paper0, at2, x3, x4, x6, rfl, hpl0, hpe0, hat0⟩
    refine wp_seqN (fun e => e = [some (.own (dk ns at2)), some (.imm (.int n)), some (.own (paper0.map en)), x3, some (.imm (.tuple [])), none, x6, none, none]) ?_ ?_
    · simp -implicitDefEqProofs [wp_seq, wp_bind, wp_ok, wp_ex, ob_ex, gSet, gNext, gDrop, gRet, gRetN, gIf, gBreak, gCont, gFor, gAsg, fVar, fC, fOp, fUn, fCl, fNil, fCons, fTup, fLst, gNilF, gConsF, dAll, Opd.d, Opd.fr, Val.d, putO, ob_ok, toB, tru, fNot, fAnd, fOr, fAndV, fOrV, isB, ofB, iSeq, iRange1, tName, tTupT, tsCons, tsNil, fYes, envP, envM, small, resO, own0, isOwn, noOwn, wipeB, backB, List.replicate, fMt, fCall, fCallB, fCallM, dTru]
    rintro _ rfl
    refine wp_seqN (fun e => e = [some (.own (dk ns at2)), some (.imm (.int n)), some (.own (paper0.map en)), x3, some (.imm (.tuple [])), some (.imm (.int 0)), x6, none, none]) ?_ ?_
    · simp -implicitDefEqProofs [wp_seq, wp_bind, wp_ok, wp_ex, ob_ex, gSet, gNext, gDrop, gRet, gRetN, gIf, gBreak, gCont, gFor, gAsg, fVar, fC, fOp, fUn, fCl, fNil, fCons, fTup, fLst, gNilF, gConsF, dAll, Opd.d, Opd.fr, Val.d, putO, ob_ok, toB, tru, fNot, fAnd, fOr, fAndV, fOrV, isB, ofB, iSeq, iRange1, tName, tTupT, tsCons, tsNil, fYes, envP, envM, small, resO, own0, isOwn, noOwn, wipeB, backB, List.replicate, fMt, fCall, fCallB, fCallM, dTru]
    rintro _ rfl
    refine wp_seqN (Pa3 ns n at2) ?_ ?_
    · refine wp_while PaM (Pa2 ns n at2) ⟨paper0, at2, 0, _, _, _, _, rfl, by omega, by omega, hpe0, by omega⟩ ?_ ?_
      · show ((4 : Int) - 0).toNat < 20
        decide
      · rintro _ ⟨paper, at3, k, y3, y6, y7, y8, rfl, hpl, hk4, hpe, hat⟩
        have hlt := d_ltI (i := (k : Int)) (j := 4)
        by_cases z4 : (k : Int) < 4
        · obtain ⟨d1, hd1⟩ := e_next ns (at' := at3) (by omega)
          have q1 : dMod (.int d1) (.int 4) = some (.imm (.int (d1.fmod 4))) := d_mod (by decide)
          have q2 := d_gtI (i := d1.fmod 4) (j := 0)
          rw [decide_eq_true z4] at hlt
          have hex : Pa3 ns n at2 [some (.own (dk ns (at3 + 1))), some (.imm (.int n)), some (.own (paper.map en)), y3, some (.imm (.tuple [])), some (.imm (.int k)), y6, y7, y8] := ⟨_, _, _, _, _, _, _, _, rfl, by omega, hpe, by omega⟩
          by_cases z5 : 0 < d1.fmod 4
          · rw [decide_eq_true z5] at q2
            have hop := e__law_open (ps := []) (n := n) (by omega)
            have hol := openP_len n []
            have hnn : n * n ≤ 49 := Nat.mul_le_mul hb hb
            have hmem : ∀ p ∈ openP n [], (0 ≤ p.1 ∧ p.1 < n) ∧ (0 ≤ p.2 ∧ p.2 < n) := by
              intro p m
              obtain ⟨i, j, h1, h2, rfl, _⟩ := mem_openP.mp m
              exact ⟨⟨by show (0 : Int) ≤ (i : Int); omega, by show (i : Int) < n; omega⟩, by show (0 : Int) ≤ (j : Int); omega, by show (j : Int) < n; omega⟩
            have hjd : ∀ (pp : List Ent) v, PaE n pp → PaE n (pp ++ [([], v)]) := fun pp v hp => by
              have := hp.add (ps := []) (v := v) (inN_nil n) hb
              rw [clo_nil] at this
              exact this
            generalize openP n [] = op at *
            have hbody : wp ((gSeq (gFor (iSeq (fCall G__law_open (gConsF (fVar 4) (gConsF (fVar 1) (gNilF))))) (tTupT (tsCons (tName 7) (tsCons (tName 8) (tsNil)))) (gDrop (fMt 2 mAppend (gConsF (fTup (gConsF (fCall G__law_closed (gConsF (fOp dPlus (fVar 4) (fTup (gConsF (fTup (gConsF (fVar 7) (gConsF (fVar 8) (gNilF)))) (gNilF)))) (gNilF))) (gConsF (fVar 5) (gNilF)))) (gNilF))))) (gSeq (gSet 5 (fOp dPlus (fVar 5) (fC (.int 1)))) (gDrop (fMt 2 mAppend (gConsF (fTup (gConsF (fVar 4) (gConsF (fVar 5) (gNilF)))) (gNilF)))))) [some (.own (dk ns (at3 + 1))), some (.imm (.int n)), some (.own (paper.map en)), y3, some (.imm (.tuple [])), some (.imm (.int k)), y6, y7, y8])
                (fun f e2 => f = .nx ∧ Pa2 ns n at2 e2 ∧ PaM e2 < PaM [some (.own (dk ns at3)), some (.imm (.int n)), some (.own (paper.map en)), y3, some (.imm (.tuple [])), some (.imm (.int k)), y6, y7, y8]) (fun _ _ => False) := by
              have hit : (iSeq (fCall G__law_open (gConsF (fVar 4) (gConsF (fVar 1) (gNilF))))) [some (.own (dk ns (at3 + 1))), some (.imm (.int n)), some (.own (paper.map en)), y3, some (.imm (.tuple [])), some (.imm (.int k)), y6, y7, y8] = some (.ok (op.map en) [some (.own (dk ns (at3 + 1))), some (.imm (.int n)), some (.own (paper.map en)), y3, some (.imm (.tuple [])), some (.imm (.int k)), y6, y7, y8]) := by
                have hop : G__law_open [.tuple [], .int n] = some (.ok (.new (op.map en))) := hop
                generalize paper.map en = P1 at *
                generalize op.map en = O1 at *
                simp -implicitDefEqProofs [wp_seq, wp_bind, wp_ok, wp_ex, ob_ex, gSet, gNext, gDrop, gRet, gRetN, gIf, gBreak, gCont, gFor, gAsg, fVar, fC, fOp, fUn, fCl, fNil, fCons, fTup, fLst, gNilF, gConsF, dAll, Opd.d, Opd.fr, Val.d, putO, ob_ok, toB, tru, fNot, fAnd, fOr, fAndV, fOrV, isB, ofB, iSeq, iRange1, tName, tTupT, tsCons, tsNil, fYes, envP, envM, small, resO, own0, isOwn, noOwn, wipeB, backB, List.replicate, fMt, fCall, fCallB, fCallM, dTru, hop]
              refine wp_seqN (Pa4 ns n (at3 + 1) k paper.length op) ?_ ?_
              · refine wp_forS en op hit (Pa4 ns n (at3 + 1) k paper.length) ⟨paper, _, _, _, _, rfl, rfl, hpe⟩ ?_ fun e h => ⟨rfl, h⟩
                rintro done p rest hx _ ⟨pp, u3, u6, u7, u8, rfl, hppl, hppe⟩
                have hp : p ∈ op := by rw [hx]; simp
                obtain ⟨m1, m2⟩ := hmem p hp
                have hna := inN_add (inN_nil n) m1 m2
                refine ⟨_, rfl, ?_⟩
                have ca := e__law_closed (d := .tuple [.tuple [.int p.1, .int p.2]]) (ps := [(p.1, p.2)]) rfl hna hb
                rw [en_list] at ca
                have pa : dPlus (.tuple []) (.tuple [.tuple [.int p.1, .int p.2]]) = some (.imm (.tuple [.tuple [.int p.1, .int p.2]])) := rfl
                have hdl : done.length ≤ op.length := by
                  have z := congrArg List.length hx
                  rw [List.length_append] at z
                  omega
                have happ : mAppend (pp.map en) [.tuple [.tuple ((clo n [(p.1, p.2)]).map en), .int k]] = some (.none, (pp ++ [(clo n [(p.1, p.2)], (k : Int))]).map en) := m_app (en : Ent → PyData) (x := (clo n [(p.1, p.2)], (k : Int))) (by omega)
                have hJ : ∀ x3 x6 x7 x8, Pa4 ns n (at3 + 1) k paper.length (done ++ [p]) [some (.own (dk ns (at3 + 1))), some (.imm (.int n)), some (.own ((pp ++ [(clo n [(p.1, p.2)], (k : Int))]).map en)), x3, some (.imm (.tuple [])), some (.imm (.int k)), x6, x7, x8] := fun x3 x6 x7 x8 =>
                  ⟨_, _, _, _, _, rfl, by rw [List.length_append, List.length_append, List.length_singleton, List.length_singleton, hppl, Nat.add_assoc], hppe.add hna hb⟩
                generalize (pp ++ [(clo n [(p.1, p.2)], (k : Int))]).map en = P2 at *
                generalize (clo n [(p.1, p.2)]).map en = CL at *
                generalize pp.map en = P1 at *
                generalize dk ns (at3 + 1) = D1 at *
                show wp (gDrop _ [some (.own D1), some (.imm (.int n)), some (.own P1), u3, some (.imm (.tuple [])), some (.imm (.int k)), u6, some (.imm (.int p.1)), some (.imm (.int p.2))]) _ _
                simp -implicitDefEqProofs [wp_seq, wp_bind, wp_ok, wp_ex, ob_ex, gSet, gNext, gDrop, gRet, gRetN, gIf, gBreak, gCont, gFor, gAsg, fVar, fC, fOp, fUn, fCl, fNil, fCons, fTup, fLst, gNilF, gConsF, dAll, Opd.d, Opd.fr, Val.d, putO, ob_ok, toB, tru, fNot, fAnd, fOr, fAndV, fOrV, isB, ofB, iSeq, iRange1, tName, tTupT, tsCons, tsNil, fYes, envP, envM, small, resO, own0, isOwn, noOwn, wipeB, backB, List.replicate, fMt, fCall, fCallB, fCallM, dTru, pa, ca, happ]
                exact hJ _ _ _ _
              · rintro _ ⟨pp, u3, u6, u7, u8, rfl, hppl, hppe⟩
                have pl := d_plusI (i := (k : Int)) (j := 1)
                have happ : mAppend (pp.map en) [.tuple [.tuple [], .int ((k : Int) + 1)]] = some (.none, (pp ++ [([], (k : Int) + 1)]).map en) := m_app (en : Ent → PyData) (x := ([], (k : Int) + 1)) (by omega)
                have hk1 : ((k + 1 : Nat) : Int) = (k : Int) + 1 := by omega
                have hJ : ∀ x3 x6 x7 x8, Pa2 ns n at2 [some (.own (dk ns (at3 + 1))), some (.imm (.int n)), some (.own ((pp ++ [([], (k : Int) + 1)]).map en)), x3, some (.imm (.tuple [])), some (.imm (.int ((k : Int) + 1))), x6, x7, x8] := fun x3 x6 x7 x8 =>
                  ⟨_, at3 + 1, k + 1, _, _, _, _, by rw [hk1], by rw [List.length_append, List.length_singleton, hppl]; omega, by omega, hjd pp _ hppe, by omega⟩
                have hM : ((4 : Int) - (k + 1)).toNat < ((4 : Int) - k).toNat := by omega
                generalize (pp ++ [([], (k : Int) + 1)]).map en = P2 at *
                generalize pp.map en = P1 at *
                generalize dk ns (at3 + 1) = D1 at *
                simp -implicitDefEqProofs [wp_seq, wp_bind, wp_ok, wp_ex, ob_ex, gSet, gNext, gDrop, gRet, gRetN, gIf, gBreak, gCont, gFor, gAsg, fVar, fC, fOp, fUn, fCl, fNil, fCons, fTup, fLst, gNilF, gConsF, dAll, Opd.d, Opd.fr, Val.d, putO, ob_ok, toB, tru, fNot, fAnd, fOr, fAndV, fOrV, isB, ofB, iSeq, iRange1, tName, tTupT, tsCons, tsNil, fYes, envP, envM, small, resO, own0, isOwn, noOwn, wipeB, backB, List.replicate, fMt, fCall, fCallB, fCallM, dTru, pl, happ]
                exact ⟨hJ _ _ _ _, hM⟩
            have htest : (fAnd (toB (fOp dLt (fVar 5) (fC (.int 4)))) (toB (fOp dGt (fOp dMod (fCallM 0 G__law_next (gNilF)) (fC (.int 4))) (fC (.int 0))))) [some (.own (dk ns at3)), some (.imm (.int n)), some (.own (paper.map en)), y3, some (.imm (.tuple [])), some (.imm (.int k)), y6, y7, y8] = some (.ok true [some (.own (dk ns (at3 + 1))), some (.imm (.int n)), some (.own (paper.map en)), y3, some (.imm (.tuple [])), some (.imm (.int k)), y6, y7, y8]) := by
              generalize paper.map en = P1 at *
              generalize dk ns at3 = D1 at *
              generalize dk ns (at3 + 1) = D2 at *
              generalize d1.fmod 4 = d1m at *
              simp -implicitDefEqProofs [wp_seq, wp_bind, wp_ok, wp_ex, ob_ex, gSet, gNext, gDrop, gRet, gRetN, gIf, gBreak, gCont, gFor, gAsg, fVar, fC, fOp, fUn, fCl, fNil, fCons, fTup, fLst, gNilF, gConsF, dAll, Opd.d, Opd.fr, Val.d, putO, ob_ok, toB, tru, fNot, fAnd, fOr, fAndV, fOrV, isB, ofB, iSeq, iRange1, tName, tTupT, tsCons, tsNil, fYes, envP, envM, small, resO, own0, isOwn, noOwn, wipeB, backB, List.replicate, fMt, fCall, fCallB, fCallM, dTru, hlt, hd1, q1, q2]
            rw [htest, wp_ok]
            simp only [if_true]
            refine wp_mono hbody (fun f e q => ?_) fun _ _ q => q.elim
            obtain ⟨rfl, q⟩ := q
            exact q
          · rw [decide_eq_false z5] at q2
            generalize paper.map en = P1 at *
            generalize dk ns at3 = D1 at *
            generalize dk ns (at3 + 1) = D2 at *
            generalize d1.fmod 4 = d1m at *
            simp -implicitDefEqProofs [wp_seq, wp_bind, wp_ok, wp_ex, ob_ex, gSet, gNext, gDrop, gRet, gRetN, gIf, gBreak, gCont, gFor, gAsg, fVar, fC, fOp, fUn, fCl, fNil, fCons, fTup, fLst, gNilF, gConsF, dAll, Opd.d, Opd.fr, Val.d, putO, ob_ok, toB, tru, fNot, fAnd, fOr, fAndV, fOrV, isB, ofB, iSeq, iRange1, tName, tTupT, tsCons, tsNil, fYes, envP, envM, small, resO, own0, isOwn, noOwn, wipeB, backB, List.replicate, fMt, fCall, fCallB, fCallM, dTru, hlt, hd1, q1, q2]
            exact hex
        · rw [decide_eq_false z4] at hlt
          have hex : Pa3 ns n at2 [some (.own (dk ns at3)), some (.imm (.int n)), some (.own (paper.map en)), y3, some (.imm (.tuple [])), some (.imm (.int k)), y6, y7, y8] := ⟨_, _, _, _, _, _, _, _, rfl, by omega, hpe, by omega⟩
          generalize paper.map en = P1 at *
          generalize dk ns at3 = D1 at *
          simp -implicitDefEqProofs [wp_seq, wp_bind, wp_ok, wp_ex, ob_ex, gSet, gNext, gDrop, gRet, gRetN, gIf, gBreak, gCont, gFor, gAsg, fVar, fC, fOp, fUn, fCl, fNil, fCons, fTup, fLst, gNilF, gConsF, dAll, Opd.d, Opd.fr, Val.d, putO, ob_ok, toB, tru, fNot, fAnd, fOr, fAndV, fOrV, isB, ofB, iSeq, iRange1, tName, tTupT, tsCons, tsNil, fYes, envP, envM, small, resO, own0, isOwn, noOwn, wipeB, backB, List.replicate, fMt, fCall, fCallB, fCallM, dTru, hlt]
          exact hex
    rintro _ ⟨paper, at3, y3, y4, y5, y6, y7, y8, rfl, hpl, hpe, hat⟩
    have hfin : ∃ (paper2 : List Ent) (at4 : Nat), paper2.length ≤ 206 ∧ PaE n paper2 ∧ at4 ≤ at' + 200 ∧ (Except.ok (Val.imm (PyData.tuple (paper.map en))) : Res) = .ok (.imm (.tuple (paper2.map en))) ∧ dk ns at3 = dk ns at4 := ⟨paper, at3, hpl, hpe, by omega, rfl, rfl⟩
    generalize paper.map en = P1 at *
    generalize dk ns at3 = D1 at *
    simp -implicitDefEqProofs [wp_seq, wp_bind, wp_ok, wp_ex, ob_ex, gSet, gNext, gDrop, gRet, gRetN, gIf, gBreak, gCont, gFor, gAsg, fVar, fC, fOp, fUn, fCl, fNil, fCons, fTup, fLst, gNilF, gConsF, dAll, Opd.d, Opd.fr, Val.d, putO, ob_ok, toB, tru, fNot, fAnd, fOr, fAndV, fOrV, isB, ofB, iSeq, iRange1, tName, tTupT, tsCons, tsNil, fYes, envP, envM, small, resO, own0, isOwn, noOwn, wipeB, backB, List.replicate, fMt, fCall, fCallB, fCallM, dTru, dTuple]
    simpa using hfin
  obtain ⟨r, d1, h1, paper, at2, a1, a2, a3, rfl, rfl⟩ := key
  exact ⟨paper, at2, a1, a2, a3, h1⟩
end BV

namespace BV
open PySem PySem.Spec L2
open PyProof.Rows hiding St
open Enc
theorem wp_seqO {Q : Flw → BE → Prop} {X : Ex → BE → Prop} {e : BE} {g h : M Flw} (P : BE → Prop) (h1 : wp (g e) (fun f e1 => (f = .nx ∧ P e1) ∨ (f ≠ .nx ∧ Q f e1)) X) (h2 : ∀ e1, P e1 → wp (h e1) Q X) : wp (gSeq g h e) Q X := by
  rw [wp_seq]
  refine wp_mono h1 (fun f e1 q => ?_) fun _ _ q => q
  rcases q with ⟨rfl, q⟩ | ⟨n, q⟩
  · exact h2 e1 q
  · cases f with
    | nx => exact absurd rfl n
    | rt r => exact q
    | bk => exact q
    | ct => exact q
theorem cut_to {α : Type} (f : α → PyData) (l : List α) (a : Nat) : cutD (l.map f) none (some (a : Int)) = (l.take a).map f := by
  unfold cutD
  rw [HT.sIx_none, HT.sIx_nat, List.drop_zero, Nat.sub_zero, List.length_map, ← List.map_take]
  congr 1
  by_cases h : a ≤ l.length
  · rw [Nat.min_eq_left h]
  · rw [Nat.min_eq_right (by omega), List.take_of_length_le (Nat.le_refl _), List.take_of_length_le (by omega)]
theorem cut_fr {α : Type} (f : α → PyData) (l : List α) (a : Nat) : cutD (l.map f) (some (a : Int)) none = (l.drop a).map f := by
  unfold cutD
  rw [HT.sIx_none, HT.sIx_nat, List.length_map, ← List.map_drop, ← List.map_take]
  congr 1
  rw [List.take_of_length_le (by rw [List.length_drop]; exact Nat.le_refl _)]
  by_cases h : a ≤ l.length
  · rw [Nat.min_eq_left h]
  · rw [Nat.min_eq_right (by omega), List.drop_of_length_le (Nat.le_refl _), List.drop_of_length_le (by omega)]
theorem cut_m1 {α : Type} (f : α → PyData) (l : List α) : ∃ l' : List α, l'.Sublist l ∧ cutD (l.map f) none (some (-1)) = l'.map f := by
  unfold cutD
  rw [HT.sIx_none, List.drop_zero, Nat.sub_zero, ← List.map_take]
  exact ⟨_, List.take_sublist _ _, rfl⟩
theorem inN.sub {n : Nat} {l l' : List Pr} (h : inN n l) (s : ∀ p ∈ l', p ∈ l) : inN n l' := fun p m => h p (s p m)
theorem inN.app {n : Nat} {l l' : List Pr} (h : inN n l) (h' : inN n l') : inN n (l ++ l') := fun p m => (List.mem_append.mp m).elim (h p) (h' p)
def PaS (n m : Nat) (paper : List Ent) : Prop := (∀ q ∈ paper, inN n q.1 ∧ q.1.length ≤ 49 + m) ∧ paper.length ≤ 206 + m
def SpR (ns : List Int) (n m at0 : Nat) (r : Res) (d1 : List PyData) : Prop := ∃ (paper : List Ent) (at2 : Nat), PaS n (m + 1) paper ∧ at2 ≤ at0 ∧ r = .ok (.imm (.tuple (paper.map en))) ∧ d1 = dk ns at2
def Sp5 (ns : List Int) (n m at0 : Nat) (paper : List Ent) (c : Int) (a : Nat) (e : BE) : Prop := ∃ (k : List Pr) (v : Int) (at2 : Nat), e = [some (.own (dk ns at2)), some (.imm (.tuple (paper.map en))), some (.imm (.int n)), some (.imm (.int c)), some (.imm (.int a)), some (.imm (.tuple (k.map en))), some (.imm (.int v)), none] ∧ inN n k ∧ k.length ≤ 49 + (m + 1) ∧ at2 ≤ at0
theorem dRevT {α : Type} (f : α → PyData) (l : List α) : dRev (.tuple (l.map f)) = some (.imm (.tuple (l.reverse.map f))) := by
  show some (Val.imm (.tuple (l.map f).reverse)) = _
  rw [List.map_reverse]
theorem e_spoilt (ns : List Int) {n m at' : Nat} {paper : List Ent} (h : at' ≤ 95000) (hb : n ≤ 7) (hm : m ≤ 20) (hp : PaS n m paper) : ∃ (paper2 : List Ent) (at2 : Nat), PaS n (m + 1) paper2 ∧ at2 ≤ at' + 30 ∧ G__law_spoilt (dk ns at') [.tuple (paper.map en), .int n] = some (.ok (.imm (.tuple (paper2.map en))), dk ns at2) := by
  have key : ∃ r d1, runM 8 g__law_spoilt (dk ns at') [.tuple (paper.map en), .int n] = some (r, d1) ∧ SpR ns n m (at' + 30) r d1 := by
    apply runM_wp
    unfold g__law_spoilt
    obtain ⟨hpe, hpl⟩ := hp
    obtain ⟨c, hc⟩ := e_next ns (at' := at') (by omega)
    refine wp_seqN (fun e => e = [some (.own (dk ns (at' + 1))), some (.imm (.tuple (paper.map en))), some (.imm (.int n)), some (.imm (.int c)), none, none, none, none]) ?_ ?_
    · generalize paper.map en = P1
      simp -implicitDefEqProofs [wp_seq, wp_bind, wp_ok, wp_ex, ob_ex, gSet, gNext, gDrop, gRet, gRetN, gIf, gBreak, gCont, gFor, gAsg, fVar, fC, fOp, fUn, fCl, fNil, fCons, fTup, fLst, gNilF, gConsF, dAll, Opd.d, Opd.fr, Val.d, putO, ob_ok, toB, tru, fNot, fAnd, fOr, fAndV, fOrV, isB, ofB, iSeq, iRange1, tName, tTupT, tsCons, tsNil, fYes, envP, envM, small, resO, own0, isOwn, noOwn, wipeB, backB, List.replicate, fMt, fCall, fCallB, fCallM, dTru, hc]
    rintro _ rfl
    have dv : ∀ x : Int, x ≠ 0 → x.natAbs < 1073741824 → dDiv (.int c) (.int x) = some (.imm (.int (c.fdiv x))) := fun x h1 h2 => d_div h1 h2
    have dv8 := dv 8 (by decide) (by decide)
    have dv64 := dv 64 (by decide) (by decide)
    have dv512 := dv 512 (by decide) (by decide)
    have hlen := d_lenT (en : Ent → PyData) paper
    obtain ⟨mx, hmx, hmx1, hmx2⟩ : ∃ mx : Int, dMax2 [.int 1, .int paper.length] = some (.imm (.int mx)) ∧ 0 < mx ∧ (paper ≠ [] → mx = paper.length) := by
      refine ⟨_, rfl, ?_, ?_⟩
      · split <;> omega
      · intro z
        have := List.length_pos_iff.mpr z
        split <;> omega
    have hmd : dMod (.int (c.fdiv 8)) (.int mx) = some (.imm (.int ((c.fdiv 8).fmod mx))) := d_mod (by omega)
    have a0 := Int.fmod_nonneg_of_pos (c.fdiv 8) hmx1
    have a1 := Int.fmod_lt_of_pos (c.fdiv 8) hmx1
    obtain ⟨a, ha⟩ : ∃ a : Nat, (c.fdiv 8).fmod mx = (a : Int) := ⟨((c.fdiv 8).fmod mx).toNat, by omega⟩
    rw [ha] at hmd a0 a1
    refine wp_seqN (fun e => e = [some (.own (dk ns (at' + 1))), some (.imm (.tuple (paper.map en))), some (.imm (.int n)), some (.imm (.int c)), some (.imm (.int a)), none, none, none]) ?_ ?_
    · generalize paper.map en = P1 at *
      generalize (paper.length : Int) = L1 at *
      simp -implicitDefEqProofs [wp_seq, wp_bind, wp_ok, wp_ex, ob_ex, gSet, gNext, gDrop, gRet, gRetN, gIf, gBreak, gCont, gFor, gAsg, fVar, fC, fOp, fUn, fCl, fNil, fCons, fTup, fLst, gNilF, gConsF, dAll, Opd.d, Opd.fr, Val.d, putO, ob_ok, toB, tru, fNot, fAnd, fOr, fAndV, fOrV, isB, ofB, iSeq, iRange1, tName, tTupT, tsCons, tsNil, fYes, envP, envM, small, resO, own0, isOwn, noOwn, wipeB, backB, List.replicate, fMt, fCall, fCallB, fCallM, dTru, dv8, hlen, hmx, hmd]
    rintro _ rfl
    have m8 : dMod (.int c) (.int 8) = some (.imm (.int (c.fmod 8))) := d_mod (by decide)
    have m84 : dMod (.int (c.fdiv 8)) (.int 4) = some (.imm (.int ((c.fdiv 8).fmod 4))) := d_mod (by decide)
    obtain ⟨ps, atk, kin, kac, hatk, hkn⟩ := e_known ns (n := n) (at' := at' + 1) (by omega) hb
    have kcl := clo_len kin hb
    have kcn := (clo_isC kin).inN kin
    have hie : dEq (.tuple (paper.map en)) (.tuple []) = some (.imm (.bool (decide (paper = [])))) := d_eqT (α := Ent) (by decide) paper []
    have hi8 := d_eqI (c.fmod 8) 0
    by_cases z : paper = [] ∨ c.fmod 8 = 0
    · have happ : dPlus (.tuple (paper.map en)) (.tuple [.tuple [.tuple ((clo n ps).map en), .int ((c.fdiv 8).fmod 4)]]) = some (.imm (.tuple ((paper ++ [(clo n ps, (c.fdiv 8).fmod 4)]).map en))) := d_catT (α := Ent) (b := [(clo n ps, (c.fdiv 8).fmod 4)]) (by simp; omega)
      have hfin : SpR ns n m (at' + 30) (.ok (.imm (.tuple ((paper ++ [(clo n ps, (c.fdiv 8).fmod 4)]).map en)))) (dk ns atk) := by
        refine ⟨_, _, ⟨fun q mq => ?_, by rw [List.length_append, List.length_singleton]; omega⟩, by omega, rfl, rfl⟩
        rcases List.mem_append.mp mq with mq | mq
        · have := hpe q mq
          exact ⟨this.1, by omega⟩
        · rw [List.mem_singleton] at mq
          subst mq
          exact ⟨kcn, by show (clo n ps).length ≤ _; omega⟩
      have htest : (fOr (toB (fOp dEq (fVar 1) (fTup (gNilF)))) (toB (fOp dEq (fOp dMod (fVar 3) (fC (.int 8))) (fC (.int 0))))) [some (.own (dk ns (at' + 1))), some (.imm (.tuple (paper.map en))), some (.imm (.int n)), some (.imm (.int c)), some (.imm (.int a)), none, none, none] = some (.ok true [some (.own (dk ns (at' + 1))), some (.imm (.tuple (paper.map en))), some (.imm (.int n)), some (.imm (.int c)), some (.imm (.int a)), none, none, none]) := by
        by_cases z1 : paper = []
        · rw [decide_eq_true z1] at hie
          generalize paper.map en = P1 at *
          simp -implicitDefEqProofs [wp_seq, wp_bind, wp_ok, wp_ex, ob_ex, gSet, gNext, gDrop, gRet, gRetN, gIf, gBreak, gCont, gFor, gAsg, fVar, fC, fOp, fUn, fCl, fNil, fCons, fTup, fLst, gNilF, gConsF, dAll, Opd.d, Opd.fr, Val.d, putO, ob_ok, toB, tru, fNot, fAnd, fOr, fAndV, fOrV, isB, ofB, iSeq, iRange1, tName, tTupT, tsCons, tsNil, fYes, envP, envM, small, resO, own0, isOwn, noOwn, wipeB, backB, List.replicate, fMt, fCall, fCallB, fCallM, dTru, hie]
        · rw [decide_eq_false z1] at hie
          have z2 : c.fmod 8 = 0 := z.resolve_left z1
          rw [decide_eq_true z2] at hi8
          generalize paper.map en = P1 at *
          generalize c.fmod 8 = c8 at *
          simp -implicitDefEqProofs [wp_seq, wp_bind, wp_ok, wp_ex, ob_ex, gSet, gNext, gDrop, gRet, gRetN, gIf, gBreak, gCont, gFor, gAsg, fVar, fC, fOp, fUn, fCl, fNil, fCons, fTup, fLst, gNilF, gConsF, dAll, Opd.d, Opd.fr, Val.d, putO, ob_ok, toB, tru, fNot, fAnd, fOr, fAndV, fOrV, isB, ofB, iSeq, iRange1, tName, tTupT, tsCons, tsNil, fYes, envP, envM, small, resO, own0, isOwn, noOwn, wipeB, backB, List.replicate, fMt, fCall, fCallB, fCallM, dTru, hie, m8, hi8]
      generalize (paper ++ [(clo n ps, (c.fdiv 8).fmod 4)]).map en = P2 at *
      generalize (clo n ps).map en = CL at *
      generalize paper.map en = P1 at *
      generalize dk ns (at' + 1) = D1 at *
      generalize dk ns atk = D2 at *
      generalize (c.fdiv 8).fmod 4 = v4 at *
      rw [wp_seq]
      unfold gIf
      rw [wp_bind, htest, wp_ok]
      simp only [if_true]
      simp -implicitDefEqProofs [wp_seq, wp_bind, wp_ok, wp_ex, ob_ex, gSet, gNext, gDrop, gRet, gRetN, gIf, gBreak, gCont, gFor, gAsg, fVar, fC, fOp, fUn, fCl, fNil, fCons, fTup, fLst, gNilF, gConsF, dAll, Opd.d, Opd.fr, Val.d, putO, ob_ok, toB, tru, fNot, fAnd, fOr, fAndV, fOrV, isB, ofB, iSeq, iRange1, tName, tTupT, tsCons, tsNil, fYes, envP, envM, small, resO, own0, isOwn, noOwn, wipeB, backB, List.replicate, fMt, fCall, fCallB, fCallM, dTru, hkn, dv8, m84, happ]
      exact hfin
    · have z1 : ¬ paper = [] := fun h => z (.inl h)
      have z2 : ¬ c.fmod 8 = 0 := fun h => z (.inr h)
      rw [decide_eq_false z1] at hie
      rw [decide_eq_false z2] at hi8
      have hal : (a : Int) < paper.length := by rw [← hmx2 z1]; exact a1
      obtain ⟨q, hqg, hq, hqi⟩ := d_ixT (en : Ent → PyData) (xs := paper) (i := (a : Int)) ⟨by omega, hal⟩
      refine wp_seqN (fun e => e = [some (.own (dk ns (at' + 1))), some (.imm (.tuple (paper.map en))), some (.imm (.int n)), some (.imm (.int c)), some (.imm (.int a)), none, none, none]) ?_ ?_
      · generalize paper.map en = P1 at *
        generalize c.fmod 8 = c8 at *
        simp -implicitDefEqProofs [wp_seq, wp_bind, wp_ok, wp_ex, ob_ex, gSet, gNext, gDrop, gRet, gRetN, gIf, gBreak, gCont, gFor, gAsg, fVar, fC, fOp, fUn, fCl, fNil, fCons, fTup, fLst, gNilF, gConsF, dAll, Opd.d, Opd.fr, Val.d, putO, ob_ok, toB, tru, fNot, fAnd, fOr, fAndV, fOrV, isB, ofB, iSeq, iRange1, tName, tTupT, tsCons, tsNil, fYes, envP, envM, small, resO, own0, isOwn, noOwn, wipeB, backB, List.replicate, fMt, fCall, fCallB, fCallM, dTru, hie, m8, hi8]
      rintro _ rfl
      refine wp_seqN (fun e => e = [some (.own (dk ns (at' + 1))), some (.imm (.tuple (paper.map en))), some (.imm (.int n)), some (.imm (.int c)), some (.imm (.int a)), some (.imm (.tuple (q.1.map en))), some (.imm (.int q.2)), none]) ?_ ?_
      · have hqi : dIx (.tuple (paper.map en)) (.int a) = some (.imm (.tuple [.tuple (q.1.map en), .int q.2])) := hqi
        generalize paper.map en = P1 at *
        generalize q.1.map en = Q1 at *
        simp -implicitDefEqProofs [wp_seq, wp_bind, wp_ok, wp_ex, ob_ex, gSet, gNext, gDrop, gRet, gRetN, gIf, gBreak, gCont, gFor, gAsg, fVar, fC, fOp, fUn, fCl, fNil, fCons, fTup, fLst, gNilF, gConsF, dAll, Opd.d, Opd.fr, Val.d, putO, ob_ok, toB, tru, fNot, fAnd, fOr, fAndV, fOrV, isB, ofB, iSeq, iRange1, tName, tTupT, tsCons, tsNil, fYes, envP, envM, small, resO, own0, isOwn, noOwn, wipeB, backB, List.replicate, fMt, fCall, fCallB, fCallM, dTru, hqi]
      rintro _ rfl
      obtain ⟨hqn, hql⟩ := hpe q hq
      have hsl0 : dSl (.tuple (paper.map en)) none (some (a : Int)) = some (.imm (.tuple ((paper.take a).map en))) := by
        show some (Val.imm (.tuple (cutD (paper.map en) none (some (a : Int))))) = _
        rw [cut_to]
      have hsl1 : dSl (.tuple (paper.map en)) (some ((a : Int) + 1)) none = some (.imm (.tuple ((paper.drop (a + 1)).map en))) := by
        show some (Val.imm (.tuple (cutD (paper.map en) (some ((a : Int) + 1)) none))) = _
        rw [show (a : Int) + 1 = ((a + 1 : Nat) : Int) from by omega, cut_fr]
      have tl := List.length_take_le a paper
      have dl := List.length_drop (i := a + 1) (l := paper)
      have hta : (paper.take a).length = a := by rw [List.length_take]; omega
      refine wp_seqO (Sp5 ns n m (at' + 30) paper c a) ?_ ?_
      · have e3 := d_ltI (i := c.fmod 8) (j := 3)
        have e33 := d_eqI (c.fmod 8) 3
        have e34 := d_eqI (c.fmod 8) 4
        have e35 := d_eqI (c.fmod 8) 5
        have e36 := d_eqI (c.fmod 8) 6
        have hJ : ∀ (k : List Pr) (v : Int) (at2 : Nat), inN n k → k.length ≤ 49 + (m + 1) → at2 ≤ at' + 30 → Sp5 ns n m (at' + 30) paper c a [some (.own (dk ns at2)), some (.imm (.tuple (paper.map en))), some (.imm (.int n)), some (.imm (.int c)), some (.imm (.int a)), some (.imm (.tuple (k.map en))), some (.imm (.int v)), none] := fun k v at2 h1 h2 h3 => ⟨k, v, at2, rfl, h1, h2, h3⟩
        have m645 : dMod (.int (c.fdiv 64)) (.int 5) = some (.imm (.int ((c.fdiv 64).fmod 5))) := d_mod (by decide)
        have m644 : dMod (.int (c.fdiv 64)) (.int 4) = some (.imm (.int ((c.fdiv 64).fmod 4))) := d_mod (by decide)
        have f50 := Int.fmod_nonneg_of_pos (c.fdiv 64) (b := 5) (by decide)
        have f51 := Int.fmod_lt_of_pos (c.fdiv 64) (b := 5) (by decide)
        have f40 := Int.fmod_nonneg_of_pos (c.fdiv 64) (b := 4) (by decide)
        have f41 := Int.fmod_lt_of_pos (c.fdiv 64) (b := 4) (by decide)
        have ng1 : dNeg (.int 1) = some (.imm (.int (-1))) := rfl
        generalize c.fmod 8 = c8 at *
        generalize hx5 : (c.fdiv 64).fmod 5 = x5 at *
        generalize hx4 : (c.fdiv 64).fmod 4 = x4 at *
        by_cases z3 : c8 < 3
        · rw [decide_eq_true z3] at e3
          have hpw : dPow (.int 10) (.int 9) = some (.imm (.int 1000000000)) := rfl
          obtain ⟨v, _, _, hv⟩ := d_ixL PyData.int (xs := [q.2 + 1, q.2 - 1, -1, 1000000000, 0]) (i := x5) ⟨f50, f51⟩
          have hv : dIx (.list [.int (q.2 + 1), .int (q.2 - 1), .int (-1), .int 1000000000, .int 0]) (.int x5) = some (.imm (.int v)) := hv
          have hJ := hJ q.1 v (at' + 1) hqn (by omega) (by omega)
          have pl := d_plusI (i := q.2) (j := 1)
          have sl := d_subI (i := q.2) (j := 1)
          generalize q.2 + 1 = w1 at *
          generalize q.2 - 1 = w2 at *
          generalize paper.map en = P1 at *
          generalize dk ns (at' + 1) = D1 at *
          generalize q.1.map en = Q1 at *
          simp -implicitDefEqProofs [wp_seq, wp_bind, wp_ok, wp_ex, ob_ex, gSet, gNext, gDrop, gRet, gRetN, gIf, gBreak, gCont, gFor, gAsg, fVar, fC, fOp, fUn, fCl, fNil, fCons, fTup, fLst, gNilF, gConsF, dAll, Opd.d, Opd.fr, Val.d, putO, ob_ok, toB, tru, fNot, fAnd, fOr, fAndV, fOrV, isB, ofB, iSeq, iRange1, tName, tTupT, tsCons, tsNil, fYes, envP, envM, small, resO, own0, isOwn, noOwn, wipeB, backB, List.replicate, fMt, fCall, fCallB, fCallM, dTru, m8, e3, pl, sl, ng1, hpw, dv64, m645, hv]
          exact hJ
        · rw [decide_eq_false z3] at e3
          by_cases y3 : c8 = 3
          · rw [decide_eq_true y3] at e33
            have p2 : dPlus (.tuple ((paper.take a).map en)) (.tuple ((paper.drop (a + 1)).map en)) = some (.imm (.tuple ((paper.take a ++ paper.drop (a + 1)).map en))) := d_catT (α := Ent) (by omega)
            have pl := d_plusI (i := (a : Int)) (j := 1)
            have hfin : SpR ns n m (at' + 30) (.ok (.imm (.tuple ((paper.take a ++ paper.drop (a + 1)).map en)))) (dk ns (at' + 1)) := by
              refine ⟨_, _, ⟨fun q mq => ?_, by rw [List.length_append]; omega⟩, by omega, rfl, rfl⟩
              rcases List.mem_append.mp mq with mq | mq
              · have := hpe q (List.mem_of_mem_take mq)
                exact ⟨this.1, by omega⟩
              · have := hpe q (List.mem_of_mem_drop mq)
                exact ⟨this.1, by omega⟩
            generalize (paper.take a ++ paper.drop (a + 1)).map en = P5 at *
            generalize (paper.take a).map en = P2 at *
            generalize (paper.drop (a + 1)).map en = P3 at *
            generalize paper.map en = P1 at *
            generalize dk ns (at' + 1) = D1 at *
            generalize q.1.map en = Q1 at *
            simp -implicitDefEqProofs [wp_seq, wp_bind, wp_ok, wp_ex, ob_ex, gSet, gNext, gDrop, gRet, gRetN, gIf, gBreak, gCont, gFor, gAsg, fVar, fC, fOp, fUn, fCl, fNil, fCons, fTup, fLst, gNilF, gConsF, dAll, Opd.d, Opd.fr, Val.d, putO, ob_ok, toB, tru, fNot, fAnd, fOr, fAndV, fOrV, isB, ofB, iSeq, iRange1, tName, tTupT, tsCons, tsNil, fYes, envP, envM, small, resO, own0, isOwn, noOwn, wipeB, backB, List.replicate, fMt, fCall, fCallB, fCallM, dTru, m8, e3, e33, fSl, fPno, fP, hsl0, hsl1, pl, p2]
            exact hfin
          · rw [decide_eq_false y3] at e33
            by_cases y4 : c8 = 4
            · rw [decide_eq_true y4] at e34
              have hJ := hJ (clo n ps) q.2 atk kcn (by omega) (by omega)
              generalize (clo n ps).map en = CL at *
              generalize paper.map en = P1 at *
              generalize dk ns (at' + 1) = D1 at *
              generalize dk ns atk = D2 at *
              generalize q.1.map en = Q1 at *
              simp -implicitDefEqProofs [wp_seq, wp_bind, wp_ok, wp_ex, ob_ex, gSet, gNext, gDrop, gRet, gRetN, gIf, gBreak, gCont, gFor, gAsg, fVar, fC, fOp, fUn, fCl, fNil, fCons, fTup, fLst, gNilF, gConsF, dAll, Opd.d, Opd.fr, Val.d, putO, ob_ok, toB, tru, fNot, fAnd, fOr, fAndV, fOrV, isB, ofB, iSeq, iRange1, tName, tTupT, tsCons, tsNil, fYes, envP, envM, small, resO, own0, isOwn, noOwn, wipeB, backB, List.replicate, fMt, fCall, fCallB, fCallM, dTru, m8, e3, e33, e34, hkn]
              exact hJ
            · rw [decide_eq_false y4] at e34
              by_cases y5 : c8 = 5
              · rw [decide_eq_true y5] at e35
                obtain ⟨l1, s1, hc1⟩ := cut_m1 (en : Pr → PyData) q.1
                have hs1 : dSl (.tuple (q.1.map en)) none (some (-1)) = some (.imm (.tuple (l1.map en))) := by
                  show some (Val.imm (.tuple (cutD (q.1.map en) none (some (-1))))) = _
                  rw [hc1]
                have hs2 : dSl (.tuple (q.1.map en)) none (some 1) = some (.imm (.tuple ((q.1.take 1).map en))) := by
                  show some (Val.imm (.tuple (cutD (q.1.map en) none (some ((1 : Nat) : Int))))) = _
                  rw [cut_to]
                have hs3 : dSl (.tuple (q.1.map en)) (some 1) none = some (.imm (.tuple ((q.1.drop 1).map en))) := by
                  show some (Val.imm (.tuple (cutD (q.1.map en) (some ((1 : Nat) : Int)) none))) = _
                  rw [cut_fr]
                have t1 := List.length_take_le 1 q.1
                have t2 := List.length_drop (i := 1) (l := q.1)
                have t3 := s1.length_le
                have hr := dRevT (en : Pr → PyData) q.1
                have pa : dPlus (.tuple (q.1.map en)) (.tuple ((q.1.take 1).map en)) = some (.imm (.tuple ((q.1 ++ q.1.take 1).map en))) := d_catT (α := Pr) (by omega)
                have pb : dPlus (.tuple ((q.1.drop 1).map en)) (.tuple ((q.1.take 1).map en)) = some (.imm (.tuple ((q.1.drop 1 ++ q.1.take 1).map en))) := d_catT (α := Pr) (by omega)
                obtain ⟨v, _, hvm, hv⟩ := d_ixL (en : List Pr → PyData) (xs := [q.1.reverse, l1, q.1 ++ q.1.take 1, q.1.drop 1 ++ q.1.take 1]) (i := x4) ⟨f40, f41⟩
                have hv : dIx (.list [.tuple (q.1.reverse.map en), .tuple (l1.map en), .tuple ((q.1 ++ q.1.take 1).map en), .tuple ((q.1.drop 1 ++ q.1.take 1).map en)]) (.int x4) = some (.imm (.tuple (v.map en))) := hv
                have htn : inN n (q.1.take 1) := hqn.sub fun p m => List.mem_of_mem_take m
                have hdn : inN n (q.1.drop 1) := hqn.sub fun p m => List.mem_of_mem_drop m
                have hgood : inN n v ∧ v.length ≤ 49 + (m + 1) := by
                  simp only [List.mem_cons, List.not_mem_nil, or_false] at hvm
                  rcases hvm with rfl | rfl | rfl | rfl
                  · exact ⟨hqn.sub fun p m => List.mem_reverse.mp m, by rw [List.length_reverse]; omega⟩
                  · exact ⟨hqn.sub fun p m => s1.subset m, by omega⟩
                  · exact ⟨hqn.app htn, by rw [List.length_append]; omega⟩
                  · exact ⟨hdn.app htn, by rw [List.length_append]; omega⟩
                have hJ := hJ v q.2 (at' + 1) hgood.1 hgood.2 (by omega)
                generalize (q.1 ++ q.1.take 1).map en = Q5 at *
                generalize (q.1.drop 1 ++ q.1.take 1).map en = Q6 at *
                generalize (q.1.take 1).map en = Q2 at *
                generalize (q.1.drop 1).map en = Q3 at *
                generalize (q.1.reverse).map en = Q4 at *
                generalize l1.map en = Q7 at *
                generalize v.map en = V1 at *
                generalize paper.map en = P1 at *
                generalize dk ns (at' + 1) = D1 at *
                generalize q.1.map en = Q1 at *
                simp -implicitDefEqProofs [wp_seq, wp_bind, wp_ok, wp_ex, ob_ex, gSet, gNext, gDrop, gRet, gRetN, gIf, gBreak, gCont, gFor, gAsg, fVar, fC, fOp, fUn, fCl, fNil, fCons, fTup, fLst, gNilF, gConsF, dAll, Opd.d, Opd.fr, Val.d, putO, ob_ok, toB, tru, fNot, fAnd, fOr, fAndV, fOrV, isB, ofB, iSeq, iRange1, tName, tTupT, tsCons, tsNil, fYes, envP, envM, small, resO, own0, isOwn, noOwn, wipeB, backB, List.replicate, fMt, fCall, fCallB, fCallM, dTru, m8, e3, e33, e34, e35, fSl, fPno, fP, ng1, hr, hs1, hs2, hs3, pa, pb, dv64, m644, hv]
                exact hJ
              · rw [decide_eq_false y5] at e35
                have gt0 : dGt (.int n) (.int 0) = some (.imm (.bool (decide ((0 : Int) < n)))) := rfl
                by_cases y6 : c8 = 6 ∧ (0 : Int) < n
                · rw [decide_eq_true y6.1] at e36
                  rw [decide_eq_true y6.2] at gt0
                  have n1 : dMod (.int (c.fdiv 64)) (.int n) = some (.imm (.int ((c.fdiv 64).fmod n))) := d_mod (by omega)
                  have n2 : dMod (.int (c.fdiv 512)) (.int n) = some (.imm (.int ((c.fdiv 512).fmod n))) := d_mod (by omega)
                  have g1 := Int.fmod_nonneg_of_pos (c.fdiv 64) y6.2
                  have g2 := Int.fmod_lt_of_pos (c.fdiv 64) y6.2
                  have g3 := Int.fmod_nonneg_of_pos (c.fdiv 512) y6.2
                  have g4 := Int.fmod_lt_of_pos (c.fdiv 512) y6.2
                  generalize (c.fdiv 64).fmod n = u1 at *
                  generalize (c.fdiv 512).fmod n = u2 at *
                  have pa : dPlus (.tuple (q.1.map en)) (.tuple [.tuple [.int u1, .int u2]]) = some (.imm (.tuple ((q.1 ++ [(u1, u2)]).map en))) := d_catT (α := Pr) (b := [(u1, u2)]) (by simp; omega)
                  have hJ := hJ (q.1 ++ [(u1, u2)]) q.2 (at' + 1) (inN_add hqn ⟨g1, g2⟩ ⟨g3, g4⟩) (by rw [List.length_append, List.length_singleton]; omega) (by omega)
                  generalize (q.1 ++ [(u1, u2)]).map en = Q5 at *
                  generalize paper.map en = P1 at *
                  generalize dk ns (at' + 1) = D1 at *
                  generalize q.1.map en = Q1 at *
                  simp -implicitDefEqProofs [wp_seq, wp_bind, wp_ok, wp_ex, ob_ex, gSet, gNext, gDrop, gRet, gRetN, gIf, gBreak, gCont, gFor, gAsg, fVar, fC, fOp, fUn, fCl, fNil, fCons, fTup, fLst, gNilF, gConsF, dAll, Opd.d, Opd.fr, Val.d, putO, ob_ok, toB, tru, fNot, fAnd, fOr, fAndV, fOrV, isB, ofB, iSeq, iRange1, tName, tTupT, tsCons, tsNil, fYes, envP, envM, small, resO, own0, isOwn, noOwn, wipeB, backB, List.replicate, fMt, fCall, fCallB, fCallM, dTru, m8, e3, e33, e34, e35, e36, gt0, dv64, dv512, n1, n2, pa]
                  exact hJ
                · have htest : (fAnd (toB (fOp dEq (fOp dMod (fVar 3) (fC (.int 8))) (fC (.int 6)))) (toB (fOp dGt (fVar 2) (fC (.int 0))))) [some (.own (dk ns (at' + 1))), some (.imm (.tuple (paper.map en))), some (.imm (.int n)), some (.imm (.int c)), some (.imm (.int a)), some (.imm (.tuple (q.1.map en))), some (.imm (.int q.2)), none] = some (.ok false [some (.own (dk ns (at' + 1))), some (.imm (.tuple (paper.map en))), some (.imm (.int n)), some (.imm (.int c)), some (.imm (.int a)), some (.imm (.tuple (q.1.map en))), some (.imm (.int q.2)), none]) := by
                    generalize paper.map en = P1 at *
                    generalize dk ns (at' + 1) = D1 at *
                    generalize q.1.map en = Q1 at *
                    by_cases y7 : c8 = 6
                    · have y8 : ¬ (0 : Int) < n := fun h => y6 ⟨y7, h⟩
                      rw [decide_eq_true y7] at e36
                      rw [decide_eq_false y8] at gt0
                      simp -implicitDefEqProofs [wp_seq, wp_bind, wp_ok, wp_ex, ob_ex, gSet, gNext, gDrop, gRet, gRetN, gIf, gBreak, gCont, gFor, gAsg, fVar, fC, fOp, fUn, fCl, fNil, fCons, fTup, fLst, gNilF, gConsF, dAll, Opd.d, Opd.fr, Val.d, putO, ob_ok, toB, tru, fNot, fAnd, fOr, fAndV, fOrV, isB, ofB, iSeq, iRange1, tName, tTupT, tsCons, tsNil, fYes, envP, envM, small, resO, own0, isOwn, noOwn, wipeB, backB, List.replicate, fMt, fCall, fCallB, fCallM, dTru, m8, e36, gt0]
                    · rw [decide_eq_false y7] at e36
                      simp -implicitDefEqProofs [wp_seq, wp_bind, wp_ok, wp_ex, ob_ex, gSet, gNext, gDrop, gRet, gRetN, gIf, gBreak, gCont, gFor, gAsg, fVar, fC, fOp, fUn, fCl, fNil, fCons, fTup, fLst, gNilF, gConsF, dAll, Opd.d, Opd.fr, Val.d, putO, ob_ok, toB, tru, fNot, fAnd, fOr, fAndV, fOrV, isB, ofB, iSeq, iRange1, tName, tTupT, tsCons, tsNil, fYes, envP, envM, small, resO, own0, isOwn, noOwn, wipeB, backB, List.replicate, fMt, fCall, fCallB, fCallM, dTru, m8, e36]
                  have hlc := lc_eq (vs := [7]) (fi := iSeq (fVar 5)) (tg := tName 7) (ft := fYes) (fe := (fUn dRev (fVar 7))) (e := [some (.own (dk ns (at' + 1))), some (.imm (.tuple (paper.map en))), some (.imm (.int n)), some (.imm (.int c)), some (.imm (.int a)), some (.imm (.tuple (q.1.map en))), some (.imm (.int q.2)), none]) (e1 := [some (.own (dk ns (at' + 1))), some (.imm (.tuple (paper.map en))), some (.imm (.int n)), some (.imm (.int c)), some (.imm (.int a)), some (.imm (.tuple (q.1.map en))), some (.imm (.int q.2)), none])
                    en q.1 (fun _ => true) (fun p => en ((p.2, p.1) : Pr)) rfl rfl (by omega) rfl ?_
                  · have hmm : List.map (fun p : Pr => en ((p.2, p.1) : Pr)) (q.1.filter fun _ => true) = (q.1.map fun p => (p.2, p.1)).map en := by rw [filter_tt, List.map_map]; rfl
                    rw [hmm] at hlc
                    have hJ := hJ (q.1.map fun p => (p.2, p.1)) q.2 (at' + 1) (fun p mp => by
                      obtain ⟨r, mr, rfl⟩ := List.mem_map.mp mp
                      have := hqn r mr
                      exact ⟨this.2.2.1, this.2.2.2, this.1, this.2.1⟩) (by rw [List.length_map]; omega) (by omega)
                    have ht : ∀ xs : List PyData, dTuple [.list xs] = some (.imm (.tuple xs)) := fun _ => rfl
                    generalize (q.1.map fun p => (p.2, p.1)).map en = Q5 at *
                    generalize paper.map en = P1 at *
                    generalize dk ns (at' + 1) = D1 at *
                    generalize q.1.map en = Q1 at *
                    have hif : ∀ g1 g2 : M Flw, gIf (fAnd (toB (fOp dEq (fOp dMod (fVar 3) (fC (.int 8))) (fC (.int 6)))) (toB (fOp dGt (fVar 2) (fC (.int 0))))) g1 g2 [some (.own D1), some (.imm (.tuple P1)), some (.imm (.int n)), some (.imm (.int c)), some (.imm (.int a)), some (.imm (.tuple Q1)), some (.imm (.int q.2)), none] = g2 [some (.own D1), some (.imm (.tuple P1)), some (.imm (.int n)), some (.imm (.int c)), some (.imm (.int a)), some (.imm (.tuple Q1)), some (.imm (.int q.2)), none] := fun g1 g2 => by
                      unfold gIf
                      rw [htest, ob_ok]
                      rfl
                    have i1 : ∀ (k : Int) (g1 g2 : M Flw), dEq (.int c8) (.int k) = some (.imm (.bool false)) → gIf (toB (fOp dEq (fOp dMod (fVar 3) (fC (.int 8))) (fC (.int k)))) g1 g2 [some (.own D1), some (.imm (.tuple P1)), some (.imm (.int n)), some (.imm (.int c)), some (.imm (.int a)), some (.imm (.tuple Q1)), some (.imm (.int q.2)), none] = g2 [some (.own D1), some (.imm (.tuple P1)), some (.imm (.int n)), some (.imm (.int c)), some (.imm (.int a)), some (.imm (.tuple Q1)), some (.imm (.int q.2)), none] := fun k g1 g2 hk => by
                      simp -implicitDefEqProofs [wp_seq, wp_bind, wp_ok, wp_ex, ob_ex, gSet, gNext, gDrop, gRet, gRetN, gIf, gBreak, gCont, gFor, gAsg, fVar, fC, fOp, fUn, fCl, fNil, fCons, fTup, fLst, gNilF, gConsF, dAll, Opd.d, Opd.fr, Val.d, putO, ob_ok, toB, tru, fNot, fAnd, fOr, fAndV, fOrV, isB, ofB, iSeq, iRange1, tName, tTupT, tsCons, tsNil, fYes, envP, envM, small, resO, own0, isOwn, noOwn, wipeB, backB, List.replicate, fMt, fCall, fCallB, fCallM, dTru, m8, hk]
                    have i0 : ∀ (g1 g2 : M Flw), gIf (toB (fOp dLt (fOp dMod (fVar 3) (fC (.int 8))) (fC (.int 3)))) g1 g2 [some (.own D1), some (.imm (.tuple P1)), some (.imm (.int n)), some (.imm (.int c)), some (.imm (.int a)), some (.imm (.tuple Q1)), some (.imm (.int q.2)), none] = g2 [some (.own D1), some (.imm (.tuple P1)), some (.imm (.int n)), some (.imm (.int c)), some (.imm (.int a)), some (.imm (.tuple Q1)), some (.imm (.int q.2)), none] := fun g1 g2 => by
                      simp -implicitDefEqProofs [wp_seq, wp_bind, wp_ok, wp_ex, ob_ex, gSet, gNext, gDrop, gRet, gRetN, gIf, gBreak, gCont, gFor, gAsg, fVar, fC, fOp, fUn, fCl, fNil, fCons, fTup, fLst, gNilF, gConsF, dAll, Opd.d, Opd.fr, Val.d, putO, ob_ok, toB, tru, fNot, fAnd, fOr, fAndV, fOrV, isB, ofB, iSeq, iRange1, tName, tTupT, tsCons, tsNil, fYes, envP, envM, small, resO, own0, isOwn, noOwn, wipeB, backB, List.replicate, fMt, fCall, fCallB, fCallM, dTru, m8, e3]
                    rw [i0, i1 3 _ _ e33, i1 4 _ _ e34, i1 5 _ _ e35, hif]
                    simp -implicitDefEqProofs [wp_seq, wp_bind, wp_ok, wp_ex, ob_ex, gSet, gNext, gDrop, gRet, gRetN, gIf, gBreak, gCont, gFor, gAsg, fVar, fC, fOp, fUn, fCl, fNil, fCons, fTup, fLst, gNilF, gConsF, dAll, Opd.d, Opd.fr, Val.d, putO, ob_ok, toB, tru, fNot, fAnd, fOr, fAndV, fOrV, isB, ofB, iSeq, iRange1, tName, tTupT, tsCons, tsNil, fYes, envP, envM, small, resO, own0, isOwn, noOwn, wipeB, backB, List.replicate, fMt, fCall, fCallB, fCallM, dTru, hlc, ht]
                    exact hJ
                  · intro p hp
                    refine ⟨_, rfl, rfl, rfl, fun _ => ⟨.val (.imm (en ((p.2, p.1) : Pr))), ?_, rfl⟩⟩
                    have : dRev (.tuple [.int p.1, .int p.2]) = some (.imm (.tuple [.int p.2, .int p.1])) := rfl
                    show fUn dRev (fVar 7) [some (.own (dk ns (at' + 1))), some (.imm (.tuple (paper.map en))), some (.imm (.int n)), some (.imm (.int c)), some (.imm (.int a)), some (.imm (.tuple (q.1.map en))), some (.imm (.int q.2)), some (.imm (.tuple [.int p.1, .int p.2]))] = _
                    simp -implicitDefEqProofs [wp_seq, wp_bind, wp_ok, wp_ex, ob_ex, gSet, gNext, gDrop, gRet, gRetN, gIf, gBreak, gCont, gFor, gAsg, fVar, fC, fOp, fUn, fCl, fNil, fCons, fTup, fLst, gNilF, gConsF, dAll, Opd.d, Opd.fr, Val.d, putO, ob_ok, toB, tru, fNot, fAnd, fOr, fAndV, fOrV, isB, ofB, iSeq, iRange1, tName, tTupT, tsCons, tsNil, fYes, envP, envM, small, resO, own0, isOwn, noOwn, wipeB, backB, List.replicate, fMt, fCall, fCallB, fCallM, dTru, this]
                    exact ⟨rfl, rfl⟩
      · rintro _ ⟨k, v, at2, rfl, hkn, hkl, hat2⟩
        have p1 : dPlus (.tuple ((paper.take a).map en)) (.tuple [.tuple [.tuple (k.map en), .int v]]) = some (.imm (.tuple ((paper.take a ++ [(k, v)]).map en))) := d_catT (α := Ent) (b := [(k, v)]) (by simp; omega)
        have p2 : dPlus (.tuple ((paper.take a ++ [(k, v)]).map en)) (.tuple ((paper.drop (a + 1)).map en)) = some (.imm (.tuple (((paper.take a ++ [(k, v)]) ++ paper.drop (a + 1)).map en))) := d_catT (α := Ent) (by simp; omega)
        have hfin : SpR ns n m (at' + 30) (.ok (.imm (.tuple (((paper.take a ++ [(k, v)]) ++ paper.drop (a + 1)).map en)))) (dk ns at2) := by
          refine ⟨_, _, ⟨fun q mq => ?_, by simp; omega⟩, by omega, rfl, rfl⟩
          rcases List.mem_append.mp mq with mq | mq
          · rcases List.mem_append.mp mq with mq | mq
            · have := hpe q (List.mem_of_mem_take mq)
              exact ⟨this.1, by omega⟩
            · rw [List.mem_singleton] at mq
              subst mq
              exact ⟨hkn, hkl⟩
          · have := hpe q (List.mem_of_mem_drop mq)
            exact ⟨this.1, by omega⟩
        have pl := d_plusI (i := (a : Int)) (j := 1)
        generalize ((paper.take a ++ [(k, v)]) ++ paper.drop (a + 1)).map en = P5 at *
        generalize (paper.take a ++ [(k, v)]).map en = P4 at *
        generalize (paper.take a).map en = P2 at *
        generalize (paper.drop (a + 1)).map en = P3 at *
        generalize paper.map en = P1 at *
        generalize k.map en = K1 at *
        generalize dk ns at2 = D1 at *
        simp -implicitDefEqProofs [wp_seq, wp_bind, wp_ok, wp_ex, ob_ex, gSet, gNext, gDrop, gRet, gRetN, gIf, gBreak, gCont, gFor, gAsg, fVar, fC, fOp, fUn, fCl, fNil, fCons, fTup, fLst, gNilF, gConsF, dAll, Opd.d, Opd.fr, Val.d, putO, ob_ok, toB, tru, fNot, fAnd, fOr, fAndV, fOrV, isB, ofB, iSeq, iRange1, tName, tTupT, tsCons, tsNil, fYes, envP, envM, small, resO, own0, isOwn, noOwn, wipeB, backB, List.replicate, fMt, fCall, fCallB, fCallM, dTru, fSl, fPno, fP, hsl0, hsl1, p1, p2, pl]
        exact hfin
  obtain ⟨r, d1, h1, paper2, at2, a1, a2, rfl, rfl⟩ := key
  exact ⟨paper2, at2, a1, a2, h1⟩
end BV

namespace BV
open PySem PySem.Spec L2
open PyProof.Rows hiding St
open Enc
theorem d_isiB (b : Bool) : dIsi "bool" (.bool b) = some (.imm (.bool true)) := rfl
theorem d_neB (a b : Bool) : dNe (.bool a) (.bool b) = some (.imm (.bool (!decide (a = b)))) := d_ne (α := Bool) (by decide) a b
theorem d_rep {α : Type} (f : α → PyData) {l : List α} {k : Int} (h : -1000 ≤ k ∧ k ≤ 1000) (hl : l.length ≤ 1000) : dMulA (.tuple (l.map f)) (.int k) = some (.imm (.tuple (((List.replicate k.toNat l).flatten).map f))) := by
  show (if -(2 ^ 63) ≤ k ∧ k ≤ 1000 ∧ (l.map f).length ≤ 1000 then some (Val.imm (.tuple (List.replicate k.toNat (l.map f)).flatten)) else none) = _
  rw [if_pos ⟨by omega, h.2, by rw [List.length_map]; exact hl⟩, List.map_flatten, List.map_replicate]
theorem rep_len {α : Type} (l : List α) (k : Nat) : ((List.replicate k l).flatten).length = k * l.length := by
  simp
theorem mem_rep {α : Type} {l : List α} {k : Nat} {x : α} : x ∈ (List.replicate k l).flatten → x ∈ l := by
  intro h
  obtain ⟨l2, h1, h2⟩ := List.mem_flatten.mp h
  rw [List.mem_replicate] at h1
  rw [h1.2] at h2
  exact h2
theorem mem_rep1 {α : Type} {l : List α} {k : Nat} {x : α} (hk : 0 < k) (h : x ∈ l) : x ∈ (List.replicate k l).flatten := List.mem_flatten.mpr ⟨l, List.mem_replicate.mpr ⟨by omega, rfl⟩, h⟩
def LwO (ns : List Int) (k : Nat) (e : BE) : Prop := ∃ (at2 : Nat) (x2 x3 x4 x5 x6 x7 x8 x9 : Option Sl), e = [none, some (.own (dk ns at2)), x2, x3, x4, x5, x6, x7, x8, x9, none, none] ∧ at2 ≤ 1000 * k ∧ (0 < k → ∃ n : Nat, n ≤ 4 ∧ x3 = some (.imm (.int n)))
def LwI (ns : List Int) (n b t : Nat) (e : BE) : Prop := ∃ (at2 : Nat) (paper : List Ent) (x2 x5 x6 x7 x8 x9 : Option Sl), e = [none, some (.own (dk ns at2)), x2, some (.imm (.int n)), some (.imm (.tuple (paper.map en))), x5, x6, x7, x8, x9, none, none] ∧ at2 ≤ b + 40 * t ∧ PaS n t paper
theorem wp_rt {g : M Flw} {e : BE} {v : PyData} (h : wp (g e) (fun f _ => f = .rt (.val (.imm v))) fun _ _ => False) : ∃ e1, g e = some (.ok (.rt (.val (.imm v))) e1) := by
  have h := h.1
  generalize g e = m at h ⊢
  rcases m with _ | ⟨f, e1⟩ | ⟨x, e1⟩
  · exact h.elim
  · have h : f = .rt (.val (.imm v)) := h
    exact ⟨e1, by rw [h]⟩
  · exact h.elim
theorem law_turnB (ns : List Int) {n b t : Nat} (hn : n ≤ 4) (hb : b ≤ 80000) (ht : t < 5) {at2 : Nat} {paper : List Ent} {x2 x6 x7 x8 x9 : Option Sl} (ha : at2 ≤ b + 40 * t) (hp : PaS n t paper) :
    wp ((gSeq (gSet 6 (fCl dAllB (fCons (fLc [10, 11] (iSeq (fVar 4)) (tTupT (tsCons (tName 10) (tsCons (tName 11) (tsNil)))) (fYes) (fCallB G__law_pair_good (fCons (fVar 10) (fCons (fVar 11) (fCons (fVar 4) (fCons (fVar 3) (fNil))))))) (fNil)))) (gSeq (gSet 7 (fCallM 1 G__law_next (gNilF))) (gSeq (gSet 8 (fOp dIx (fLst (gConsF (fVar 4) (gConsF (fOp dPlus (fOp dMulA (fTup (gConsF (fTup (gConsF (fTup (gNilF)) (gConsF (fC (.int 0)) (gNilF)))) (gNilF))) (fOp dMod (fOp dDiv (fVar 7) (fC (.int 4))) (fC (.int 300)))) (fVar 4)) (gConsF (fOp dMulA (fVar 4) (fOp dPlus (fC (.int 1)) (fOp dMod (fOp dDiv (fVar 7) (fC (.int 4))) (fC (.int 9))))) (gConsF (fVar 4) (gNilF)))))) (fOp dMod (fVar 7) (fC (.int 4))))) (gSeq (gSet 9 (fCallB G_bound_shown (fCons (fVar 8) (fCons (fVar 3) (fNil))))) (gSeq (gIf (fOr (fNot (tru (fUn (dIsi "bool") (fVar 9)))) (fOr (toB (fOp dNe (fVar 9) (fVar 6))) (toB (fOp dNe (fCallB G_bound_shown (fCons (fVar 4) (fCons (fVar 3) (fNil)))) (fVar 6))))) (gRet (fC (.bool false))) (gNext)) (gSet 4 (fCallM 1 G__law_spoilt (gConsF (fVar 4) (gConsF (fVar 3) (gNilF)))))))))) [none, some (.own (dk ns at2)), x2, some (.imm (.int n)), some (.imm (.tuple (paper.map en))), some (.imm (.int t)), x6, x7, x8, x9, none, none])
      (fun f e => f = .nx ∧ LwI ns n b (t + 1) e) (fun _ _ => False) := by
  obtain ⟨paper2, at4, hp2, hat4, hsp⟩ := e_spoilt ns (n := n) (m := t) (at' := at2 + 1) (paper := paper) (by omega) (by omega) (by omega) hp
  have hJ : ∀ x2 x5 x6 x7 x8 x9, LwI ns n b (t + 1) [none, some (.own (dk ns at4)), x2, some (.imm (.int n)), some (.imm (.tuple (paper2.map en))), x5, x6, x7, x8, x9, none, none] := fun x2 x5 x6 x7 x8 x9 => ⟨_, _, _, _, _, _, _, _, rfl, by omega, hp2⟩
  obtain ⟨hpe, hpl⟩ := hp
  have hpn : ∀ q ∈ paper, inN n q.1 := fun q m => (hpe q m).1
  have hpq : ∀ q ∈ paper, q.1.length ≤ 1000 := fun q m => by have := (hpe q m).2; omega
  refine wp_seqN (fun e => e = [none, some (.own (dk ns at2)), x2, some (.imm (.int n)), some (.imm (.tuple (paper.map en))), some (.imm (.int t)), some (.imm (.bool (paper.all fun q => goodE n paper q.1 q.2))), x7, x8, x9, none, none]) ?_ ?_
  · have hlc := lc_eq (vs := [10, 11]) (fi := iSeq (fVar 4)) (tg := (tTupT (tsCons (tName 10) (tsCons (tName 11) (tsNil))))) (ft := fYes) (fe := (fCallB G__law_pair_good (fCons (fVar 10) (fCons (fVar 11) (fCons (fVar 4) (fCons (fVar 3) (fNil)))))))
      (e := [none, some (.own (dk ns at2)), x2, some (.imm (.int n)), some (.imm (.tuple (paper.map en))), some (.imm (.int t)), x6, x7, x8, x9, none, none]) (e1 := [none, some (.own (dk ns at2)), x2, some (.imm (.int n)), some (.imm (.tuple (paper.map en))), some (.imm (.int t)), x6, x7, x8, x9, none, none])
      en paper (fun _ => true) (fun q => .bool (goodE n paper q.1 q.2)) rfl rfl (by omega) rfl ?_
    · rw [filter_tt] at hlc
      have hall := d_allM paper fun q => goodE n paper q.1 q.2
      generalize (paper.all fun q => goodE n paper q.1 q.2) = due at *
      generalize List.map (fun q : Ent => PyData.bool (goodE n paper q.1 q.2)) paper = BL at *
      generalize paper.map en = P1 at *
      generalize dk ns at2 = D1 at *
      simp -implicitDefEqProofs [wp_seq, wp_bind, wp_ok, wp_ex, ob_ex, gSet, gNext, gDrop, gRet, gRetN, gIf, gBreak, gCont, gFor, gAsg, fVar, fC, fOp, fUn, fCl, fNil, fCons, fTup, fLst, gNilF, gConsF, dAll, Opd.d, Opd.fr, Val.d, putO, ob_ok, toB, tru, fNot, fAnd, fOr, fAndV, fOrV, isB, ofB, iSeq, iRange1, tName, tTupT, tsCons, tsNil, fYes, envP, envM, small, resO, own0, isOwn, noOwn, wipeB, backB, List.replicate, fMt, fCall, fCallB, fCallM, dTru, hlc, hall]
    · intro q hq
      refine ⟨_, rfl, rfl, rfl, fun _ => ⟨.val (.imm (.bool (goodE n paper q.1 q.2))), ?_, rfl⟩⟩
      have hg := e__law_pair_good (num := q.2) (.inl (rfl : PyData.tuple (paper.map en) = _)) (hpn q hq) (by omega : n ≤ 7) (hpq q hq) (by omega)
      show fCallB _ _ [none, some (.own (dk ns at2)), x2, some (.imm (.int n)), some (.imm (.tuple (paper.map en))), some (.imm (.int t)), x6, x7, x8, x9, some (.imm (.tuple (q.1.map en))), some (.imm (.int q.2))] = _
      simp -implicitDefEqProofs [wp_seq, wp_bind, wp_ok, wp_ex, ob_ex, gSet, gNext, gDrop, gRet, gRetN, gIf, gBreak, gCont, gFor, gAsg, fVar, fC, fOp, fUn, fCl, fNil, fCons, fTup, fLst, gNilF, gConsF, dAll, Opd.d, Opd.fr, Val.d, putO, ob_ok, toB, tru, fNot, fAnd, fOr, fAndV, fOrV, isB, ofB, iSeq, iRange1, tName, tTupT, tsCons, tsNil, fYes, envP, envM, small, resO, own0, isOwn, noOwn, wipeB, backB, List.replicate, fMt, fCall, fCallB, fCallM, dTru, hg, scalar]
      exact ⟨rfl, rfl⟩
  rintro _ rfl
  obtain ⟨c, hc⟩ := e_next ns (at' := at2) (by omega)
  have hnil : bnd n paper = (paper.all fun q => goodE n paper q.1 q.2) := bnd_eq hpn (fun q m => .inl m) (fun q m => m)
  have hbs := e_bound_shown (n := n) (paper := paper) (by omega) hpn (by omega) hpq
  rw [hnil] at hbs
  have dv4 : dDiv (.int c) (.int 4) = some (.imm (.int (c.fdiv 4))) := d_div (by decide) (by decide)
  have m300 : dMod (.int (c.fdiv 4)) (.int 300) = some (.imm (.int ((c.fdiv 4).fmod 300))) := d_mod (by decide)
  have m9 : dMod (.int (c.fdiv 4)) (.int 9) = some (.imm (.int ((c.fdiv 4).fmod 9))) := d_mod (by decide)
  have m4 : dMod (.int c) (.int 4) = some (.imm (.int (c.fmod 4))) := d_mod (by decide)
  have a0 := Int.fmod_nonneg_of_pos (c.fdiv 4) (b := 300) (by decide)
  have a1 := Int.fmod_lt_of_pos (c.fdiv 4) (b := 300) (by decide)
  have b0 := Int.fmod_nonneg_of_pos (c.fdiv 4) (b := 9) (by decide)
  have b1 := Int.fmod_lt_of_pos (c.fdiv 4) (b := 9) (by decide)
  have c0 := Int.fmod_nonneg_of_pos c (b := 4) (by decide)
  have c1 := Int.fmod_lt_of_pos c (b := 4) (by decide)
  generalize (c.fdiv 4).fmod 300 = u at *
  generalize (c.fdiv 4).fmod 9 = w at *
  generalize c.fmod 4 = c4 at *
  generalize c.fdiv 4 = cd at *
  have r1 : dMulA (.tuple [.tuple [.tuple [], .int 0]]) (.int u) = some (.imm (.tuple (((List.replicate u.toNat [(([], 0) : Ent)]).flatten).map en))) := d_rep (en : Ent → PyData) (l := [([], 0)]) (by omega) (by simp)
  have r2 : dMulA (.tuple (paper.map en)) (.int (1 + w)) = some (.imm (.tuple (((List.replicate (1 + w).toNat paper).flatten).map en))) := d_rep (en : Ent → PyData) (by omega) (by omega)
  have l1 := rep_len [(([], 0) : Ent)] u.toNat
  have l2 := rep_len paper (1 + w).toNat
  have l1' : ((List.replicate u.toNat [(([], 0) : Ent)]).flatten).length ≤ 300 := by rw [l1]; simp; omega
  have l2' : ((List.replicate (1 + w).toNat paper).flatten).length ≤ 9 * 300 := by rw [l2]; exact Nat.mul_le_mul (by omega) (by omega)
  have r3 := d_catT (α := Ent) (a := (List.replicate u.toNat [(([], 0) : Ent)]).flatten) (b := paper) (by omega)
  obtain ⟨lo, hlx, hlm, hlo⟩ := d_ixL (en : List Ent → PyData) (xs := [paper, (List.replicate u.toNat [(([], 0) : Ent)]).flatten ++ paper, (List.replicate (1 + w).toNat paper).flatten, paper]) (i := c4) ⟨c0, c1⟩
  have hlo : dIx (.list [.tuple (paper.map en), .tuple (((List.replicate u.toNat [(([], 0) : Ent)]).flatten ++ paper).map en), .tuple (((List.replicate (1 + w).toNat paper).flatten).map en), .tuple (paper.map en)]) (.int c4) = some (.imm (.tuple (lo.map en))) := hlo
  have hlong : (∀ q ∈ lo, q ∈ paper ∨ q = ([], 0)) ∧ (∀ q ∈ paper, q ∈ lo) ∧ lo.length ≤ 10000 := by
    simp only [List.mem_cons, List.not_mem_nil, or_false] at hlm
    rcases hlm with rfl | rfl | rfl | rfl
    · exact ⟨fun q m => .inl m, fun q m => m, by omega⟩
    · refine ⟨fun q m => ?_, fun q m => List.mem_append.mpr (.inr m), by rw [List.length_append]; omega⟩
      rcases List.mem_append.mp m with m | m
      · have := mem_rep m
        rw [List.mem_singleton] at this
        exact .inr this
      · exact .inl m
    · exact ⟨fun q m => .inl (mem_rep m), fun q m => mem_rep1 (by omega) m, by omega⟩
    · exact ⟨fun q m => .inl m, fun q m => m, by omega⟩
  have hbl := e_bound_shown (n := n) (paper := lo) (by omega) (fun q m => by
    rcases hlong.1 q m with m | rfl
    · exact hpn q m
    · exact inN_nil n) hlong.2.2 (fun q m => by
    rcases hlong.1 q m with m | rfl
    · exact hpq q m
    · simp)
  rw [bnd_eq hpn hlong.1 hlong.2.1] at hbl
  have hne := d_neB (paper.all fun q => goodE n paper q.1 q.2) (paper.all fun q => goodE n paper q.1 q.2)
  rw [decide_eq_true rfl] at hne
  have hisi := d_isiB (paper.all fun q => goodE n paper q.1 q.2)
  have pl := d_plusI (i := 1) (j := w)
  generalize (paper.all fun q => goodE n paper q.1 q.2) = due at *
  generalize ((List.replicate u.toNat [(([], 0) : Ent)]).flatten ++ paper).map en = L5 at *
  generalize ((List.replicate u.toNat [(([], 0) : Ent)]).flatten).map en = L4 at *
  generalize ((List.replicate (1 + w).toNat paper).flatten).map en = L3 at *
  generalize lo.map en = L1 at *
  generalize paper.map en = P1 at *
  generalize paper2.map en = P2 at *
  generalize dk ns at2 = D1 at *
  generalize dk ns (at2 + 1) = D2 at *
  generalize dk ns at4 = D4 at *
  refine wp_seqN (fun e => e = [none, some (.own D2), x2, some (.imm (.int n)), some (.imm (.tuple P1)), some (.imm (.int t)), some (.imm (.bool due)), some (.imm (.int c)), x8, x9, none, none]) ?_ ?_
  · simp -implicitDefEqProofs [wp_seq, wp_bind, wp_ok, wp_ex, ob_ex, gSet, gNext, gDrop, gRet, gRetN, gIf, gBreak, gCont, gFor, gAsg, fVar, fC, fOp, fUn, fCl, fNil, fCons, fTup, fLst, gNilF, gConsF, dAll, Opd.d, Opd.fr, Val.d, putO, ob_ok, toB, tru, fNot, fAnd, fOr, fAndV, fOrV, isB, ofB, iSeq, iRange1, tName, tTupT, tsCons, tsNil, fYes, envP, envM, small, resO, own0, isOwn, noOwn, wipeB, backB, List.replicate, fMt, fCall, fCallB, fCallM, dTru, hc]
  rintro _ rfl
  refine wp_seqN (fun e => e = [none, some (.own D2), x2, some (.imm (.int n)), some (.imm (.tuple P1)), some (.imm (.int t)), some (.imm (.bool due)), some (.imm (.int c)), some (.imm (.tuple L1)), x9, none, none]) ?_ ?_
  · simp -implicitDefEqProofs [wp_seq, wp_bind, wp_ok, wp_ex, ob_ex, gSet, gNext, gDrop, gRet, gRetN, gIf, gBreak, gCont, gFor, gAsg, fVar, fC, fOp, fUn, fCl, fNil, fCons, fTup, fLst, gNilF, gConsF, dAll, Opd.d, Opd.fr, Val.d, putO, ob_ok, toB, tru, fNot, fAnd, fOr, fAndV, fOrV, isB, ofB, iSeq, iRange1, tName, tTupT, tsCons, tsNil, fYes, envP, envM, small, resO, own0, isOwn, noOwn, wipeB, backB, List.replicate, fMt, fCall, fCallB, fCallM, dTru, dv4, m300, m9, m4, r1, r2, r3, pl, hlo]
  rintro _ rfl
  refine wp_seqN (fun e => e = [none, some (.own D2), x2, some (.imm (.int n)), some (.imm (.tuple P1)), some (.imm (.int t)), some (.imm (.bool due)), some (.imm (.int c)), some (.imm (.tuple L1)), some (.imm (.bool due)), none, none]) ?_ ?_
  · simp -implicitDefEqProofs [wp_seq, wp_bind, wp_ok, wp_ex, ob_ex, gSet, gNext, gDrop, gRet, gRetN, gIf, gBreak, gCont, gFor, gAsg, fVar, fC, fOp, fUn, fCl, fNil, fCons, fTup, fLst, gNilF, gConsF, dAll, Opd.d, Opd.fr, Val.d, putO, ob_ok, toB, tru, fNot, fAnd, fOr, fAndV, fOrV, isB, ofB, iSeq, iRange1, tName, tTupT, tsCons, tsNil, fYes, envP, envM, small, resO, own0, isOwn, noOwn, wipeB, backB, List.replicate, fMt, fCall, fCallB, fCallM, dTru, hbl, scalar]
  rintro _ rfl
  refine wp_seqN (fun e => e = [none, some (.own D2), x2, some (.imm (.int n)), some (.imm (.tuple P1)), some (.imm (.int t)), some (.imm (.bool due)), some (.imm (.int c)), some (.imm (.tuple L1)), some (.imm (.bool due)), none, none]) ?_ ?_
  · simp -implicitDefEqProofs [wp_seq, wp_bind, wp_ok, wp_ex, ob_ex, gSet, gNext, gDrop, gRet, gRetN, gIf, gBreak, gCont, gFor, gAsg, fVar, fC, fOp, fUn, fCl, fNil, fCons, fTup, fLst, gNilF, gConsF, dAll, Opd.d, Opd.fr, Val.d, putO, ob_ok, toB, tru, fNot, fAnd, fOr, fAndV, fOrV, isB, ofB, iSeq, iRange1, tName, tTupT, tsCons, tsNil, fYes, envP, envM, small, resO, own0, isOwn, noOwn, wipeB, backB, List.replicate, fMt, fCall, fCallB, fCallM, dTru, hisi, hne, hbs, scalar]
  rintro _ rfl
  simp -implicitDefEqProofs [wp_seq, wp_bind, wp_ok, wp_ex, ob_ex, gSet, gNext, gDrop, gRet, gRetN, gIf, gBreak, gCont, gFor, gAsg, fVar, fC, fOp, fUn, fCl, fNil, fCons, fTup, fLst, gNilF, gConsF, dAll, Opd.d, Opd.fr, Val.d, putO, ob_ok, toB, tru, fNot, fAnd, fOr, fAndV, fOrV, isB, ofB, iSeq, iRange1, tName, tTupT, tsCons, tsNil, fYes, envP, envM, small, resO, own0, isOwn, noOwn, wipeB, backB, List.replicate, fMt, fCall, fCallB, fCallM, dTru, hsp]
  exact hJ _ _ _ _ _ _
theorem law_true (ns : List Int) : ∃ e, g_law (envL 12 ns) = some (.ok (.rt (.val (.imm (.bool true)))) e) := by
  apply wp_rt
  unfold g_law
  have he : envL 12 ns = [none, some (.own (dk ns 0)), none, none, none, none, none, none, none, none, none, none] := rfl
  rw [he]
  refine wp_seqN (LwO ns 3) ?_ ?_
  · refine wp_forR (n := 3) (r := .val (.imm (.int 3))) (e1 := [none, some (.own (dk ns 0)), none, none, none, none, none, none, none, none, none, none]) rfl rfl (by decide) (LwO ns) ⟨_, _, _, _, _, _, _, _, _, rfl, by omega, by omega⟩ ?_ fun e h => ⟨rfl, h⟩
    rintro k hk _ ⟨at2, x2, x3, x4, x5, x6, x7, x8, x9, rfl, hat, _⟩
    refine ⟨_, rfl, ?_⟩
    obtain ⟨d1, hd1⟩ := e_next ns (at' := at2) (by omega)
    obtain ⟨d2, hd2⟩ := e_next ns (at' := at2 + 1) (by omega)
    obtain ⟨d3, hd3⟩ := e_next ns (at' := at2 + 1 + 1) (by omega)
    have q1 : dMod (.int d1) (.int 3) = some (.imm (.int (d1.fmod 3))) := d_mod (by decide)
    have q2 : dMod (.int d2) (.int 2) = some (.imm (.int (d2.fmod 2))) := d_mod (by decide)
    have q3 : dMod (.int d3) (.int 4) = some (.imm (.int (d3.fmod 4))) := d_mod (by decide)
    have a0 := Int.fmod_nonneg_of_pos d1 (b := 3) (by decide)
    have a1 := Int.fmod_lt_of_pos d1 (b := 3) (by decide)
    have b0 := Int.fmod_nonneg_of_pos d2 (b := 2) (by decide)
    have b1 := Int.fmod_lt_of_pos d2 (b := 2) (by decide)
    obtain ⟨y, _, hym, hy⟩ := d_ixL PyData.int (xs := [0, 4]) (i := d2.fmod 2) ⟨b0, b1⟩
    have hy : dIx (.list [.int 0, .int 4]) (.int (d2.fmod 2)) = some (.imm (.int y)) := hy
    have q4 := d_eqI (d3.fmod 4) 1
    have q5 := d_intB (decide (d3.fmod 4 = 1))
    have hidx : (0 : Int) ≤ (if decide (d3.fmod 4 = 1) = true then 1 else 0) ∧ (if decide (d3.fmod 4 = 1) = true then (1 : Int) else 0) < ([1 + d1.fmod 3, y] : List Int).length := by
      split
      · exact ⟨by decide, by simp⟩
      · exact ⟨by decide, by simp⟩
    obtain ⟨v, _, hvm, hv⟩ := d_ixL PyData.int (xs := [1 + d1.fmod 3, y]) hidx
    have hv : dIx (.list [.int (1 + d1.fmod 3), .int y]) (.int (if decide (d3.fmod 4 = 1) = true then 1 else 0)) = some (.imm (.int v)) := hv
    obtain ⟨n, hn4, rfl⟩ : ∃ n : Nat, n ≤ 4 ∧ v = (n : Int) := by
      simp only [List.mem_cons, List.not_mem_nil, or_false] at hym hvm
      refine ⟨v.toNat, ?_, ?_⟩
      · omega
      · omega
    have pl := d_plusI (i := 1) (j := d1.fmod 3)
    obtain ⟨paper, at4, pl4, ppe, hat4, hpa⟩ := e_paper ns (n := n) (at' := at2 + 1 + 1 + 1) (by omega) (by omega)
    have hps : PaS n 0 paper := ⟨fun q m => ⟨(ppe q m).1, (ppe q m).2⟩, pl4⟩
    show wp (gSeq _ _ [none, some (.own (dk ns at2)), some (.imm (.int k)), x3, x4, x5, x6, x7, x8, x9, none, none]) _ _
    refine wp_seqN (fun e => e = [none, some (.own (dk ns (at2 + 1 + 1 + 1))), some (.imm (.int k)), some (.imm (.int n)), x4, x5, x6, x7, x8, x9, none, none]) ?_ ?_
    · generalize dk ns at2 = D1 at *
      generalize dk ns (at2 + 1) = D2 at *
      generalize dk ns (at2 + 1 + 1) = D3 at *
      generalize dk ns (at2 + 1 + 1 + 1) = D4 at *
      generalize decide (d3.fmod 4 = 1) = tt at *
      generalize (if tt = true then (1 : Int) else 0) = ww at *
      generalize d3.fmod 4 = d3m at *
      generalize d2.fmod 2 = d2m at *
      generalize d1.fmod 3 = d1m at *
      simp -implicitDefEqProofs [wp_seq, wp_bind, wp_ok, wp_ex, ob_ex, gSet, gNext, gDrop, gRet, gRetN, gIf, gBreak, gCont, gFor, gAsg, fVar, fC, fOp, fUn, fCl, fNil, fCons, fTup, fLst, gNilF, gConsF, dAll, Opd.d, Opd.fr, Val.d, putO, ob_ok, toB, tru, fNot, fAnd, fOr, fAndV, fOrV, isB, ofB, iSeq, iRange1, tName, tTupT, tsCons, tsNil, fYes, envP, envM, small, resO, own0, isOwn, noOwn, wipeB, backB, List.replicate, fMt, fCall, fCallB, fCallM, dTru, hd1, q1, hd2, q2, hy, hd3, q3, q4, q5, pl, hv]
    rintro _ rfl
    refine wp_seqN (fun e => e = [none, some (.own (dk ns at4)), some (.imm (.int k)), some (.imm (.int n)), some (.imm (.tuple (paper.map en))), x5, x6, x7, x8, x9, none, none]) ?_ ?_
    · generalize dk ns (at2 + 1 + 1 + 1) = D1 at *
      generalize dk ns at4 = D2 at *
      generalize paper.map en = P1 at *
      simp -implicitDefEqProofs [wp_seq, wp_bind, wp_ok, wp_ex, ob_ex, gSet, gNext, gDrop, gRet, gRetN, gIf, gBreak, gCont, gFor, gAsg, fVar, fC, fOp, fUn, fCl, fNil, fCons, fTup, fLst, gNilF, gConsF, dAll, Opd.d, Opd.fr, Val.d, putO, ob_ok, toB, tru, fNot, fAnd, fOr, fAndV, fOrV, isB, ofB, iSeq, iRange1, tName, tTupT, tsCons, tsNil, fYes, envP, envM, small, resO, own0, isOwn, noOwn, wipeB, backB, List.replicate, fMt, fCall, fCallB, fCallM, dTru, hpa]
    rintro _ rfl
    refine wp_forR (n := 5) (r := .val (.imm (.int 5))) (e1 := [none, some (.own (dk ns at4)), some (.imm (.int k)), some (.imm (.int n)), some (.imm (.tuple (paper.map en))), x5, x6, x7, x8, x9, none, none]) rfl rfl (by decide) (LwI ns n at4) ⟨at4, paper, _, _, _, _, _, _, rfl, by omega, hps⟩ ?_ ?_
    · rintro t ht _ ⟨at5, paper5, z2, z5, z6, z7, z8, z9, rfl, hat5, hp5⟩
      refine ⟨_, rfl, ?_⟩
      refine wp_mono (law_turnB ns hn4 (by omega) ht hat5 hp5) (fun f e q => ?_) fun _ _ q => q.elim
      obtain ⟨rfl, q⟩ := q
      exact q
    · rintro _ ⟨at5, paper5, z2, z5, z6, z7, z8, z9, rfl, hat5, hp5⟩
      exact ⟨_, _, _, _, _, _, _, _, _, rfl, by omega, fun _ => ⟨n, hn4, rfl⟩⟩
  · rintro _ ⟨at2, x2, x3, x4, x5, x6, x7, x8, x9, rfl, hat, hx3⟩
    obtain ⟨n, hn4, rfl⟩ := hx3 (by decide)
    have hb := e_bound_shown (n := n) (paper := []) (by omega) (fun q m => by simp at m) (by decide) (fun q m => by simp at m)
    have hb : G_bound_shown [.tuple [], .int n] = some (.ok (.imm (.bool true))) := hb
    have hi : dIsB (.bool true) (.bool true) = some (.imm (.bool true)) := rfl
    generalize dk ns at2 = D1 at *
    simp -implicitDefEqProofs [wp_seq, wp_bind, wp_ok, wp_ex, ob_ex, gSet, gNext, gDrop, gRet, gRetN, gIf, gBreak, gCont, gFor, gAsg, fVar, fC, fOp, fUn, fCl, fNil, fCons, fTup, fLst, gNilF, gConsF, dAll, Opd.d, Opd.fr, Val.d, putO, ob_ok, toB, tru, fNot, fAnd, fOr, fAndV, fOrV, isB, ofB, iSeq, iRange1, tName, tTupT, tsCons, tsNil, fYes, envP, envM, small, resO, own0, isOwn, noOwn, wipeB, backB, List.replicate, fMt, fCall, fCallB, fCallM, dTru, hb, scalar, hi]
end BV

namespace BV
open PySem PySem.Spec L2
open PyProof.Rows hiding St
/-- an error of the class at S is what «except S» names -/
theorem exm_self {K : PySem.W.Frag} {S : Addr} (h1 : PySem.W.subIn K (.ref S) (.type "BaseException") = some true) (h2 : PySem.W.isClsIn K S = true) (h3 : PySem.W.typeIn K (.ref S) = some (.type "type")) (h4 : PySem.W.subIn K (.ref S) (.ref S) = some true) :
    PySem.W.exmOne K (.ref S) (.ref S) = some true := by
  have e1 : (PySem.W.subIn K (.ref S) (.type "BaseException") == some true) = true := by rw [h1] <;> rfl
  have e2 : ((PySem.W.clsIn K S).isSome && PySem.W.typeIn K (.ref S) == some (.type "type")) = true := by
    have h2' : (PySem.W.clsIn K S).isSome = true := h2
    rw [h2', h3] <;> rfl
  show (if (PySem.W.subIn K (.ref S) (.type "BaseException") == some true) = true then (if ((PySem.W.clsIn K S).isSome && PySem.W.typeIn K (.ref S) == some (.type "type")) = true then PySem.W.subIn K (.ref S) (.ref S) else none) else none) = some true
  rw [if_pos e1, if_pos e2]
  exact h4
theorem mt_Clash_ok {K : PySem.W.Frag} {C : Addr} (h1 : PySem.W.nsIn K mainGlobals "Clash" = some (some (.ref C))) (h2 : PySem.W.exmOne K (.ref C) (.ref C) = some true) : ∀ n a b, mt_Clash n = some b → PySem.W.nsIn K mainGlobals n = some (some a) → PySem.W.exmOne K a (.ref C) = some b := by
  intro n a b e h
  unfold mt_Clash at e
  split at e
  · rename_i hn
    cases e
    subst hn
    rw [h1] at h
    cases h
    exact h2
  · cases e
def facts_mk {K : Fg} {h : Heap} {mg : Str → Option Value} (X : K.In h) (G : h.Ns mainGlobals mg)
    {a_closed : Addr} {od_closed an_closed : Option Addr} {sl_closed : Array (Option Value)} {oc_closed kV_closed dc_closed pm_closed cd_closed ct_closed : Value}
    {a_with_more : Addr} {od_with_more an_with_more : Option Addr} {sl_with_more : Array (Option Value)} {oc_with_more kV_with_more dc_with_more pm_with_more cd_with_more ct_with_more : Value}
    {a_both_ways : Addr} {od_both_ways an_both_ways : Option Addr} {sl_both_ways : Array (Option Value)} {oc_both_ways kV_both_ways dc_both_ways pm_both_ways cd_both_ways ct_both_ways : Value}
    {a_not_parted : Addr} {od_not_parted an_not_parted : Option Addr} {sl_not_parted : Array (Option Value)} {oc_not_parted kV_not_parted dc_not_parted pm_not_parted cd_not_parted ct_not_parted : Value}
    {a_is_known : Addr} {od_is_known an_is_known : Option Addr} {sl_is_known : Array (Option Value)} {oc_is_known kV_is_known dc_is_known pm_is_known cd_is_known ct_is_known : Value}
    {a_has_more : Addr} {od_has_more an_has_more : Option Addr} {sl_has_more : Array (Option Value)} {oc_has_more kV_has_more dc_has_more pm_has_more cd_has_more ct_has_more : Value}
    {a_bound_shown : Addr} {od_bound_shown an_bound_shown : Option Addr} {sl_bound_shown : Array (Option Value)} {oc_bound_shown kV_bound_shown dc_bound_shown pm_bound_shown cd_bound_shown ct_bound_shown : Value}
    {a__law_next : Addr} {od__law_next an__law_next : Option Addr} {sl__law_next : Array (Option Value)} {oc__law_next kV__law_next dc__law_next pm__law_next cd__law_next ct__law_next : Value}
    {a__law_closed : Addr} {od__law_closed an__law_closed : Option Addr} {sl__law_closed : Array (Option Value)} {oc__law_closed kV__law_closed dc__law_closed pm__law_closed cd__law_closed ct__law_closed : Value}
    {a__law_good : Addr} {od__law_good an__law_good : Option Addr} {sl__law_good : Array (Option Value)} {oc__law_good kV__law_good dc__law_good pm__law_good cd__law_good ct__law_good : Value}
    {a__law_turn : Addr} {od__law_turn an__law_turn : Option Addr} {sl__law_turn : Array (Option Value)} {oc__law_turn kV__law_turn dc__law_turn pm__law_turn cd__law_turn ct__law_turn : Value}
    {a__law_known : Addr} {od__law_known an__law_known : Option Addr} {sl__law_known : Array (Option Value)} {oc__law_known kV__law_known dc__law_known pm__law_known cd__law_known ct__law_known : Value}
    {a__law_open : Addr} {od__law_open an__law_open : Option Addr} {sl__law_open : Array (Option Value)} {oc__law_open kV__law_open dc__law_open pm__law_open cd__law_open ct__law_open : Value}
    {a__law_within : Addr} {od__law_within an__law_within : Option Addr} {sl__law_within : Array (Option Value)} {oc__law_within kV__law_within dc__law_within pm__law_within cd__law_within ct__law_within : Value}
    {a__law_pair_good : Addr} {od__law_pair_good an__law_pair_good : Option Addr} {sl__law_pair_good : Array (Option Value)} {oc__law_pair_good kV__law_pair_good dc__law_pair_good pm__law_pair_good cd__law_pair_good ct__law_pair_good : Value}
    {a__law_paper : Addr} {od__law_paper an__law_paper : Option Addr} {sl__law_paper : Array (Option Value)} {oc__law_paper kV__law_paper dc__law_paper pm__law_paper cd__law_paper ct__law_paper : Value}
    {a__law_spoilt : Addr} {od__law_spoilt an__law_spoilt : Option Addr} {sl__law_spoilt : Array (Option Value)} {oc__law_spoilt kV__law_spoilt dc__law_spoilt pm__law_spoilt cd__law_spoilt ct__law_spoilt : Value}
    {a_law : Addr} {od_law an_law : Option Addr} {sl_law : Array (Option Value)} {oc_law kV_law dc_law pm_law cd_law ct_law : Value}
    {a_Clash : Addr}
    (h1_closed : PySem.W.nsIn K mainGlobals "closed" = some (some (.ref a_closed)))
    (h2_closed : K.lookup a_closed = some ⟨oc_closed, od_closed, .func (PySem.W.fnOf "closed" "closed" (defArgs s_closed) (defBody s_closed) (defScope s_closed) .none kV_closed dc_closed pm_closed an_closed cd_closed ct_closed), sl_closed⟩)
    (h3_closed : PySem.W.codeIn K cd_closed "closed" = true)
    (h4_closed : PySem.W.keepIn K (.ref a_closed) = true)
    (h1_with_more : PySem.W.nsIn K mainGlobals "with_more" = some (some (.ref a_with_more)))
    (h2_with_more : K.lookup a_with_more = some ⟨oc_with_more, od_with_more, .func (PySem.W.fnOf "with_more" "with_more" (defArgs s_with_more) (defBody s_with_more) (defScope s_with_more) .none kV_with_more dc_with_more pm_with_more an_with_more cd_with_more ct_with_more), sl_with_more⟩)
    (h3_with_more : PySem.W.codeIn K cd_with_more "with_more" = true)
    (h4_with_more : PySem.W.keepIn K (.ref a_with_more) = true)
    (h1_both_ways : PySem.W.nsIn K mainGlobals "both_ways" = some (some (.ref a_both_ways)))
    (h2_both_ways : K.lookup a_both_ways = some ⟨oc_both_ways, od_both_ways, .func (PySem.W.fnOf "both_ways" "both_ways" (defArgs s_both_ways) (defBody s_both_ways) (defScope s_both_ways) .none kV_both_ways dc_both_ways pm_both_ways an_both_ways cd_both_ways ct_both_ways), sl_both_ways⟩)
    (h3_both_ways : PySem.W.codeIn K cd_both_ways "both_ways" = true)
    (h4_both_ways : PySem.W.keepIn K (.ref a_both_ways) = true)
    (h1_not_parted : PySem.W.nsIn K mainGlobals "not_parted" = some (some (.ref a_not_parted)))
    (h2_not_parted : K.lookup a_not_parted = some ⟨oc_not_parted, od_not_parted, .func (PySem.W.fnOf "not_parted" "not_parted" (defArgs s_not_parted) (defBody s_not_parted) (defScope s_not_parted) .none kV_not_parted dc_not_parted pm_not_parted an_not_parted cd_not_parted ct_not_parted), sl_not_parted⟩)
    (h3_not_parted : PySem.W.codeIn K cd_not_parted "not_parted" = true)
    (h4_not_parted : PySem.W.keepIn K (.ref a_not_parted) = true)
    (h1_is_known : PySem.W.nsIn K mainGlobals "is_known" = some (some (.ref a_is_known)))
    (h2_is_known : K.lookup a_is_known = some ⟨oc_is_known, od_is_known, .func (PySem.W.fnOf "is_known" "is_known" (defArgs s_is_known) (defBody s_is_known) (defScope s_is_known) .none kV_is_known dc_is_known pm_is_known an_is_known cd_is_known ct_is_known), sl_is_known⟩)
    (h3_is_known : PySem.W.codeIn K cd_is_known "is_known" = true)
    (h4_is_known : PySem.W.keepIn K (.ref a_is_known) = true)
    (h1_has_more : PySem.W.nsIn K mainGlobals "has_more" = some (some (.ref a_has_more)))
    (h2_has_more : K.lookup a_has_more = some ⟨oc_has_more, od_has_more, .func (PySem.W.fnOf "has_more" "has_more" (defArgs s_has_more) (defBody s_has_more) (defScope s_has_more) .none kV_has_more dc_has_more pm_has_more an_has_more cd_has_more ct_has_more), sl_has_more⟩)
    (h3_has_more : PySem.W.codeIn K cd_has_more "has_more" = true)
    (h4_has_more : PySem.W.keepIn K (.ref a_has_more) = true)
    (h1_bound_shown : PySem.W.nsIn K mainGlobals "bound_shown" = some (some (.ref a_bound_shown)))
    (h2_bound_shown : K.lookup a_bound_shown = some ⟨oc_bound_shown, od_bound_shown, .func (PySem.W.fnOf "bound_shown" "bound_shown" (defArgs s_bound_shown) (defBody s_bound_shown) (defScope s_bound_shown) .none kV_bound_shown dc_bound_shown pm_bound_shown an_bound_shown cd_bound_shown ct_bound_shown), sl_bound_shown⟩)
    (h3_bound_shown : PySem.W.codeIn K cd_bound_shown "bound_shown" = true)
    (h4_bound_shown : PySem.W.keepIn K (.ref a_bound_shown) = true)
    (h1__law_next : PySem.W.nsIn K mainGlobals "_law_next" = some (some (.ref a__law_next)))
    (h2__law_next : K.lookup a__law_next = some ⟨oc__law_next, od__law_next, .func (PySem.W.fnOf "_law_next" "_law_next" (defArgs s__law_next) (defBody s__law_next) (defScope s__law_next) .none kV__law_next dc__law_next pm__law_next an__law_next cd__law_next ct__law_next), sl__law_next⟩)
    (h3__law_next : PySem.W.codeIn K cd__law_next "_law_next" = true)
    (h4__law_next : PySem.W.keepIn K (.ref a__law_next) = true)
    (h1__law_closed : PySem.W.nsIn K mainGlobals "_law_closed" = some (some (.ref a__law_closed)))
    (h2__law_closed : K.lookup a__law_closed = some ⟨oc__law_closed, od__law_closed, .func (PySem.W.fnOf "_law_closed" "_law_closed" (defArgs s__law_closed) (defBody s__law_closed) (defScope s__law_closed) .none kV__law_closed dc__law_closed pm__law_closed an__law_closed cd__law_closed ct__law_closed), sl__law_closed⟩)
    (h3__law_closed : PySem.W.codeIn K cd__law_closed "_law_closed" = true)
    (h4__law_closed : PySem.W.keepIn K (.ref a__law_closed) = true)
    (h1__law_good : PySem.W.nsIn K mainGlobals "_law_good" = some (some (.ref a__law_good)))
    (h2__law_good : K.lookup a__law_good = some ⟨oc__law_good, od__law_good, .func (PySem.W.fnOf "_law_good" "_law_good" (defArgs s__law_good) (defBody s__law_good) (defScope s__law_good) .none kV__law_good dc__law_good pm__law_good an__law_good cd__law_good ct__law_good), sl__law_good⟩)
    (h3__law_good : PySem.W.codeIn K cd__law_good "_law_good" = true)
    (h4__law_good : PySem.W.keepIn K (.ref a__law_good) = true)
    (h1__law_turn : PySem.W.nsIn K mainGlobals "_law_turn" = some (some (.ref a__law_turn)))
    (h2__law_turn : K.lookup a__law_turn = some ⟨oc__law_turn, od__law_turn, .func (PySem.W.fnOf "_law_turn" "_law_turn" (defArgs s__law_turn) (defBody s__law_turn) (defScope s__law_turn) .none kV__law_turn dc__law_turn pm__law_turn an__law_turn cd__law_turn ct__law_turn), sl__law_turn⟩)
    (h3__law_turn : PySem.W.codeIn K cd__law_turn "_law_turn" = true)
    (h4__law_turn : PySem.W.keepIn K (.ref a__law_turn) = true)
    (h1__law_known : PySem.W.nsIn K mainGlobals "_law_known" = some (some (.ref a__law_known)))
    (h2__law_known : K.lookup a__law_known = some ⟨oc__law_known, od__law_known, .func (PySem.W.fnOf "_law_known" "_law_known" (defArgs s__law_known) (defBody s__law_known) (defScope s__law_known) .none kV__law_known dc__law_known pm__law_known an__law_known cd__law_known ct__law_known), sl__law_known⟩)
    (h3__law_known : PySem.W.codeIn K cd__law_known "_law_known" = true)
    (h4__law_known : PySem.W.keepIn K (.ref a__law_known) = true)
    (h1__law_open : PySem.W.nsIn K mainGlobals "_law_open" = some (some (.ref a__law_open)))
    (h2__law_open : K.lookup a__law_open = some ⟨oc__law_open, od__law_open, .func (PySem.W.fnOf "_law_open" "_law_open" (defArgs s__law_open) (defBody s__law_open) (defScope s__law_open) .none kV__law_open dc__law_open pm__law_open an__law_open cd__law_open ct__law_open), sl__law_open⟩)
    (h3__law_open : PySem.W.codeIn K cd__law_open "_law_open" = true)
    (h4__law_open : PySem.W.keepIn K (.ref a__law_open) = true)
    (h1__law_within : PySem.W.nsIn K mainGlobals "_law_within" = some (some (.ref a__law_within)))
    (h2__law_within : K.lookup a__law_within = some ⟨oc__law_within, od__law_within, .func (PySem.W.fnOf "_law_within" "_law_within" (defArgs s__law_within) (defBody s__law_within) (defScope s__law_within) .none kV__law_within dc__law_within pm__law_within an__law_within cd__law_within ct__law_within), sl__law_within⟩)
    (h3__law_within : PySem.W.codeIn K cd__law_within "_law_within" = true)
    (h4__law_within : PySem.W.keepIn K (.ref a__law_within) = true)
    (h1__law_pair_good : PySem.W.nsIn K mainGlobals "_law_pair_good" = some (some (.ref a__law_pair_good)))
    (h2__law_pair_good : K.lookup a__law_pair_good = some ⟨oc__law_pair_good, od__law_pair_good, .func (PySem.W.fnOf "_law_pair_good" "_law_pair_good" (defArgs s__law_pair_good) (defBody s__law_pair_good) (defScope s__law_pair_good) .none kV__law_pair_good dc__law_pair_good pm__law_pair_good an__law_pair_good cd__law_pair_good ct__law_pair_good), sl__law_pair_good⟩)
    (h3__law_pair_good : PySem.W.codeIn K cd__law_pair_good "_law_pair_good" = true)
    (h4__law_pair_good : PySem.W.keepIn K (.ref a__law_pair_good) = true)
    (h1__law_paper : PySem.W.nsIn K mainGlobals "_law_paper" = some (some (.ref a__law_paper)))
    (h2__law_paper : K.lookup a__law_paper = some ⟨oc__law_paper, od__law_paper, .func (PySem.W.fnOf "_law_paper" "_law_paper" (defArgs s__law_paper) (defBody s__law_paper) (defScope s__law_paper) .none kV__law_paper dc__law_paper pm__law_paper an__law_paper cd__law_paper ct__law_paper), sl__law_paper⟩)
    (h3__law_paper : PySem.W.codeIn K cd__law_paper "_law_paper" = true)
    (h4__law_paper : PySem.W.keepIn K (.ref a__law_paper) = true)
    (h1__law_spoilt : PySem.W.nsIn K mainGlobals "_law_spoilt" = some (some (.ref a__law_spoilt)))
    (h2__law_spoilt : K.lookup a__law_spoilt = some ⟨oc__law_spoilt, od__law_spoilt, .func (PySem.W.fnOf "_law_spoilt" "_law_spoilt" (defArgs s__law_spoilt) (defBody s__law_spoilt) (defScope s__law_spoilt) .none kV__law_spoilt dc__law_spoilt pm__law_spoilt an__law_spoilt cd__law_spoilt ct__law_spoilt), sl__law_spoilt⟩)
    (h3__law_spoilt : PySem.W.codeIn K cd__law_spoilt "_law_spoilt" = true)
    (h4__law_spoilt : PySem.W.keepIn K (.ref a__law_spoilt) = true)
    (h1_law : PySem.W.nsIn K mainGlobals "law" = some (some (.ref a_law)))
    (h2_law : K.lookup a_law = some ⟨oc_law, od_law, .func (PySem.W.fnOf "law" "law" (defArgs s_law) (defBody s_law) (defScope s_law) .none kV_law dc_law pm_law an_law cd_law ct_law), sl_law⟩)
    (h3_law : PySem.W.codeIn K cd_law "law" = true)
    (h4_law : PySem.W.keepIn K (.ref a_law) = true)
    (z_all : PySem.W.nsIn K mainGlobals "all" = some none)
    (z_any : PySem.W.nsIn K mainGlobals "any" = some none)
    (z_bool : PySem.W.nsIn K mainGlobals "bool" = some none)
    (z_int : PySem.W.nsIn K mainGlobals "int" = some none)
    (z_isinstance : PySem.W.nsIn K mainGlobals "isinstance" = some none)
    (z_len : PySem.W.nsIn K mainGlobals "len" = some none)
    (z_list : PySem.W.nsIn K mainGlobals "list" = some none)
    (z_max : PySem.W.nsIn K mainGlobals "max" = some none)
    (z_range : PySem.W.nsIn K mainGlobals "range" = some none)
    (z_set : PySem.W.nsIn K mainGlobals "set" = some none)
    (z_sorted : PySem.W.nsIn K mainGlobals "sorted" = some none)
    (z_tuple : PySem.W.nsIn K mainGlobals "tuple" = some none)
    (e1_Clash : PySem.W.nsIn K mainGlobals "Clash" = some (some (.ref a_Clash)))
    (e2_Clash : PySem.W.excIn K a_Clash [.type "ValueError", .type "Exception", .type "BaseException", .type "object"] "ValueError.__new__" = true)
    (e3_Clash : PySem.W.keepIn K (.ref a_Clash) = true)
    (e4_Clash : PySem.W.subIn K (.ref a_Clash) (.type "BaseException") = some true)
    (e5_Clash : PySem.W.typeIn K (.ref a_Clash) = some (.type "type"))
    (e6_Clash : PySem.W.isClsIn K a_Clash = true)
    (e7_Clash : PySem.W.subIn K (.ref a_Clash) (.ref a_Clash) = some true)
    : Facts K mg := {
      a_closed := a_closed, d_closed := _, f_closed := fun_mk (st := s_closed) h2_closed h3_closed h4_closed, g_closed := PySem.W.mg_of X G h1_closed,
      b_closed := (fun_mk (st := s_closed) h2_closed h3_closed h4_closed).binds (ps := ["pairs", "many"]) fun _ _ _ _ _ _ us hl => match us, hl with | [_, _], _ => rfl,
      a_with_more := a_with_more, d_with_more := _, f_with_more := fun_mk (st := s_with_more) h2_with_more h3_with_more h4_with_more, g_with_more := PySem.W.mg_of X G h1_with_more,
      b_with_more := (fun_mk (st := s_with_more) h2_with_more h3_with_more h4_with_more).binds (ps := ["known", "i", "j"]) fun _ _ _ _ _ _ us hl => match us, hl with | [_, _, _], _ => rfl,
      a_both_ways := a_both_ways, d_both_ways := _, f_both_ways := fun_mk (st := s_both_ways) h2_both_ways h3_both_ways h4_both_ways, g_both_ways := PySem.W.mg_of X G h1_both_ways,
      b_both_ways := (fun_mk (st := s_both_ways) h2_both_ways h3_both_ways h4_both_ways).binds (ps := ["known", "i", "j"]) fun _ _ _ _ _ _ us hl => match us, hl with | [_, _, _], _ => rfl,
      a_not_parted := a_not_parted, d_not_parted := _, f_not_parted := fun_mk (st := s_not_parted) h2_not_parted h3_not_parted h4_not_parted, g_not_parted := PySem.W.mg_of X G h1_not_parted,
      b_not_parted := (fun_mk (st := s_not_parted) h2_not_parted h3_not_parted h4_not_parted).binds (ps := ["known", "many"]) fun _ _ _ _ _ _ us hl => match us, hl with | [_, _], _ => rfl,
      a_is_known := a_is_known, d_is_known := _, f_is_known := fun_mk (st := s_is_known) h2_is_known h3_is_known h4_is_known, g_is_known := PySem.W.mg_of X G h1_is_known,
      b_is_known := (fun_mk (st := s_is_known) h2_is_known h3_is_known h4_is_known).binds (ps := ["known", "many"]) fun _ _ _ _ _ _ us hl => match us, hl with | [_, _], _ => rfl,
      a_has_more := a_has_more, d_has_more := _, f_has_more := fun_mk (st := s_has_more) h2_has_more h3_has_more h4_has_more, g_has_more := PySem.W.mg_of X G h1_has_more,
      b_has_more := (fun_mk (st := s_has_more) h2_has_more h3_has_more h4_has_more).binds (ps := ["paper", "known", "number"]) fun _ _ _ _ _ _ us hl => match us, hl with | [_, _, _], _ => rfl,
      a_bound_shown := a_bound_shown, d_bound_shown := _, f_bound_shown := fun_mk (st := s_bound_shown) h2_bound_shown h3_bound_shown h4_bound_shown, g_bound_shown := PySem.W.mg_of X G h1_bound_shown,
      b_bound_shown := (fun_mk (st := s_bound_shown) h2_bound_shown h3_bound_shown h4_bound_shown).binds (ps := ["paper", "many"]) fun _ _ _ _ _ _ us hl => match us, hl with | [_, _], _ => rfl,
      a__law_next := a__law_next, d__law_next := _, f__law_next := fun_mk (st := s__law_next) h2__law_next h3__law_next h4__law_next, g__law_next := PySem.W.mg_of X G h1__law_next,
      b__law_next := (fun_mk (st := s__law_next) h2__law_next h3__law_next h4__law_next).binds (ps := ["deck"]) fun _ _ _ _ _ _ us hl => match us, hl with | [_], _ => rfl,
      a__law_closed := a__law_closed, d__law_closed := _, f__law_closed := fun_mk (st := s__law_closed) h2__law_closed h3__law_closed h4__law_closed, g__law_closed := PySem.W.mg_of X G h1__law_closed,
      b__law_closed := (fun_mk (st := s__law_closed) h2__law_closed h3__law_closed h4__law_closed).binds (ps := ["pairs"]) fun _ _ _ _ _ _ us hl => match us, hl with | [_], _ => rfl,
      a__law_good := a__law_good, d__law_good := _, f__law_good := fun_mk (st := s__law_good) h2__law_good h3__law_good h4__law_good, g__law_good := PySem.W.mg_of X G h1__law_good,
      b__law_good := (fun_mk (st := s__law_good) h2__law_good h3__law_good h4__law_good).binds (ps := ["known"]) fun _ _ _ _ _ _ us hl => match us, hl with | [_], _ => rfl,
      a__law_turn := a__law_turn, d__law_turn := _, f__law_turn := fun_mk (st := s__law_turn) h2__law_turn h3__law_turn h4__law_turn, g__law_turn := PySem.W.mg_of X G h1__law_turn,
      b__law_turn := (fun_mk (st := s__law_turn) h2__law_turn h3__law_turn h4__law_turn).binds (ps := ["deck", "many"]) fun _ _ _ _ _ _ us hl => match us, hl with | [_, _], _ => rfl,
      a__law_known := a__law_known, d__law_known := _, f__law_known := fun_mk (st := s__law_known) h2__law_known h3__law_known h4__law_known, g__law_known := PySem.W.mg_of X G h1__law_known,
      b__law_known := (fun_mk (st := s__law_known) h2__law_known h3__law_known h4__law_known).binds (ps := ["deck", "many"]) fun _ _ _ _ _ _ us hl => match us, hl with | [_, _], _ => rfl,
      a__law_open := a__law_open, d__law_open := _, f__law_open := fun_mk (st := s__law_open) h2__law_open h3__law_open h4__law_open, g__law_open := PySem.W.mg_of X G h1__law_open,
      b__law_open := (fun_mk (st := s__law_open) h2__law_open h3__law_open h4__law_open).binds (ps := ["known", "many"]) fun _ _ _ _ _ _ us hl => match us, hl with | [_, _], _ => rfl,
      a__law_within := a__law_within, d__law_within := _, f__law_within := fun_mk (st := s__law_within) h2__law_within h3__law_within h4__law_within, g__law_within := PySem.W.mg_of X G h1__law_within,
      b__law_within := (fun_mk (st := s__law_within) h2__law_within h3__law_within h4__law_within).binds (ps := ["one", "some"]) fun _ _ _ _ _ _ us hl => match us, hl with | [_, _], _ => rfl,
      a__law_pair_good := a__law_pair_good, d__law_pair_good := _, f__law_pair_good := fun_mk (st := s__law_pair_good) h2__law_pair_good h3__law_pair_good h4__law_pair_good, g__law_pair_good := PySem.W.mg_of X G h1__law_pair_good,
      b__law_pair_good := (fun_mk (st := s__law_pair_good) h2__law_pair_good h3__law_pair_good h4__law_pair_good).binds (ps := ["known", "number", "paper", "many"]) fun _ _ _ _ _ _ us hl => match us, hl with | [_, _, _, _], _ => rfl,
      a__law_paper := a__law_paper, d__law_paper := _, f__law_paper := fun_mk (st := s__law_paper) h2__law_paper h3__law_paper h4__law_paper, g__law_paper := PySem.W.mg_of X G h1__law_paper,
      b__law_paper := (fun_mk (st := s__law_paper) h2__law_paper h3__law_paper h4__law_paper).binds (ps := ["deck", "many"]) fun _ _ _ _ _ _ us hl => match us, hl with | [_, _], _ => rfl,
      a__law_spoilt := a__law_spoilt, d__law_spoilt := _, f__law_spoilt := fun_mk (st := s__law_spoilt) h2__law_spoilt h3__law_spoilt h4__law_spoilt, g__law_spoilt := PySem.W.mg_of X G h1__law_spoilt,
      b__law_spoilt := (fun_mk (st := s__law_spoilt) h2__law_spoilt h3__law_spoilt h4__law_spoilt).binds (ps := ["deck", "paper", "many"]) fun _ _ _ _ _ _ us hl => match us, hl with | [_, _, _], _ => rfl,
      a_law := a_law, d_law := _, f_law := fun_mk (st := s_law) h2_law h3_law h4_law, g_law := PySem.W.mg_of X G h1_law,
      b_law := (fun_mk (st := s_law) h2_law h3_law h4_law).binds (ps := ["script"]) fun _ _ _ _ _ _ us hl => match us, hl with | [_], _ => rfl,
      m_all := PySem.W.mg_none_of X G z_all,
      m_any := PySem.W.mg_none_of X G z_any,
      m_bool := PySem.W.mg_none_of X G z_bool,
      m_int := PySem.W.mg_none_of X G z_int,
      m_isinstance := PySem.W.mg_none_of X G z_isinstance,
      m_len := PySem.W.mg_none_of X G z_len,
      m_list := PySem.W.mg_none_of X G z_list,
      m_max := PySem.W.mg_none_of X G z_max,
      m_range := PySem.W.mg_none_of X G z_range,
      m_set := PySem.W.mg_none_of X G z_set,
      m_sorted := PySem.W.mg_none_of X G z_sorted,
      m_tuple := PySem.W.mg_none_of X G z_tuple,
      a_Clash := a_Clash, c_Clash := PySem.W.mg_of X G e1_Clash, n_Clash := e1_Clash, x_Clash := e2_Clash, k_Clash := e3_Clash, eb_Clash := e4_Clash, et_Clash := e5_Clash,
      mt_Clash := mt_Clash_ok e1_Clash (exm_self e4_Clash e6_Clash e5_Clash e7_Clash) }
theorem all_mk {l : PySem.W.OpenLaw} {w : World} {K : Fg} {mg : Str → Option Value} {fa : Addr} (hfa : mg "law" = some (.ref fa)) (T : Facts K mg) :
    ∃ fd : FuncData, (∀ (s : Shared) (v : Value), BindsTo s fd ⟨[v], []⟩ [("script", v)]) ∧ ∀ base : Heap, K.In base → base.Ns mainGlobals mg → FnOk l.prog w K mg base (L2.CX l.prog w) 5 fa fd ["script"] (spL K) := by
  have e := hfa.symm.trans T.g_law
  have e2 : fa = T.a_law := by
    injection e with e
    injection e
  subst e2
  obtain ⟨oc, od, kV, doc, pm, an, cdv, ct, osl, hfd, _⟩ := T.f_law.ex
  exact ⟨T.d_law, fun s v => by rw [hfd]; exact .of_eq rfl, fun base _ _ => ok_law T fun ns _ => law_true ns⟩
theorem walk {l : PySem.W.OpenLaw} {q : Program} {loose : List Str} {XP : (Str → Option Value) → Heap → Prop} {YP : World → Heap → Prop} {d : DefRec} {K : Params → PySem.W.Frag} (hn : l.most = some 63) (hdf : d.params.defaults = [])
    (hY : ∀ (w : World) (h : Heap), YP w h → (K w.params).In h)
    (F : ∀ (w : World) (mg : Str → Option Value) (fa : Addr) (h : Heap), (K w.params).In h → h.Ns mainGlobals mg → mg d.name = some (.ref fa) →
      ∃ fd : FuncData, (∀ (s : Shared) (u : Value), BindsTo s fd ⟨[u], []⟩ [("script", u)]) ∧ ∀ base : Heap, (K w.params).In base → base.Ns mainGlobals mg → FnOk l.prog w (K w.params) mg base (L2.CX l.prog w) 5 fa fd ["script"] (spL (K w.params))) :
    PySem.W.WalkO q loose XP YP l.row.toRowW d [] (fun f vs => PySem.call f vs) :=
  L2.walk_of (n := 63) (k := 5) (x := "script") (CX := fun w => L2.CX l.prog w) (sp := fun w => spL (K w.params)) hn (by decide) hdf ⟨rfl, by decide, by decide⟩ hY F (fun _ _ a ns hl _ hS => ⟨a, ns, rfl, hS, hl, fun _ => rfl⟩) fun w H s e s' z => by
    obtain ⟨_, _, _, _, _, _, _, _, _, _, _, _, z⟩ := z
    exact z
end BV
open PySem PySem.W PyProof.Rows
set_option maxRecDepth 100000 in
set_option maxHeartbeats 0 in
theorem PySem.Challenge.cw_ordertext_k38_bound_shown_holds : PySem.Challenge.rw_ordertext_k38_bound_shown.Holds := by
  w_on; o_law; k_head; (case hw => w_witness2)
  k_fill
  refine BV.walk (l := PySem.Challenge.rw_ordertext_k38_bound_shown) rfl rfl (fun w h Y => PySem.W.kIn_of Y) ?F
  case F =>
    intro w mg fa h KX G hmg
    refine' BV.all_mk hmg (BV.facts_mk KX G ?h1_closed ?h2_closed ?h3_closed ?h4_closed ?h1_with_more ?h2_with_more ?h3_with_more ?h4_with_more ?h1_both_ways ?h2_both_ways ?h3_both_ways ?h4_both_ways ?h1_not_parted ?h2_not_parted ?h3_not_parted ?h4_not_parted ?h1_is_known ?h2_is_known ?h3_is_known ?h4_is_known ?h1_has_more ?h2_has_more ?h3_has_more ?h4_has_more ?h1_bound_shown ?h2_bound_shown ?h3_bound_shown ?h4_bound_shown ?h1__law_next ?h2__law_next ?h3__law_next ?h4__law_next ?h1__law_closed ?h2__law_closed ?h3__law_closed ?h4__law_closed ?h1__law_good ?h2__law_good ?h3__law_good ?h4__law_good ?h1__law_turn ?h2__law_turn ?h3__law_turn ?h4__law_turn ?h1__law_known ?h2__law_known ?h3__law_known ?h4__law_known ?h1__law_open ?h2__law_open ?h3__law_open ?h4__law_open ?h1__law_within ?h2__law_within ?h3__law_within ?h4__law_within ?h1__law_pair_good ?h2__law_pair_good ?h3__law_pair_good ?h4__law_pair_good ?h1__law_paper ?h2__law_paper ?h3__law_paper ?h4__law_paper ?h1__law_spoilt ?h2__law_spoilt ?h3__law_spoilt ?h4__law_spoilt ?h1_law ?h2_law ?h3_law ?h4_law ?z_all ?z_any ?z_bool ?z_int ?z_isinstance ?z_len ?z_list ?z_max ?z_range ?z_set ?z_sorted ?z_tuple ?e1_Clash ?e2_Clash ?e3_Clash ?e4_Clash ?e5_Clash ?e6_Clash ?e7_Clash)
    (case h1_closed => first | k_is | k_exc | rfl)
    (case h2_closed => first | k_is | k_exc | rfl)
    (case h3_closed => first | k_is | k_exc | rfl)
    (case h4_closed => first | k_is | k_exc | rfl)
    (case h1_with_more => first | k_is | k_exc | rfl)
    (case h2_with_more => first | k_is | k_exc | rfl)
    (case h3_with_more => first | k_is | k_exc | rfl)
    (case h4_with_more => first | k_is | k_exc | rfl)
    (case h1_both_ways => first | k_is | k_exc | rfl)
    (case h2_both_ways => first | k_is | k_exc | rfl)
    (case h3_both_ways => first | k_is | k_exc | rfl)
    (case h4_both_ways => first | k_is | k_exc | rfl)
    (case h1_not_parted => first | k_is | k_exc | rfl)
    (case h2_not_parted => first | k_is | k_exc | rfl)
    (case h3_not_parted => first | k_is | k_exc | rfl)
    (case h4_not_parted => first | k_is | k_exc | rfl)
    (case h1_is_known => first | k_is | k_exc | rfl)
    (case h2_is_known => first | k_is | k_exc | rfl)
    (case h3_is_known => first | k_is | k_exc | rfl)
    (case h4_is_known => first | k_is | k_exc | rfl)
    (case h1_has_more => first | k_is | k_exc | rfl)
    (case h2_has_more => first | k_is | k_exc | rfl)
    (case h3_has_more => first | k_is | k_exc | rfl)
    (case h4_has_more => first | k_is | k_exc | rfl)
    (case h1_bound_shown => first | k_is | k_exc | rfl)
    (case h2_bound_shown => first | k_is | k_exc | rfl)
    (case h3_bound_shown => first | k_is | k_exc | rfl)
    (case h4_bound_shown => first | k_is | k_exc | rfl)
    (case h1__law_next => first | k_is | k_exc | rfl)
    (case h2__law_next => first | k_is | k_exc | rfl)
    (case h3__law_next => first | k_is | k_exc | rfl)
    (case h4__law_next => first | k_is | k_exc | rfl)
    (case h1__law_closed => first | k_is | k_exc | rfl)
    (case h2__law_closed => first | k_is | k_exc | rfl)
    (case h3__law_closed => first | k_is | k_exc | rfl)
    (case h4__law_closed => first | k_is | k_exc | rfl)
    (case h1__law_good => first | k_is | k_exc | rfl)
    (case h2__law_good => first | k_is | k_exc | rfl)
    (case h3__law_good => first | k_is | k_exc | rfl)
    (case h4__law_good => first | k_is | k_exc | rfl)
    (case h1__law_turn => first | k_is | k_exc | rfl)
    (case h2__law_turn => first | k_is | k_exc | rfl)
    (case h3__law_turn => first | k_is | k_exc | rfl)
    (case h4__law_turn => first | k_is | k_exc | rfl)
    (case h1__law_known => first | k_is | k_exc | rfl)
    (case h2__law_known => first | k_is | k_exc | rfl)
    (case h3__law_known => first | k_is | k_exc | rfl)
    (case h4__law_known => first | k_is | k_exc | rfl)
    (case h1__law_open => first | k_is | k_exc | rfl)
    (case h2__law_open => first | k_is | k_exc | rfl)
    (case h3__law_open => first | k_is | k_exc | rfl)
    (case h4__law_open => first | k_is | k_exc | rfl)
    (case h1__law_within => first | k_is | k_exc | rfl)
    (case h2__law_within => first | k_is | k_exc | rfl)
    (case h3__law_within => first | k_is | k_exc | rfl)
    (case h4__law_within => first | k_is | k_exc | rfl)
    (case h1__law_pair_good => first | k_is | k_exc | rfl)
    (case h2__law_pair_good => first | k_is | k_exc | rfl)
    (case h3__law_pair_good => first | k_is | k_exc | rfl)
    (case h4__law_pair_good => first | k_is | k_exc | rfl)
    (case h1__law_paper => first | k_is | k_exc | rfl)
    (case h2__law_paper => first | k_is | k_exc | rfl)
    (case h3__law_paper => first | k_is | k_exc | rfl)
    (case h4__law_paper => first | k_is | k_exc | rfl)
    (case h1__law_spoilt => first | k_is | k_exc | rfl)
    (case h2__law_spoilt => first | k_is | k_exc | rfl)
    (case h3__law_spoilt => first | k_is | k_exc | rfl)
    (case h4__law_spoilt => first | k_is | k_exc | rfl)
    (case h1_law => first | k_is | k_exc | rfl)
    (case h2_law => first | k_is | k_exc | rfl)
    (case h3_law => first | k_is | k_exc | rfl)
    (case h4_law => first | k_is | k_exc | rfl)
    (case z_all => first | k_is | k_exc | rfl)
    (case z_any => first | k_is | k_exc | rfl)
    (case z_bool => first | k_is | k_exc | rfl)
    (case z_int => first | k_is | k_exc | rfl)
    (case z_isinstance => first | k_is | k_exc | rfl)
    (case z_len => first | k_is | k_exc | rfl)
    (case z_list => first | k_is | k_exc | rfl)
    (case z_max => first | k_is | k_exc | rfl)
    (case z_range => first | k_is | k_exc | rfl)
    (case z_set => first | k_is | k_exc | rfl)
    (case z_sorted => first | k_is | k_exc | rfl)
    (case z_tuple => first | k_is | k_exc | rfl)
    (case e1_Clash => first | k_is | k_exc | rfl)
    (case e2_Clash => first | k_is | k_exc | rfl)
    (case e3_Clash => first | k_is | k_exc | rfl)
    (case e4_Clash => first | k_is | k_exc | rfl)
    (case e5_Clash => first | k_is | k_exc | rfl)
    (case e6_Clash => first | k_is | k_exc | rfl)
    (case e7_Clash => first | k_is | k_exc | rfl)

