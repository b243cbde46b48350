import PyProof.Rows.All
import Wide.All
import OpenK.AllK
import Wide.FinOn
import HandS.ForMost
import HandS.TupAny
import HandS.TupMul
import HandS.Flow
import HandS.Star
import HandS.Conv
import HandS.Deep
import HandS.IsInst
import HandS.More
import HandS.Walk
import HandS.Strs
import HandS.SetFor
import HandS.SortInts
import HandS.SortRule
import KE.GoesEnum
import HandS.Dict
import HandS.DictComp
import KE.KTupSum
import HandS.Style
import HandS.CallLocal
import KE.KStateDown
import HandS.Defaults
import HandS.Head0
import HandS.Head1
import HandS.Head2
import HandS.HeadEnd
import HandS.HeadHook1
import HandS.HeadHook2
import PySem.Challenge.RW_maypole_k95_whole_who_leaves_seen_from_a
set_option Elab.async false
section
set_option Elab.async false
set_option linter.all false
set_option maxRecDepth 100000
set_option maxHeartbeats 4000000
/-! Mp1: data on the heap, states told by data, what it means that code runs there. -/
namespace Mp
open PySem PySem.Spec PyProof.Rows L2

/-- a value as data: a flat one, a list, a tuple, a dict with tuple keys and flat values -/
inductive D where
  | v (x : V)
  | lst (xs : List D)
  | tup (xs : List D)
  | dT (kvs : List (List Key × V))
abbrev D.int (i : Int) : D := .v (.int i)
abbrev D.bl (b : Bool) : D := .v (.bl b)
abbrev D.non : D := .v .non
abbrev D.str (s : Str) : D := .v (.str s)

def flat : V → Bool
  | .non => true | .bl _ => true | .int _ => true | .str _ => true | .ref _ => true | _ => false
/-- flat, and no reference -/
def flat0 : V → Bool
  | .non => true | .bl _ => true | .int _ => true | .str _ => true | _ => false

mutual
inductive Rp (K : PySem.W.Frag) (G : Hp) : V → D → Prop
  | v {x : V} : flat x = true → Rp K G x (.v x)
  | lst {a : Addr} {xs : List V} {ds : List D} : G a = some (.lst xs) → RpA K G xs ds → Rp K G (.ref a) (.lst ds)
  | tup {a : Addr} {xs : List V} {ds : List D} : G a = some (.tup xs) → RpA K G xs ds → Rp K G (.ref a) (.tup ds)
  | dT {a : Addr} {kvs : List (List Key × V)} : Rd G a (.dT kvs) → Rp K G (.ref a) (.dT kvs)
inductive RpA (K : PySem.W.Frag) (G : Hp) : List V → List D → Prop
  | nil : RpA K G [] []
  | cons {v : V} {vs : List V} {d : D} {ds : List D} : Rp K G v d → RpA K G vs ds → RpA K G (v :: vs) (d :: ds)
end

abbrev Ex (H H' : Hp) : Prop := Same H H'
theorem Ex.new {H : Hp} {p : Addr} {o : HO} (h : H p = none) : Ex H (upd H p o) := fun a u e => by
  rw [upd_ne (ne_of_none e h)]
  exact e
theorem ex_rd {H H' : Hp} {a : Addr} {u : HO} (e : Ex H H') (h : Rd H a u) : Rd H' a u := by
  rcases h with h | ⟨o, h⟩
  · exact Or.inl (e a _ h)
  · exact Or.inr ⟨o, e a _ h⟩
theorem ex_l {K : PySem.W.Frag} {H H' : Hp} {a : Addr} {xs : List V} (e : Ex H H') (h : SqL K H a xs) : SqL K H' a xs := by
  rcases h with h | h
  · exact Or.inl (ex_rd e h)
  · exact Or.inr h
theorem ex_e {H H' : Hp} {a : Addr} {xs : List V} (e : Ex H H') (h : H a = some (.tup xs)) : H' a = some (.tup xs) := e _ _ h
theorem ex_t {K : PySem.W.Frag} {H H' : Hp} {a : Addr} {xs : List V} (e : Ex H H') (h : H a = some (.tup xs)) : SqT K H' a xs := .inl (.inl (e _ _ h))
theorem fresh_back {H H' : Hp} {p : Addr} (e : Ex H H') (h : H' p = none) : H p = none := by
  cases h1 : H p with
  | none => rfl
  | some o => rw [e p o h1] at h; cases h

section
variable {K : PySem.W.Frag} {G G' : Hp}
mutual
theorem Rp.mono (e : Ex G G') : ∀ {v : V} {d : D}, Rp K G v d → Rp K G' v d
  | _, _, .v h => .v h
  | _, _, .lst h r => .lst (e _ _ h) (RpA.mono e r)
  | _, _, .tup h r => .tup (ex_e e h) (RpA.mono e r)
  | _, _, .dT h => .dT (ex_rd e h)
theorem RpA.mono (e : Ex G G') : ∀ {vs : List V} {ds : List D}, RpA K G vs ds → RpA K G' vs ds
  | _, _, .nil => .nil
  | _, _, .cons h r => .cons (Rp.mono e h) (RpA.mono e r)
end
theorem RpA.length {vs : List V} {ds : List D} (h : RpA K G vs ds) : vs.length = ds.length := by
  induction ds generalizing vs with
  | nil => cases h; rfl
  | cons d ds ih => cases h with | cons _ r => simp [ih r]
theorem RpA.get {vs : List V} {ds : List D} (h : RpA K G vs ds) {i : Nat} {d : D} (e : ds[i]? = some d) : ∃ v, vs[i]? = some v ∧ Rp K G v d := by
  induction ds generalizing vs i with
  | nil => simp at e
  | cons x ds ih =>
    cases h with
    | cons h1 r =>
      cases i with
      | zero => simp at e; subst e; exact ⟨_, rfl, h1⟩
      | succ i => exact ih r (by simpa using e)
theorem RpA.getV {vs : List V} {ds : List D} (h : RpA K G vs ds) {i : Nat} {v : V} (e : vs[i]? = some v) : ∃ d, ds[i]? = some d ∧ Rp K G v d := by
  induction ds generalizing vs i with
  | nil => cases h; simp at e
  | cons x ds ih =>
    cases h with
    | cons h1 r =>
      cases i with
      | zero => simp at e; subst e; exact ⟨_, rfl, h1⟩
      | succ i => exact ih r (by simpa using e)
theorem RpA.app {vs ws : List V} {ds es : List D} (h : RpA K G vs ds) (h' : RpA K G ws es) : RpA K G (vs ++ ws) (ds ++ es) := by
  induction ds generalizing vs with
  | nil => cases h; exact h'
  | cons x ds ih => cases h with | cons h1 r => exact .cons h1 (ih r)
theorem RpA.one {v : V} {d : D} (h : Rp K G v d) : RpA K G [v] [d] := .cons h .nil
theorem RpA.take {vs : List V} {ds : List D} (h : RpA K G vs ds) (n : Nat) : RpA K G (vs.take n) (ds.take n) := by
  induction ds generalizing vs n with
  | nil => cases h; simp; exact .nil
  | cons x ds ih =>
    cases h with
    | cons h1 r => cases n with
      | zero => exact .nil
      | succ n => exact .cons h1 (ih r n)
theorem RpA.drop {vs : List V} {ds : List D} (h : RpA K G vs ds) (n : Nat) : RpA K G (vs.drop n) (ds.drop n) := by
  induction ds generalizing vs n with
  | nil => cases h; simp; exact .nil
  | cons x ds ih =>
    cases h with
    | cons h1 r => cases n with
      | zero => exact .cons h1 r
      | succ n => exact ih r n
theorem RpA.set {vs : List V} {ds : List D} (h : RpA K G vs ds) (i : Nat) {v : V} {d : D} (r : Rp K G v d) : RpA K G (vs.set i v) (ds.set i d) := by
  induction ds generalizing vs i with
  | nil => cases h; exact .nil
  | cons x ds ih =>
    cases h with
    | cons h1 r' => cases i with
      | zero => exact .cons r r'
      | succ i => exact .cons h1 (ih r' i)
/-- a list of flat data is its own values -/
theorem RpA.flats {xs vs : List V} (h : RpA K G vs (xs.map D.v)) : vs = xs := by
  induction xs generalizing vs with
  | nil => cases h; rfl
  | cons x xs ih => cases h with | cons h1 r => cases h1; rw [ih r]
theorem RpA.of_flats {xs : List V} (h : xs.all flat = true) : RpA K G xs (xs.map D.v) := by
  induction xs with
  | nil => exact .nil
  | cons x xs ih =>
    rw [List.all_cons, Bool.and_eq_true] at h
    exact .cons (.v h.1) (ih h.2)
end

/-! ### heaps less some addresses -/
def mn (A : List Addr) (H : Hp) : Hp := fun b => if b ∈ A then none else H b
theorem mn_nil (H : Hp) : mn [] H = H := by funext b; simp [mn]
theorem mn_in {A : List Addr} {H : Hp} {b : Addr} (h : b ∈ A) : mn A H b = none := by simp [mn, h]
theorem mn_out {A : List Addr} {H : Hp} {b : Addr} (h : b ∉ A) : mn A H b = H b := by simp [mn, h]
theorem mn_le (A : List Addr) (H : Hp) : Ex (mn A H) H := fun b o e => by
  unfold mn at e
  split at e
  · cases e
  · exact e
theorem mn_ex {A : List Addr} {H H' : Hp} (e : Ex H H') : Ex (mn A H) (mn A H') := fun b o h => by
  unfold mn at h ⊢
  split at h
  · cases h
  · rename_i hb
    rw [if_neg hb]
    exact e b o h
/-- changes at addresses of A do not show -/
theorem mn_exB {A B : List Addr} {H H' : Hp} (hB : ∀ b ∈ B, b ∈ A) (e : ∀ b o, b ∉ B → H b = some o → H' b = some o) : Ex (mn A H) (mn A H') := fun b o h => by
  unfold mn at h ⊢
  split at h
  · cases h
  · rename_i hb
    rw [if_neg hb]
    exact e b o (fun z => hb (hB b z)) h
theorem mn_sub {A A' : List Addr} (h : ∀ b ∈ A', b ∈ A) (H : Hp) : Ex (mn A H) (mn A' H) := fun b o e => by
  unfold mn at e ⊢
  split at e
  · cases e
  · rename_i hb
    rw [if_neg fun z => hb (h b z)]
    exact e
theorem mn_upd {A : List Addr} {H : Hp} {p : Addr} {o : HO} (h : p ∈ A) : mn A (upd H p o) = mn A H := by
  funext b
  unfold mn
  split
  · rfl
  · rename_i hb
    rw [upd_ne fun e => hb (by rw [e]; exact h)]

/-! ### states -/
/-- what is known of a slot: nothing, its data, the address of an object of one's own -/
inductive Sl where
  | no
  | d (x : D)
  | a (p : Addr)
/-- what an object of one's own holds -/
inductive Oc where
  | l (xs : List D)
  | t (kvs : List (List Key × V))
  | z (od : Obj) (kvs : List (List Key × V))
abbrev Os := List (Addr × Oc)
abbrev own (O : Os) : List Addr := O.map (·.1)
def OcOk (K : PySem.W.Frag) (G H : Hp) (p : Addr) : Oc → Prop
  | .l ds => ∃ xs, H p = some (.lst xs) ∧ RpA K G xs ds
  | .t kvs => H p = some (.dT kvs)
  | .z od kvs => H p = some (.frz od (.dT kvs))
/-- a word about data, that stays when data come -/
structure Gh where
  P : Hp → Prop
  mono : ∀ G G' : Hp, Ex G G' → P G → P G'
/-- the slots, and words about data beside them -/
structure En where
  s : List Sl
  g : List Gh := []
abbrev En.put (e : En) (i : Nat) (x : Sl) : En := ⟨e.s.set i x, e.g⟩
abbrev En.tell (e : En) (g : Gh) : En := ⟨e.s, g :: e.g⟩
abbrev En.hush (e : En) : En := ⟨e.s, e.g.tail⟩
/-- something stands there that is no tuple -/
def NT (x : Option HO) : Prop := x ≠ none ∧ ∀ xs, x ≠ some (.tup xs)
theorem NT.up {x : HO} {y : Option HO} (h : NT (some x)) (e : y = some x) : NT y := e ▸ h
/-- what stays fixed while a def runs: the written part, hidden addresses, the heap at its entry, the addresses that it may change, a word about them -/
structure Wd where
  K : PySem.W.Frag
  A0 : List Addr
  H0 : Hp
  B : List Addr
  J : Hp → Prop
  bs : ∀ b ∈ B, b ∈ A0
  js : ∀ H H' : Hp, (∀ b ∈ B, ∀ o, H b = some o → H' b = some o) → J H → J H'
abbrev Wd.G (w : Wd) (O : Os) (H : Hp) : Hp := mn (own O ++ w.A0) H

structure Sd (w : Wd) (env : En) (O : Os) (σ : L2.St) (H : Hp) : Prop where
  len : σ.length = env.s.length
  dat : ∀ (i : Nat) (x : D), env.s[i]? = some (.d x) → ∃ v, σ[i]? = some (some v) ∧ Rp w.K (w.G O H) v x
  adr : ∀ (i : Nat) (p : Addr), env.s[i]? = some (.a p) → σ[i]? = some (some (.ref p))
  nd : (own O).Nodup
  fr : ∀ p ∈ own O, w.H0 p = none
  ok : ∀ q ∈ O, OcOk w.K (w.G O H) H q.1 q.2
  ex : ∀ b o, b ∉ w.B → w.H0 b = some o → H b = some o
  tr : ∀ b ∈ w.A0, w.H0 b ≠ none
  bt : ∀ b ∈ w.A0, NT (H b)
  gh : ∀ g ∈ env.g, g.P (w.G O H)
  j : w.J H

section
variable {w : Wd} {env : En} {O : Os} {σ : L2.St} {H H' : Hp}
theorem Sd.disj (h : Sd w env O σ H) {p : Addr} (hp : p ∈ own O) : p ∉ w.A0 := fun z => h.tr p z (h.fr p hp)
theorem Sd.there (h : Sd w env O σ H) {p : Addr} (hp : p ∈ own O ++ w.A0) : NT (H p) := by
  rcases List.mem_append.mp hp with z | z
  · obtain ⟨q, hq, rfl⟩ := List.mem_map.mp z
    have := h.ok q hq
    rcases q with ⟨p, c⟩
    cases c with
    | l ds => obtain ⟨xs, e, _⟩ := this; rw [e]; exact ⟨by simp, by simp⟩
    | t kvs => rw [show H p = some (.dT kvs) from this]; exact ⟨by simp, by simp⟩
    | z od kvs => rw [show H p = some (.frz od (.dT kvs)) from this]; exact ⟨by simp, by simp⟩
  · exact h.bt p z
/-- the heap grows, but for what may change -/
theorem Sd.growB (h : Sd w env O σ H) (e : ∀ b o, b ∉ w.B → H b = some o → H' b = some o) (t : ∀ b ∈ w.B, NT (H' b)) (j : w.J H') : Sd w env O σ H' ∧ Ex (w.G O H) (w.G O H') := by
  have hB : ∀ b ∈ w.B, b ∈ own O ++ w.A0 := fun b z => List.mem_append_right _ (w.bs b z)
  have ex : Ex (w.G O H) (w.G O H') := mn_exB hB e
  have nB : ∀ p ∈ own O, p ∉ w.B := fun p hp z => h.disj hp (w.bs p z)
  refine ⟨⟨h.len, fun i x hi => ?_, h.adr, h.nd, h.fr, fun q hq => ?_, fun b o hb ho => e b o hb (h.ex b o hb ho), h.tr, fun b hb => ?_, fun g hg => g.mono _ _ ex (h.gh g hg), j⟩, ex⟩
  · obtain ⟨v, e1, r⟩ := h.dat i x hi
    exact ⟨v, e1, r.mono ex⟩
  · have hp : q.1 ∈ own O := List.mem_map.mpr ⟨q, hq, rfl⟩
    have := h.ok q hq
    rcases q with ⟨p, c⟩
    cases c with
    | l ds => obtain ⟨xs, e1, r⟩ := this; exact ⟨xs, e p _ (nB p hp) e1, r.mono ex⟩
    | t kvs => exact e p _ (nB p hp) this
    | z od kvs => exact e p _ (nB p hp) this
  · by_cases z : b ∈ w.B
    · exact t b z
    · cases q : H b with
      | none => exact absurd q (h.bt b hb).1
      | some o => exact (q ▸ h.bt b hb).up (e b o z q)
theorem Sd.grow (h : Sd w env O σ H) (e : Ex H H') : Sd w env O σ H' ∧ Ex (w.G O H) (w.G O H') :=
  h.growB (fun b o _ q => e b o q) (fun b hb => by
    cases q : H b with
    | none => exact absurd q (h.bt b (w.bs b hb)).1
    | some o => exact (q ▸ h.bt b (w.bs b hb)).up (e b o q)) (w.js H H' (fun b _ o q => e b o q) h.j)
/-- a new object -/
theorem Sd.new {p : Addr} {o : HO} (h : Sd w env O σ H) (hp : H p = none) : Sd w env O σ (upd H p o) ∧ Ex (w.G O H) (w.G O (upd H p o)) := h.grow (Ex.new hp)
theorem Sd.out (h : Sd w env O σ H) {p : Addr} (hp : H p = none) : p ∉ own O ++ w.A0 := fun z => (h.there z).1 hp
/-- a slot is stored -/
theorem Sd.set (h : Sd w env O σ H) {v : V} {x : D} (i : Nat) (r : Rp w.K (w.G O H) v x) : Sd w (env.put i (.d x)) O (σ.set i (some v)) H where
  len := by simp [h.len]
  dat := fun j y hj => by
    by_cases e : i = j
    · subst e
      have hl : i < env.s.length := by
        have := (List.getElem?_eq_some_iff.mp hj).1
        simpa using this
      rw [List.getElem?_set_self (by simpa using hl)] at hj
      cases hj
      exact ⟨v, List.getElem?_set_self (by rw [h.len]; exact hl), r⟩
    · rw [List.getElem?_set_ne e] at hj
      obtain ⟨u, e1, r1⟩ := h.dat j y hj
      exact ⟨u, by rw [List.getElem?_set_ne e]; exact e1, r1⟩
  adr := fun j p hj => by
    by_cases e : i = j
    · subst e
      have hl : i < env.s.length := by
        have := (List.getElem?_eq_some_iff.mp hj).1
        simpa using this
      rw [List.getElem?_set_self (by simpa using hl)] at hj
      cases hj
    · rw [List.getElem?_set_ne e] at hj ⊢
      exact h.adr j p hj
  nd := h.nd
  fr := h.fr
  ok := h.ok
  ex := h.ex
  tr := h.tr
  bt := h.bt
  gh := h.gh
  j := h.j
theorem Sd.setA (h : Sd w env O σ H) {p : Addr} (i : Nat) : Sd w (env.put i (.a p)) O (σ.set i (some (.ref p))) H where
  len := by simp [h.len]
  dat := fun j y hj => by
    by_cases e : i = j
    · subst e
      have hl : i < env.s.length := by
        have := (List.getElem?_eq_some_iff.mp hj).1
        simpa using this
      rw [List.getElem?_set_self (by simpa using hl)] at hj
      cases hj
    · rw [List.getElem?_set_ne e] at hj ⊢
      exact h.dat j y hj
  adr := fun j q hj => by
    by_cases e : i = j
    · subst e
      have hl : i < env.s.length := by
        have := (List.getElem?_eq_some_iff.mp hj).1
        simpa using this
      rw [List.getElem?_set_self (by simpa using hl)] at hj
      cases hj
      exact List.getElem?_set_self (by rw [h.len]; exact hl)
    · rw [List.getElem?_set_ne e] at hj ⊢
      exact h.adr j q hj
  nd := h.nd
  fr := h.fr
  ok := h.ok
  ex := h.ex
  tr := h.tr
  bt := h.bt
  gh := h.gh
  j := h.j
/-- a slot is forgotten (its value may be anything) -/
theorem Sd.weak {env' : En} (h : Sd w env O σ H) (hl : env'.s.length = env.s.length) (hg : ∀ g ∈ env'.g, g ∈ env.g) (hw : ∀ i : Nat, env'.s[i]? = env.s[i]? ∨ env'.s[i]? = some .no) : Sd w env' O σ H where
  len := by rw [h.len, hl]
  dat := fun i x hi => by
    rcases hw i with e | e
    · exact h.dat i x (e ▸ hi)
    · rw [e] at hi; cases hi
  adr := fun i x hi => by
    rcases hw i with e | e
    · exact h.adr i x (e ▸ hi)
    · rw [e] at hi; cases hi
  nd := h.nd
  fr := h.fr
  ok := h.ok
  ex := h.ex
  tr := h.tr
  bt := h.bt
  gh := fun g hg' => h.gh g (hg g hg')
  j := h.j
theorem mn_fresh {A : List Addr} {H : Hp} {p : Addr} {o : HO} (hp : H p = none) : mn (p :: A) (upd H p o) = mn A H := by
  funext b
  by_cases e : b = p
  · subst e
    rw [mn_in (List.mem_cons_self ..)]
    unfold mn
    split
    · rfl
    · exact hp.symm
  · unfold mn
    by_cases z : b ∈ A
    · rw [if_pos z, if_pos (List.mem_cons_of_mem _ z)]
    · rw [if_neg z, if_neg (fun q => by rcases List.mem_cons.mp q with q | q; exact e q; exact z q), upd_ne e]
/-- a new list, a new dict of one's own -/
theorem Sd.fresh0 (h : Sd w env O σ H) {p : Addr} (hp : H p = none) : w.H0 p = none := by
  cases q : w.H0 p with
  | none => rfl
  | some o =>
    by_cases z : p ∈ w.B
    · exact absurd hp (h.bt p (w.bs p z)).1
    · rw [h.ex p o z q] at hp; cases hp
theorem Sd.newO (h : Sd w env O σ H) {p : Addr} {o : HO} {c : Oc} (hp : H p = none) (hc : OcOk w.K (w.G O H) (upd H p o) p c) : Sd w env ((p, c) :: O) σ (upd H p o) ∧ w.G ((p, c) :: O) (upd H p o) = w.G O H := by
  have eG : w.G ((p, c) :: O) (upd H p o) = w.G O H := mn_fresh hp
  have nB : ∀ q ∈ own O ++ w.A0, q ≠ p := fun q hq e => (h.there hq).1 (e ▸ hp)
  refine ⟨⟨h.len, fun i x hi => ?_, h.adr, ?_, fun q hq => ?_, fun q hq => ?_, fun b ob hb ho => ?_, h.tr, fun b hb => ?_, fun g hg => by rw [eG]; exact h.gh g hg, w.js H _ (fun b hb ob e => ?_) h.j⟩, eG⟩
  · rw [eG]; exact h.dat i x hi
  · exact List.nodup_cons.mpr ⟨fun z => nB p (List.mem_append_left _ z) rfl, h.nd⟩
  · rcases List.mem_cons.mp hq with z | z
    · rw [z]; exact h.fresh0 hp
    · exact h.fr q z
  · rw [eG]
    rcases List.mem_cons.mp hq with z | z
    · subst z; exact hc
    · have hq' : q.1 ≠ p := nB q.1 (List.mem_append_left _ (List.mem_map.mpr ⟨q, z, rfl⟩))
      have := h.ok q z
      rcases q with ⟨q, c'⟩
      cases c' with
      | l ds => obtain ⟨xs, e1, r⟩ := this; exact ⟨xs, by rw [upd_ne hq']; exact e1, r⟩
      | t kvs => show upd H p o q = _; rw [upd_ne hq']; exact this
      | z od kvs => show upd H p o q = _; rw [upd_ne hq']; exact this
  · have e := h.ex b ob hb ho
    rw [upd_ne (ne_of_none e hp)]; exact e
  · rw [upd_ne (nB b (List.mem_append_right _ hb))]; exact h.bt b hb
  · rw [upd_ne (nB b (List.mem_append_right _ (w.bs b hb)))]; exact e
/-- an object of one's own is written -/
theorem own_set {O : Os} {k : Nat} {p : Addr} {c0 c : Oc} (hk : O[k]? = some (p, c0)) : own (O.set k (p, c)) = own O := by
  apply List.ext_getElem?
  intro i
  simp only [own, List.getElem?_map, List.getElem?_set]
  by_cases e : k = i
  · subst e
    obtain ⟨hl, e1⟩ := List.getElem?_eq_some_iff.mp hk
    simp [hl, e1]
  · simp [e]
theorem Sd.write (h : Sd w env O σ H) {k : Nat} {p : Addr} {c0 c : Oc} {o : HO} (hk : O[k]? = some (p, c0)) (hc : OcOk w.K (w.G O H) (upd H p o) p c) : Sd w env (O.set k (p, c)) σ (upd H p o) ∧ w.G (O.set k (p, c)) (upd H p o) = w.G O H := by
  have hp : p ∈ own O := List.mem_map.mpr ⟨_, List.mem_of_getElem? hk, rfl⟩
  have eo := own_set (c := c) hk
  have eG : w.G (O.set k (p, c)) (upd H p o) = w.G O H := by
    unfold Wd.G
    rw [eo]
    exact mn_upd (List.mem_append_left _ hp)
  have nA : p ∉ w.A0 := h.disj hp
  refine ⟨⟨h.len, fun i x hi => ?_, h.adr, by rw [eo]; exact h.nd, fun q hq => h.fr q (by rw [eo] at hq; exact hq), fun q hq => ?_, fun b ob hb ho => ?_, h.tr, fun b hb => ?_, fun g hg => by rw [eG]; exact h.gh g hg, w.js H _ (fun b hb ob e => ?_) h.j⟩, eG⟩
  · rw [eG]; exact h.dat i x hi
  · rw [eG]
    obtain ⟨i, hi⟩ := List.mem_iff_getElem?.mp hq
    rw [List.getElem?_set] at hi
    split at hi
    · rename_i e
      subst e
      split at hi
      · cases hi; exact hc
      · cases hi
    · rename_i e
      have hne : q.1 ≠ p := fun z => by
        have h1 : (own O)[i]? = some p := by rw [List.getElem?_map, hi]; simp [z]
        have h2 : (own O)[k]? = some p := by rw [List.getElem?_map, hk]; rfl
        exact e (nd_ix h.nd h2 h1)
      have := h.ok q (List.mem_of_getElem? hi)
      rcases q with ⟨q, c'⟩
      cases c' with
      | l ds => obtain ⟨xs, e1, r⟩ := this; exact ⟨xs, by rw [upd_ne hne]; exact e1, r⟩
      | t kvs => show upd H p o q = _; rw [upd_ne hne]; exact this
      | z od kvs => show upd H p o q = _; rw [upd_ne hne]; exact this
  · have hb' : b ≠ p := fun z => by
      have := h.fr p hp
      rw [← z, ho] at this; cases this
    rw [upd_ne hb']; exact h.ex b ob hb ho
  · rw [upd_ne (fun z => nA (by rw [← z]; exact hb))]; exact h.bt b hb
  · rw [upd_ne (fun z => nA (by rw [← z]; exact w.bs b hb))]; exact e
/-- an object of one's own becomes data -/
theorem Sd.get (h : Sd w env O σ H) {k : Nat} {p : Addr} {c : Oc} (hk : O[k]? = some (p, c)) : OcOk w.K (w.G O H) H p c := h.ok _ (List.mem_of_getElem? hk)
theorem Sd.mem (h : Sd w env O σ H) {k : Nat} {p : Addr} {c : Oc} (hk : O[k]? = some (p, c)) : p ∈ own O := List.mem_map.mpr ⟨_, List.mem_of_getElem? hk, rfl⟩
theorem Sd.ret (h : Sd w env O σ H) {v : V} {x : D} (r : Rp w.K (w.G O H) v x) : Rp w.K (mn w.A0 H) v x := r.mono (mn_sub (fun b hb => List.mem_append_right _ hb) H)
theorem Sd.retL (h : Sd w env O σ H) {k : Nat} {p : Addr} {ds : List D} (hk : O[k]? = some (p, .l ds)) : Rp w.K (mn w.A0 H) (.ref p) (.lst ds) := by
  obtain ⟨xs, e, r⟩ := h.get hk
  have nA := h.disj (h.mem hk)
  exact .lst (by rw [mn_out nA]; exact e) (r.mono (mn_sub (fun b hb => List.mem_append_right _ hb) H))
theorem Sd.retT (h : Sd w env O σ H) {k : Nat} {p : Addr} {kvs : List (List Key × V)} (hk : O[k]? = some (p, .t kvs)) : Rp w.K (mn w.A0 H) (.ref p) (.dT kvs) := by
  have e : H p = some (.dT kvs) := h.get hk
  exact .dT (.inl (by rw [mn_out (h.disj (h.mem hk))]; exact e))
theorem own_erase {O : Os} {k : Nat} : ∀ b ∈ own (O.eraseIdx k), b ∈ own O := fun b hb => by
  obtain ⟨q, hq, e⟩ := List.mem_map.mp hb
  exact List.mem_map.mpr ⟨q, List.mem_of_mem_eraseIdx hq, e⟩
theorem Sd.drop (h : Sd w env O σ H) (k : Nat) : Sd w env (O.eraseIdx k) σ H ∧ Ex (w.G O H) (w.G (O.eraseIdx k) H) := by
  have ex : Ex (w.G O H) (w.G (O.eraseIdx k) H) := mn_sub (fun b hb => by
    rcases List.mem_append.mp hb with z | z
    · exact List.mem_append_left _ (own_erase b z)
    · exact List.mem_append_right _ z) H
  refine ⟨⟨h.len, fun i x hi => ?_, h.adr, ?_, fun q hq => h.fr q (own_erase q hq), fun q hq => ?_, h.ex, h.tr, h.bt, fun g hg => g.mono _ _ ex (h.gh g hg), h.j⟩, ex⟩
  · obtain ⟨v, e1, r⟩ := h.dat i x hi
    exact ⟨v, e1, r.mono ex⟩
  · exact List.Nodup.sublist (List.Sublist.map _ (List.eraseIdx_sublist _ _)) h.nd
  · have := h.ok q (List.mem_of_mem_eraseIdx hq)
    rcases q with ⟨q, c'⟩
    cases c' with
    | l ds => obtain ⟨xs, e1, r⟩ := this; exact ⟨xs, e1, r.mono ex⟩
    | t kvs => exact this
    | z od kvs => exact this
theorem Sd.frzL (h : Sd w env O σ H) {k : Nat} {p : Addr} {ds : List D} (hk : O[k]? = some (p, .l ds)) : Sd w env (O.eraseIdx k) σ H ∧ Rp w.K (w.G (O.eraseIdx k) H) (.ref p) (.lst ds) := by
  obtain ⟨h', ex⟩ := h.drop k
  obtain ⟨xs, e, r⟩ := h.get hk
  refine ⟨h', .lst ?_ (r.mono ex)⟩
  have hp : p ∉ own (O.eraseIdx k) ++ w.A0 := fun z => by
    rcases List.mem_append.mp z with z | z
    · obtain ⟨q, hq, e2⟩ := List.mem_map.mp z
      obtain ⟨i, hi⟩ := List.mem_iff_getElem?.mp hq
      rw [List.getElem?_eraseIdx] at hi
      have hk' : (own O)[k]? = some p := by rw [List.getElem?_map, hk]; rfl
      split at hi
      · rename_i hlt
        have hi' : (own O)[i]? = some p := by rw [List.getElem?_map, hi]; simp [e2]
        have := nd_ix h.nd hi' hk'
        omega
      · rename_i hlt
        have hi' : (own O)[i + 1]? = some p := by rw [List.getElem?_map, hi]; simp [e2]
        have := nd_ix h.nd hi' hk'
        omega
    · exact h.disj (h.mem hk) z
  show mn (own (O.eraseIdx k) ++ w.A0) H p = _
  rw [mn_out hp]
  exact e
theorem Sd.tell (h : Sd w env O σ H) (g : Gh) (q : g.P (w.G O H)) : Sd w (env.tell g) O σ H :=
  ⟨h.len, h.dat, h.adr, h.nd, h.fr, h.ok, h.ex, h.tr, h.bt, fun x hx => by
    rcases List.mem_cons.mp hx with z | z
    · rw [z]; exact q
    · exact h.gh x z, h.j⟩
theorem Sd.hush (h : Sd w env O σ H) : Sd w env.hush O σ H :=
  ⟨h.len, h.dat, h.adr, h.nd, h.fr, h.ok, h.ex, h.tr, h.bt, fun x hx => h.gh x (List.mem_of_mem_tail hx), h.j⟩
theorem mn_congr {A A' : List Addr} (h : ∀ b, b ∈ A ↔ b ∈ A') (H : Hp) : mn A H = mn A' H := by
  funext b
  unfold mn
  by_cases z : b ∈ A
  · rw [if_pos z, if_pos ((h b).mp z)]
  · rw [if_neg z, if_neg fun q => z ((h b).mpr q)]
/-- the objects of one's own in another order -/
theorem Sd.perm {O' : Os} (h : Sd w env O σ H) (p : List.Perm O O') : Sd w env O' σ H ∧ w.G O' H = w.G O H := by
  have pm : List.Perm (own O) (own O') := p.map _
  have eG : w.G O' H = w.G O H := mn_congr (fun b => by simp only [List.mem_append, pm.mem_iff]) H
  refine ⟨⟨h.len, fun i x hi => ?_, h.adr, pm.nodup_iff.mp h.nd, fun q hq => h.fr q (pm.mem_iff.mpr hq), fun q hq => ?_, h.ex, h.tr, h.bt, fun g hg => by rw [eG]; exact h.gh g hg, h.j⟩, eG⟩
  · rw [eG]; exact h.dat i x hi
  · rw [eG]; exact h.ok q (p.mem_iff.mpr hq)
theorem Sd.newE (h : Sd w env O σ H) {p : Addr} {o : HO} {c : Oc} (hp : H p = none) (hc : OcOk w.K (w.G O H) (upd H p o) p c) : Sd w env (O ++ [(p, c)]) σ (upd H p o) ∧ w.G (O ++ [(p, c)]) (upd H p o) = w.G O H := by
  obtain ⟨h1, e1⟩ := h.newO hp hc
  obtain ⟨h2, e2⟩ := h1.perm (O' := O ++ [(p, c)]) (by
    have : (p, c) :: O = [(p, c)] ++ O := rfl
    rw [this]
    exact List.perm_append_comm)
  exact ⟨h2, e2.trans e1⟩
end
end Mp
end
section
set_option Elab.async false
set_option linter.all false
set_option maxRecDepth 100000
set_option maxHeartbeats 4000000
/-! Mp2: what runs, and what it comes to, by data. -/
namespace Mp
open PySem PySem.Spec PyProof.Rows L2

/-! ### running (the canonical readings) -/
def RE (X : Cx) (e : Expr) : TE := fun σ H Q => ∀ (pins : List (Addr × Obj)) (s : Shared), Inv X pins σ H s → wpAny (model X.prog X.w) X.A (eval e X.env) (EP X pins σ Q) X.xe s
def RT (X : Cx) (e : Expr) : TT := fun σ H Q => ∀ (pins : List (Addr × Obj)) (s : Shared), Inv X pins σ H s → wpAny (model X.prog X.w) X.A (isTrue e X.env (eval e X.env)) (TP X pins σ Q) X.xe s
def RA (X : Cx) (es : List Expr) : TA := fun σ H Q => ∀ (pos : Pos) (pins : List (Addr × Obj)) (s : Shared), Inv X pins σ H s → wpAny (model X.prog X.w) X.A (spliced (backTo pos (starEach es X.env))) (AP X pins σ Q) X.xe s
def R1 (X : Cx) (st : Stmt) : TS := fun D σ H => ∀ (pins : List (Addr × Obj)) (s : Shared), Inv X pins σ H s → wpAny (model X.prog X.w) X.A (exec st X.env) (SP X pins D) X.xe s
def RS (X : Cx) (ss : List Stmt) : TS := fun D σ H => ∀ (pins : List (Addr × Obj)) (s : Shared), Inv X pins σ H s → wpAny (model X.prog X.w) X.A (execs ss X.env) (SP X pins D) X.xe s
section
variable {X : Cx} {e : Expr} {es : List Expr} {st : Stmt} {ss : List Stmt} {te : TE} {tt : TT} {ta : TA} {ts : TS} {σ : L2.St} {H : Hp} {D : Ends}
theorem pe_c : PE X e (RE X e) := ⟨fun pins s σ H Q I h => h pins s I⟩
theorem pt_c : PT X e (RT X e) := ⟨fun pins s σ H Q I h => h pins s I⟩
theorem pa_c : PA X es (RA X es) := ⟨fun pos pins s σ H Q I h => h pos pins s I⟩
theorem ps_c : PS X st (R1 X st) := ⟨fun pins s σ H Q I h => h pins s I⟩
theorem pss_c : PSs X ss (RS X ss) := ⟨fun pins s σ H Q I h => h pins s I⟩
theorem re_of {Q : VK} (h : PE X e te) (q : te σ H Q) : RE X e σ H Q := fun pins s I => h.run pins s σ H Q I q
theorem rt_of {Q : Bool → Hp → Prop} (h : PT X e tt) (q : tt σ H Q) : RT X e σ H Q := fun pins s I => h.run pins s σ H Q I q
theorem ra_of {Q : List V → Hp → Prop} (h : PA X es ta) (q : ta σ H Q) : RA X es σ H Q := fun pos pins s I => h.run pos pins s σ H Q I q
theorem r1_of (h : PS X st ts) (q : ts D σ H) : R1 X st D σ H := fun pins s I => h.run pins s σ H D I q
theorem rs_of (h : PSs X ss ts) (q : ts D σ H) : RS X ss D σ H := fun pins s I => h.run pins s σ H D I q
end

/-! ### what comes of it -/
section
variable (w : Wd) (X : Cx)
/-- what an evaluation leaves: the state, more data -/
def Lv (env : En) (O : Os) (σ : L2.St) (H H' : Hp) : Prop := Sd w env O σ H' ∧ ∀ b o, b ∉ w.B → H b = some o → H' b = some o
def EV (e : Expr) (env : En) (O : Os) (d : D) : Prop := ∀ σ H, Sd w env O σ H → ∀ Q : VK, (∀ v H', Lv w env O σ H H' → Rp w.K (w.G O H') v d → Q v H') → RE X e σ H Q
/-- a list that is to be read (data, or one's own) -/
def EL (e : Expr) (env : En) (O : Os) (ds : List D) : Prop := ∀ σ H, Sd w env O σ H → ∀ Q : VK, (∀ a xs H', Lv w env O σ H H' → a ∉ w.B → H' a = some (.lst xs) → RpA w.K (w.G O H') xs ds → Q (.ref a) H') → RE X e σ H Q
def EU (e : Expr) (env : En) (O : Os) (ds : List D) : Prop := ∀ σ H, Sd w env O σ H → ∀ Q : VK, (∀ a xs H', Lv w env O σ H H' → (w.G O H') a = some (.tup xs) → RpA w.K (w.G O H') xs ds → Q (.ref a) H') → RE X e σ H Q
def TV (e : Expr) (env : En) (O : Os) (b : Bool) : Prop := ∀ σ H, Sd w env O σ H → ∀ Q : Bool → Hp → Prop, (∀ H', Lv w env O σ H H' → Q b H') → RT X e σ H Q
def AV (es : List Expr) (env : En) (O : Os) (ds : List D) : Prop := ∀ σ H, Sd w env O σ H → ∀ Q : List V → Hp → Prop, (∀ vs H', Lv w env O σ H H' → RpA w.K (w.G O H') vs ds → Q vs H') → RA X es σ H Q
end
section
variable {w : Wd} {X : Cx} {env : En} {O : Os} {σ : L2.St} {H H1 H2 H' : Hp} {e a b c : Expr} {es : List Expr} {pos pos2 : Pos} {d d1 d2 : D} {i j : Int}
theorem Lv.refl (h : Sd w env O σ H) : Lv w env O σ H H := ⟨h, fun _ _ _ e => e⟩
theorem Lv.trans (h1 : Lv w env O σ H H1) (h2 : Lv w env O σ H1 H2) : Lv w env O σ H H2 := ⟨h2.1, fun b o hb e => h2.2 b o hb (h1.2 b o hb e)⟩
theorem Lv.new (h : Sd w env O σ H) {p : Addr} {o : HO} (hp : H p = none) : Lv w env O σ H (upd H p o) := ⟨(h.new hp).1, fun b o _ e => Ex.new hp b o e⟩
theorem Lv.ex (l : Lv w env O σ H H') : Ex (w.G O H) (w.G O H') := mn_exB (fun b z => List.mem_append_right _ (w.bs b z)) l.2
theorem Lv.grow (h : Sd w env O σ H) (e : Ex H H') : Lv w env O σ H H' := ⟨(h.grow e).1, fun b o _ q => e b o q⟩
theorem Lv.G_new (h : Sd w env O σ H) {p : Addr} {o : HO} (hp : H p = none) : w.G O (upd H p o) p = some o := by
  show mn (own O ++ w.A0) (upd H p o) p = some o
  rw [mn_out (h.out hp), upd_same]
theorem EV.to (h : EV w X e env O d) (q : d = d1) : EV w X e env O d1 := q ▸ h
theorem TV.to {p q : Bool} (h : TV w X e env O p) (e' : p = q) : TV w X e env O q := e' ▸ h
theorem ev_var (i : Nat) {x : Str} (he : env.s[i]? = some (.d d)) (hN : X.N[i]? = some x := by rfl) (hv : Vis X.env.scope x := by first | exact Or.inl rfl | exact Or.inr (Or.inl rfl) | exact Or.inr (Or.inr rfl)) (hd : (x == ("__debug__" : Str)) = false := by decide)
    (hcd : (x == ("__classdict__" : Str)) = false := by decide) : EV w X (.Name x pos) env O d := fun σ H h Q q => by
  obtain ⟨v, e1, r⟩ := h.dat i d he
  exact re_of (pe_var hN hv hd hcd) ⟨v, e1, q v H (.refl h) r⟩
theorem el_var (i k : Nat) {x : Str} {p : Addr} {ds : List D} (he : env.s[i]? = some (.a p)) (hk : O[k]? = some (p, .l ds)) (hN : X.N[i]? = some x := by rfl) (hv : Vis X.env.scope x := by first | exact Or.inl rfl | exact Or.inr (Or.inl rfl) | exact Or.inr (Or.inr rfl)) (hd : (x == ("__debug__" : Str)) = false := by decide)
    (hcd : (x == ("__classdict__" : Str)) = false := by decide) : EL w X (.Name x pos) env O ds := fun σ H h Q q => by
  obtain ⟨xs, e1, r⟩ := h.get hk
  exact re_of (pe_var hN hv hd hcd) ⟨_, h.adr i p he, q p xs H (.refl h) (fun z => h.disj (h.mem hk) (w.bs p z)) e1 r⟩
theorem ev_int {j : Nat} : EV w X (.Constant (.int i) j pos) env O (.int i) := fun σ H h Q q => re_of pe_int (q _ H (.refl h) (.v rfl))
theorem ev_bl {j : Nat} {b : Bool} : EV w X (.Constant (.bool b) j pos) env O (.bl b) := fun σ H h Q q => re_of pe_bl (q _ H (.refl h) (.v rfl))
theorem ev_non {j : Nat} : EV w X (.Constant .none j pos) env O .non := fun σ H h Q q => re_of pe_non (q _ H (.refl h) (.v rfl))
theorem ev_str {j : Nat} {s : Str} : EV w X (.Constant (.str s) j pos) env O (.str s) := fun σ H h Q q => re_of pe_str (q _ H (.refl h) (.v rfl))
theorem rp_int {K : PySem.W.Frag} {G : Hp} {v : V} (h : Rp K G v (.int i)) : v = .int i := by cases h; rfl
theorem rp_bl {K : PySem.W.Frag} {G : Hp} {v : V} {b : Bool} (h : Rp K G v (.bl b)) : v = .bl b := by cases h; rfl
theorem rp_v {K : PySem.W.Frag} {G : Hp} {v x : V} (h : Rp K G v (.v x)) : v = x := by cases h; rfl
theorem el_of {ds : List D} (h : EV w X e env O (.lst ds)) : EL w X e env O ds := fun σ H hs Q q => h σ H hs Q fun v H' l r => by
  cases r with | lst h1 r1 => exact q _ _ H' l (fun z => by rw [show w.G O H' _ = none from mn_in (List.mem_append_right _ (w.bs _ z))] at h1; cases h1) (mn_le _ _ _ _ h1) r1
theorem eu_of {ds : List D} (h : EV w X e env O (.tup ds)) : EU w X e env O ds := fun σ H hs Q q => h σ H hs Q fun v H' l r => by
  cases r with | tup h1 r1 => exact q _ _ H' l h1 r1

/-! ### ints -/
theorem ev_op2 {op : Operator} {x y : V} {r : R2} {z : V} (ho : OpR X (binaryOp op) r) (ha : EV w X a env O (.v x)) (hb : EV w X b env O (.v y)) (hz : flat z = true) (hr : ∀ H (Q : VK), Q z H → r x y H Q) : EV w X (.BinOp a op b pos) env O (.v z) := fun σ H h Q q =>
  re_of (pe_op ho pe_c pe_c) (ha σ H h _ fun v H1 l1 r1 => hb σ H1 l1.1 _ fun u H2 l2 r2 => by
    rw [rp_v r1, rp_v r2]
    exact hr H2 Q (q z H2 (l1.trans l2) (.v hz)))
theorem ev_add (ha : EV w X a env O (.int i)) (hb : EV w X b env O (.int j)) : EV w X (.BinOp a .Add b pos) env O (.int (i + j)) := ev_op2 op_add ha hb rfl fun H Q q => ⟨i, j, rfl, rfl, q⟩
theorem ev_sub (ha : EV w X a env O (.int i)) (hb : EV w X b env O (.int j)) : EV w X (.BinOp a .Sub b pos) env O (.int (i - j)) := ev_op2 op_sub ha hb rfl fun H Q q => ⟨i, j, rfl, rfl, q⟩
theorem ev_mul (ha : EV w X a env O (.int i)) (hb : EV w X b env O (.int j)) (hc : CMul i j) : EV w X (.BinOp a .Mult b pos) env O (.int (i * j)) := ev_op2 op_mul ha hb rfl fun H Q q => ⟨i, j, rfl, rfl, hc, q⟩
theorem ev_mod (ha : EV w X a env O (.int i)) (hb : EV w X b env O (.int j)) (hc : j ≠ 0) : EV w X (.BinOp a .Mod b pos) env O (.int (i.fmod j)) := ev_op2 op_modN ha hb rfl fun H Q q => ⟨i, j, rfl, rfl, hc, q⟩
theorem ev_fdiv (ha : EV w X a env O (.int i)) (hb : EV w X b env O (.int j)) (hc : CDivN i j) : EV w X (.BinOp a .FloorDiv b pos) env O (.int (i.fdiv j)) := ev_op2 op_fdivN ha hb rfl fun H Q q => ⟨i, j, rfl, rfl, hc, q⟩
theorem ev_pow (ha : EV w X a env O (.int i)) (hb : EV w X b env O (.int j)) (hc : CPow i j) : EV w X (.BinOp a .Pow b pos) env O (.int (i ^ j.toNat)) := ev_op2 op_pow ha hb rfl fun H Q q => ⟨i, j, rfl, rfl, hc, q⟩
theorem ev_neg (ha : EV w X a env O (.int i)) : EV w X (.UnaryOp .USub a pos) env O (.int (-i)) := fun σ H h Q q =>
  re_of (pe_un un_neg pe_c) (ha σ H h _ fun v H1 l1 r1 => by rw [rp_int r1]; exact ⟨i, rfl, q _ H1 l1 (.v rfl)⟩)

/-! ### comparisons, as values and as tests -/
theorem cmp2 {op : CmpOp} {x y : V} {r : R2} {z : Bool} (ha : EV w X a env O (.v x)) (hb : EV w X b env O (.v y)) (hr : ∀ H (Q : VK), Q (.bl z) H → r x y H Q) (σ : L2.St) (H : Hp) (h : Sd w env O σ H) (Q : VK) (q : ∀ H', Lv w env O σ H H' → Q (.bl z) H') :
    tOp r (RE X a) (RE X b) σ H Q := ha σ H h _ fun v H1 l1 r1 => hb σ H1 l1.1 _ fun u H2 l2 r2 => by
    rw [rp_v r1, rp_v r2]
    exact hr H2 Q (q H2 (l1.trans l2))
theorem ev_cmp2 {op : CmpOp} {x y : V} {r : R2} {z : Bool} (ho : OpR X (compareOp op) r) (ha : EV w X a env O (.v x)) (hb : EV w X b env O (.v y)) (hm : behindInMarks op b = false) (hr : ∀ H (Q : VK), Q (.bl z) H → r x y H Q) : EV w X (.Compare a [op] [b] pos) env O (.bl z) := fun σ H h Q q =>
  re_of (pe_cmpR ho pe_c pe_c hm) (cmp2 (op := op) ha hb hr σ H h Q fun H' l => q _ H' l (.v rfl))
theorem tv_cmp2 {op : CmpOp} {x y : V} {r : R2} {z : Bool} (ho : OpR X (compareOp op) r) (ha : EV w X a env O (.v x)) (hb : EV w X b env O (.v y)) (hm : behindInMarks op b = false) (hr : ∀ H (Q : VK), Q (.bl z) H → r x y H Q) : TV w X (.Compare a [op] [b] pos) env O z := fun σ H h Q q =>
  rt_of (pt_cmpR ho pe_c pe_c hm) (cmp2 (op := op) ha hb hr σ H h _ fun H' l => ⟨z, rfl, q H' l⟩)
theorem ev_lt (ha : EV w X a env O (.int i)) (hb : EV w X b env O (.int j)) : EV w X (.Compare a [.Lt] [b] pos) env O (.bl (decide (i < j))) := ev_cmp2 op_lt ha hb (nomark _) fun H Q q => ⟨i, j, rfl, rfl, q⟩
theorem ev_le (ha : EV w X a env O (.int i)) (hb : EV w X b env O (.int j)) : EV w X (.Compare a [.LtE] [b] pos) env O (.bl (decide (i ≤ j))) := ev_cmp2 op_le ha hb (nomark _) fun H Q q => ⟨i, j, rfl, rfl, q⟩
theorem ev_gt (ha : EV w X a env O (.int i)) (hb : EV w X b env O (.int j)) : EV w X (.Compare a [.Gt] [b] pos) env O (.bl (decide (j < i))) := ev_cmp2 op_gt ha hb (nomark _) fun H Q q => ⟨i, j, rfl, rfl, q⟩
theorem ev_ge (ha : EV w X a env O (.int i)) (hb : EV w X b env O (.int j)) : EV w X (.Compare a [.GtE] [b] pos) env O (.bl (decide (j ≤ i))) := ev_cmp2 op_ge ha hb (nomark _) fun H Q q => ⟨i, j, rfl, rfl, q⟩
theorem ev_eqV {x y : V} (hs : scal x y = true) (ha : EV w X a env O (.v x)) (hb : EV w X b env O (.v y)) : EV w X (.Compare a [.Eq] [b] pos) env O (.bl (decide (x = y))) := ev_cmp2 op_eq ha hb (nomark _) fun H Q q => ⟨hs, q⟩
theorem ev_neV {x y : V} (hs : scal x y = true) (ha : EV w X a env O (.v x)) (hb : EV w X b env O (.v y)) : EV w X (.Compare a [.NotEq] [b] pos) env O (.bl (!decide (x = y))) := ev_cmp2 op_ne ha hb (nomark _) fun H Q q => ⟨hs, q⟩
theorem dec_int (i j : Int) : decide (V.int i = V.int j) = decide (i = j) := by
  by_cases h : i = j
  · subst h; simp
  · rw [decide_eq_false h, decide_eq_false (fun q => h (V.int.inj q))]
theorem dec_bl (i j : Bool) : decide (V.bl i = V.bl j) = decide (i = j) := by
  by_cases h : i = j
  · subst h; simp
  · rw [decide_eq_false h, decide_eq_false (fun q => h (V.bl.inj q))]
theorem ev_eq (ha : EV w X a env O (.int i)) (hb : EV w X b env O (.int j)) : EV w X (.Compare a [.Eq] [b] pos) env O (.bl (decide (i = j))) := (ev_eqV rfl ha hb).to (by rw [dec_int])
theorem ev_ne (ha : EV w X a env O (.int i)) (hb : EV w X b env O (.int j)) : EV w X (.Compare a [.NotEq] [b] pos) env O (.bl (!decide (i = j))) := (ev_neV rfl ha hb).to (by rw [dec_int])
theorem ev_eqB {p q : Bool} (ha : EV w X a env O (.bl p)) (hb : EV w X b env O (.bl q)) : EV w X (.Compare a [.Eq] [b] pos) env O (.bl (decide (p = q))) := (ev_eqV rfl ha hb).to (by rw [dec_bl])
theorem ev_neB {p q : Bool} (ha : EV w X a env O (.bl p)) (hb : EV w X b env O (.bl q)) : EV w X (.Compare a [.NotEq] [b] pos) env O (.bl (!decide (p = q))) := (ev_neV rfl ha hb).to (by rw [dec_bl])
theorem tv_lt (ha : EV w X a env O (.int i)) (hb : EV w X b env O (.int j)) : TV w X (.Compare a [.Lt] [b] pos) env O (decide (i < j)) := tv_cmp2 op_lt ha hb (nomark _) fun H Q q => ⟨i, j, rfl, rfl, q⟩
theorem tv_le (ha : EV w X a env O (.int i)) (hb : EV w X b env O (.int j)) : TV w X (.Compare a [.LtE] [b] pos) env O (decide (i ≤ j)) := tv_cmp2 op_le ha hb (nomark _) fun H Q q => ⟨i, j, rfl, rfl, q⟩
theorem tv_gt (ha : EV w X a env O (.int i)) (hb : EV w X b env O (.int j)) : TV w X (.Compare a [.Gt] [b] pos) env O (decide (j < i)) := tv_cmp2 op_gt ha hb (nomark _) fun H Q q => ⟨i, j, rfl, rfl, q⟩
theorem tv_ge (ha : EV w X a env O (.int i)) (hb : EV w X b env O (.int j)) : TV w X (.Compare a [.GtE] [b] pos) env O (decide (j ≤ i)) := tv_cmp2 op_ge ha hb (nomark _) fun H Q q => ⟨i, j, rfl, rfl, q⟩
theorem tv_eqV {x y : V} (hs : scal x y = true) (ha : EV w X a env O (.v x)) (hb : EV w X b env O (.v y)) : TV w X (.Compare a [.Eq] [b] pos) env O (decide (x = y)) := tv_cmp2 op_eq ha hb (nomark _) fun H Q q => ⟨hs, q⟩
theorem tv_neV {x y : V} (hs : scal x y = true) (ha : EV w X a env O (.v x)) (hb : EV w X b env O (.v y)) : TV w X (.Compare a [.NotEq] [b] pos) env O (!decide (x = y)) := tv_cmp2 op_ne ha hb (nomark _) fun H Q q => ⟨hs, q⟩
theorem tv_eq (ha : EV w X a env O (.int i)) (hb : EV w X b env O (.int j)) : TV w X (.Compare a [.Eq] [b] pos) env O (decide (i = j)) := (tv_eqV rfl ha hb).to (dec_int i j)
theorem tv_ne (ha : EV w X a env O (.int i)) (hb : EV w X b env O (.int j)) : TV w X (.Compare a [.NotEq] [b] pos) env O (!decide (i = j)) := (tv_neV rfl ha hb).to (by rw [dec_int])
theorem tv_eqB {p q : Bool} (ha : EV w X a env O (.bl p)) (hb : EV w X b env O (.bl q)) : TV w X (.Compare a [.Eq] [b] pos) env O (decide (p = q)) := (tv_eqV rfl ha hb).to (dec_bl p q)
theorem tv_neB {p q : Bool} (ha : EV w X a env O (.bl p)) (hb : EV w X b env O (.bl q)) : TV w X (.Compare a [.NotEq] [b] pos) env O (!decide (p = q)) := (tv_neV rfl ha hb).to (by rw [dec_bl])
/-- a value whose data is a bool, as a test -/
theorem tv_val {p : Bool} (h : EV w X e env O (.bl p)) (he : ∀ whole, isTrue e X.env whole = (do let v ← whole; standAt e.pos; holding [v] (truthy v)) := by intro _; rfl) : TV w X e env O p := fun σ H hs Q q =>
  rt_of (pt_val pe_c he) (h σ H hs _ fun v H' l r => ⟨p, rp_bl r, q H' l⟩)
/-- None or not, of any data -/
def D.isN : D → Bool
  | .v x => decide (x = .non)
  | _ => false
theorem rp_isN {K : PySem.W.Frag} {G : Hp} {v : V} (h : Rp K G v d) : decide (v = .non) = d.isN := by cases h <;> simp [D.isN]
theorem tv_isN {j : Nat} (ha : EV w X a env O d) : TV w X (.Compare a [.Is] [.Constant .none j pos2] pos) env O d.isN := fun σ H h Q q =>
  rt_of (pt_cmpR op_isN pe_c pe_non (nomark _)) (ha σ H h _ fun v H1 l r => ⟨rfl, d.isN, by rw [rp_isN r], q H1 l⟩)
theorem tv_notN {j : Nat} (ha : EV w X a env O d) : TV w X (.Compare a [.IsNot] [.Constant .none j pos2] pos) env O (!d.isN) := fun σ H h Q q =>
  rt_of (pt_cmpR op_notN pe_c pe_non (nomark _)) (ha σ H h _ fun v H1 l r => ⟨rfl, !d.isN, by rw [rp_isN r], q H1 l⟩)

/-! ### and, or, not, if-else -/
theorem tv_not {p : Bool} (h : TV w X a env O p) : TV w X (.UnaryOp .Not a pos) env O (!p) := fun σ H hs Q q => rt_of (pt_not pt_c) (h σ H hs _ fun H' l => q H' l)
theorem ev_not {p : Bool} (h : EV w X a env O (.bl p)) : EV w X (.UnaryOp .Not a pos) env O (.bl (!p)) := fun σ H hs Q q => re_of (pe_not pe_c) (h σ H hs _ fun v H' l r => ⟨p, rp_bl r, q _ H' l (.v rfl)⟩)
/-- a chain of tests (the way of a chain's rest) -/
def RW (X : Cx) (e : Expr) : TT := fun σ H Q => ∀ (whole : Sem Value) (pins : List (Addr × Obj)) (s : Shared), Inv X pins σ H s → wpAny (model X.prog X.w) X.A (isTrue e X.env whole) (TP X pins σ Q) X.xe s
theorem pw_c : PW X e (RW X e) := ⟨fun wh pins s σ H Q I h => h wh pins s I⟩
theorem rw_of {tt : TT} {Q : Bool → Hp → Prop} (h : PW X e tt) (q : tt σ H Q) : RW X e σ H Q := fun wh pins s I => h.run wh pins s σ H Q I q
def WV (w : Wd) (X : Cx) (e : Expr) (env : En) (O : Os) (b : Bool) : Prop := ∀ σ H, Sd w env O σ H → ∀ Q : Bool → Hp → Prop, (∀ H', Lv w env O σ H H' → Q b H') → RW X e σ H Q
theorem WV.tv {p : Bool} (h : WV w X e env O p) : TV w X e env O p := fun σ H hs Q q => fun pins s I => h σ H hs Q q _ pins s I
theorem wv_and1 {p : Bool} (h : TV w X a env O p) : WV w X (.BoolOp .And [a] pos) env O p := fun σ H hs Q q => rw_of (pw_and1 pt_c) (h σ H hs Q q)
theorem wv_or1 {p : Bool} (h : TV w X a env O p) : WV w X (.BoolOp .Or [a] pos) env O p := fun σ H hs Q q => rw_of (pw_or1 pt_c) (h σ H hs Q q)
theorem wv_and {p q' : Bool} {rest : List Expr} (h : TV w X a env O p) (h2 : p = true → WV w X (.BoolOp .And (b :: rest) pos) env O q') : WV w X (.BoolOp .And (a :: b :: rest) pos) env O (p && q') := fun σ H hs Q q =>
  rw_of (pw_and pt_c pw_c) (h σ H hs _ fun H' l => by
    cases p with
    | true => exact h2 rfl σ H' l.1 Q fun H2 l2 => q H2 (l.trans l2)
    | false => exact q H' l)
theorem wv_or {p q' : Bool} {rest : List Expr} (h : TV w X a env O p) (h2 : p = false → WV w X (.BoolOp .Or (b :: rest) pos) env O q') : WV w X (.BoolOp .Or (a :: b :: rest) pos) env O (p || q') := fun σ H hs Q q =>
  rw_of (pw_or pt_c pw_c) (h σ H hs _ fun H' l => by
    cases p with
    | false => exact h2 rfl σ H' l.1 Q fun H2 l2 => q H2 (l.trans l2)
    | true => exact q H' l)
theorem tv_and2 {p q' : Bool} (h : TV w X a env O p) (h2 : p = true → TV w X b env O q') : TV w X (.BoolOp .And [a, b] pos) env O (p && q') := (wv_and h fun z => wv_and1 (h2 z)).tv
theorem tv_or2 {p q' : Bool} (h : TV w X a env O p) (h2 : p = false → TV w X b env O q') : TV w X (.BoolOp .Or [a, b] pos) env O (p || q') := (wv_or h fun z => wv_or1 (h2 z)).tv
theorem tv_and3 {p q' r : Bool} (h : TV w X a env O p) (h2 : p = true → TV w X b env O q') (h3 : p = true → q' = true → TV w X c env O r) : TV w X (.BoolOp .And [a, b, c] pos) env O (p && (q' && r)) := (wv_and h fun z => wv_and (h2 z) fun y => wv_and1 (h3 z y)).tv
theorem tv_or3 {p q' r : Bool} (h : TV w X a env O p) (h2 : p = false → TV w X b env O q') (h3 : p = false → q' = false → TV w X c env O r) : TV w X (.BoolOp .Or [a, b, c] pos) env O (p || (q' || r)) := (wv_or h fun z => wv_or (h2 z) fun y => wv_or1 (h3 z y)).tv
/-- the same as values (bools) -/
theorem ev_one {op : BoolOp} (h : EV w X a env O d) : EV w X (.BoolOp op [a] pos) env O d := fun σ H hs Q q => re_of (pe_one pe_c) (h σ H hs Q q)
theorem ev_andC {p q' : Bool} {rest : List Expr} (h : EV w X a env O (.bl p)) (h2 : p = true → EV w X (.BoolOp .And (b :: rest) pos) env O (.bl q')) : EV w X (.BoolOp .And (a :: b :: rest) pos) env O (.bl (p && q')) := fun σ H hs Q q =>
  re_of (pe_and pe_c pe_c) (h σ H hs _ fun v H' l r => ⟨p, rp_bl r, by
    cases p with
    | true => exact h2 rfl σ H' l.1 Q fun v H2 l2 r2 => q v H2 (l.trans l2) r2
    | false => exact q _ H' l (.v rfl)⟩)
theorem ev_orC {p q' : Bool} {rest : List Expr} (h : EV w X a env O (.bl p)) (h2 : p = false → EV w X (.BoolOp .Or (b :: rest) pos) env O (.bl q')) : EV w X (.BoolOp .Or (a :: b :: rest) pos) env O (.bl (p || q')) := fun σ H hs Q q =>
  re_of (pe_or pe_c pe_c) (h σ H hs _ fun v H' l r => ⟨p, rp_bl r, by
    cases p with
    | false => exact h2 rfl σ H' l.1 Q fun v H2 l2 r2 => q v H2 (l.trans l2) r2
    | true => exact q _ H' l (.v rfl)⟩)
theorem ev_and2 {p q' : Bool} (h : EV w X a env O (.bl p)) (h2 : p = true → EV w X b env O (.bl q')) : EV w X (.BoolOp .And [a, b] pos) env O (.bl (p && q')) := ev_andC h fun z => ev_one (h2 z)
theorem ev_or2 {p q' : Bool} (h : EV w X a env O (.bl p)) (h2 : p = false → EV w X b env O (.bl q')) : EV w X (.BoolOp .Or [a, b] pos) env O (.bl (p || q')) := ev_orC h fun z => ev_one (h2 z)
theorem ev_if {p : Bool} (h : TV w X c env O p) (h1 : p = true → EV w X a env O d) (h2 : p = false → EV w X b env O d) : EV w X (.IfExp c a b pos) env O d := fun σ H hs Q q =>
  re_of (pe_ifExp pt_c pe_c pe_c) (h σ H hs _ fun H' l => by
    cases p with
    | true => exact h1 rfl σ H' l.1 Q fun v H2 l2 r2 => q v H2 (l.trans l2) r2
    | false => exact h2 rfl σ H' l.1 Q fun v H2 l2 r2 => q v H2 (l.trans l2) r2)
/-- least <= x <= most -/
theorem ev_chain2 {op op' : CmpOp} {x y z : V} {r r' : R2} {p q' : Bool} (ho : OpR X (compareOp op) r) (ho' : OpR X (compareOp op') r') (ha : EV w X a env O (.v x)) (hb : EV w X b env O (.v y)) (hc : EV w X c env O (.v z))
    (hr : ∀ H (Q : VK), Q (.bl p) H → r x y H Q) (hr' : ∀ H (Q : VK), Q (.bl q') H → r' y z H Q) (hm : lastMarks [op, op'] [b, c] = false) : EV w X (.Compare a [op, op'] [b, c] pos) env O (.bl (p && q')) := fun σ H h Q q =>
  re_of (pe_chain ho ho' pe_c pe_c pe_c hm) (ha σ H h _ fun v H1 l1 r1 => hb σ H1 l1.1 _ fun u H2 l2 r2 => by
    rw [rp_v r1, rp_v r2]
    refine hr H2 _ ⟨p, rfl, ?_⟩
    cases p with
    | true =>
      refine iteT (hc σ H2 l2.1 _ fun t H3 l3 r3 => ?_)
      rw [rp_v r3]
      exact hr' H3 Q (q _ H3 ((l1.trans l2).trans l3) (.v rfl))
    | false => exact iteF (q _ H2 (l1.trans l2) (.v rfl)))
theorem ev_chainLL {k : Int} (ha : EV w X a env O (.int i)) (hb : EV w X b env O (.int j)) (hc : EV w X c env O (.int k)) (hm : lastMarks [.LtE, .LtE] [b, c] = false := by with_unfolding_all rfl) : EV w X (.Compare a [.LtE, .LtE] [b, c] pos) env O (.bl (decide (i ≤ j) && decide (j ≤ k))) := ev_chain2 op_le op_le ha hb hc (fun H Q q => ⟨i, j, rfl, rfl, q⟩) (fun H Q q => ⟨j, k, rfl, rfl, q⟩) hm
theorem ev_chainLl {k : Int} (ha : EV w X a env O (.int i)) (hb : EV w X b env O (.int j)) (hc : EV w X c env O (.int k)) (hm : lastMarks [.LtE, .Lt] [b, c] = false := by with_unfolding_all rfl) : EV w X (.Compare a [.LtE, .Lt] [b, c] pos) env O (.bl (decide (i ≤ j) && decide (j < k))) := ev_chain2 op_le op_lt ha hb hc (fun H Q q => ⟨i, j, rfl, rfl, q⟩) (fun H Q q => ⟨j, k, rfl, rfl, q⟩) hm
end
end Mp
end
section
set_option Elab.async false
set_option linter.all false
set_option maxRecDepth 100000
set_option maxHeartbeats 4000000
/-! Mp3: lists, tuples, built-ins, calls, comprehensions. -/
namespace Mp
open PySem PySem.Spec PyProof.Rows L2

theorem RpA.atI {K : PySem.W.Frag} {G : Hp} {vs : List V} {ds : List D} (h : RpA K G vs ds) {i : Int} {d : D} (e : atI ds i = some d) : ∃ v, L2.atI vs i = some v ∧ Rp K G v d := by
  unfold L2.atI at e ⊢
  rw [h.length]
  cases q : ixN ds.length i with
  | none => rw [q] at e; cases e
  | some j => rw [q] at e; exact h.get e
theorem atI_map {α β : Type} (f : α → β) {xs : List α} {i : Int} {a : α} (h : atI xs i = some a) : atI (xs.map f) i = some (f a) := by
  unfold L2.atI at h ⊢
  rw [List.length_map]
  cases q : ixN xs.length i with
  | none => rw [q] at h; cases h
  | some j =>
    rw [q] at h
    show (xs.map f)[j]? = _
    rw [List.getElem?_map, show xs[j]? = some a from h]
    rfl
/-- the items of xs[lo:hi] -/
def cut {α : Type} (xs : List α) (lo hi : Option Int) : List α := (xs.drop (HT.sIx xs.length 0 lo)).take (HT.sIx xs.length xs.length hi - HT.sIx xs.length 0 lo)
theorem cut_map {α β : Type} (f : α → β) (xs : List α) (lo hi : Option Int) : cut (xs.map f) lo hi = (cut xs lo hi).map f := by
  unfold cut
  rw [List.length_map, List.map_take, List.map_drop]
theorem RpA.cut {K : PySem.W.Frag} {G : Hp} {vs : List V} {ds : List D} (h : RpA K G vs ds) (lo hi : Option Int) : RpA K G (cutV vs lo hi) (Mp.cut ds lo hi) := by
  unfold cutV Mp.cut
  rw [h.length]
  exact (h.drop _).take _
theorem cut_whole {α : Type} (xs : List α) {lo hi : Option Int} (h : HT.sIx xs.length 0 lo = 0 ∧ HT.sIx xs.length xs.length hi = xs.length) : cut xs lo hi = xs := by
  unfold cut
  rw [h.1, h.2]
  simp
abbrev iL (l : List Int) : List D := l.map D.int
theorem iL_v (l : List Int) : iL l = (l.map V.int).map D.v := by simp [iL]
theorem RpA.ints {K : PySem.W.Frag} {G : Hp} {vs : List V} {l : List Int} (h : RpA K G vs (iL l)) : vs = l.map V.int := by
  rw [iL_v] at h
  exact h.flats
theorem RpA.bools {K : PySem.W.Frag} {G : Hp} {vs : List V} {l : List Bool} (h : RpA K G vs (l.map D.bl)) : vs = l.map V.bl := by
  rw [show l.map D.bl = (l.map V.bl).map D.v by simp] at h
  exact h.flats
theorem RpA.of_ints {K : PySem.W.Frag} {G : Hp} (l : List Int) : RpA K G (l.map V.int) (iL l) := by
  rw [iL_v]
  exact .of_flats (by simp [List.all_eq_true, flat])

section
variable {w : Wd} {X : Cx} {env : En} {O : Os} {σ : L2.St} {H H1 H2 H' : Hp} {e a b c : Expr} {es : List Expr} {p pos pos2 : Pos} {d d1 d2 : D} {i j : Int} {ds es' : List D}
/-! ### argument lists, displays -/
theorem av_nil : AV w X [] env O [] := fun σ H h Q q => ra_of pa_nil (q [] H (.refl h) .nil)
theorem av_cons (ha : EV w X a env O d) (hr : AV w X es env O ds) (hs : starEach (a :: es) X.env = (false, eval a X.env) :: starEach es X.env := by rfl) : AV w X (a :: es) env O (d :: ds) := fun σ H h Q q =>
  ra_of (pa_cons pe_c pa_c hs) (ha σ H h _ fun v H1 l1 r1 => hr σ H1 l1.1 _ fun vs H2 l2 r2 => q (v :: vs) H2 (l1.trans l2) (.cons (r1.mono l2.ex) r2))
theorem av_starL (ha : EL w X a env O ds) (hr : AV w X es env O es') (hs : starEach (.Starred a p :: es) X.env = (true, eval a X.env) :: starEach es X.env := by rfl) : AV w X (.Starred a p :: es) env O (ds ++ es') := fun σ H h Q q =>
  ra_of (StX.pa_star pe_c pa_c hs) (ha σ H h _ fun v xs H1 l1 nb e1 r1 => ⟨v, xs, rfl, .inr (.inl (.inl e1)), hr σ H1 l1.1 _ fun vs H2 l2 r2 => q _ H2 (l1.trans l2) ((r1.mono l2.ex).app r2)⟩)
theorem av_starU (hk : X.K = w.K) (ha : EU w X a env O ds) (hr : AV w X es env O es') (hs : starEach (.Starred a p :: es) X.env = (true, eval a X.env) :: starEach es X.env := by rfl) : AV w X (.Starred a p :: es) env O (ds ++ es') := fun σ H h Q q =>
  ra_of (StX.pa_star pe_c pa_c hs) (ha σ H h _ fun v xs H1 l1 e1 r1 => ⟨v, xs, rfl, .inl (by rw [hk]; exact ex_t (mn_le _ _) e1), hr σ H1 l1.1 _ fun vs H2 l2 r2 => q _ H2 (l1.trans l2) ((r1.mono l2.ex).app r2)⟩)
theorem Lv.newT (h : Sd w env O σ H) {q : Addr} {xs : List V} (hq : H q = none) (r : RpA w.K (w.G O H) xs ds) : Rp w.K (w.G O (upd H q (.tup xs))) (.ref q) (.tup ds) :=
  .tup (Lv.G_new h hq) (r.mono (h.new hq).2)
theorem Lv.newL (h : Sd w env O σ H) {q : Addr} {xs : List V} (hq : H q = none) (r : RpA w.K (w.G O H) xs ds) : Rp w.K (w.G O (upd H q (.lst xs))) (.ref q) (.lst ds) :=
  .lst (Lv.G_new h hq) (r.mono (h.new hq).2)
theorem ev_tup {k : Nat} (h : AV w X es env O ds) (hz : ds.length ≤ sizeLine) : EV w X (.Tuple es k pos) env O (.tup ds) := fun σ H hs Q q =>
  re_of (pe_tup pa_c) (h σ H hs _ fun vs H1 l1 r1 => ⟨by rw [r1.length]; exact hz, fun t ht => q _ _ (l1.trans (Lv.new l1.1 ht)) (Lv.newT l1.1 ht r1)⟩)
theorem ev_lst (h : AV w X es env O ds) (hz : ds.length ≤ sizeLine) : EV w X (.List es pos) env O (.lst ds) := fun σ H hs Q q =>
  re_of (pe_lst pa_c) (h σ H hs _ fun vs H1 l1 r1 => ⟨by rw [r1.length]; exact hz, fun t ht => q _ _ (l1.trans (Lv.new l1.1 ht)) (Lv.newL l1.1 ht r1)⟩)

/-! ### subscripts -/
theorem ev_ixL (ha : EL w X a env O ds) (hb : EV w X b env O (.int i)) (hi : atI ds i = some d) (hs : PlainIx b := by exact fun _ _ => rfl) : EV w X (.Subscript a b pos) env O d := fun σ H h Q q =>
  re_of (pe_ix ix_list pe_c pe_c hs) (ha σ H h _ fun v xs H1 l1 nb e1 r1 => hb σ H1 l1.1 _ fun u H2 l2 r2 => by
    rw [rp_int r2]
    obtain ⟨y, hy, ry⟩ := r1.atI hi
    exact ⟨v, xs, i, y, rfl, rfl, .inl (.inl (l2.2 v _ nb e1)), hy, q y H2 (l1.trans l2) (ry.mono l2.ex)⟩)
theorem ev_ixU (hk : X.K = w.K) (ha : EU w X a env O ds) (hb : EV w X b env O (.int i)) (hi : atI ds i = some d) (hs : PlainIx b := by exact fun _ _ => rfl) : EV w X (.Subscript a b pos) env O d := fun σ H h Q q =>
  re_of (pe_ix ix_tup pe_c pe_c hs) (ha σ H h _ fun v xs H1 l1 e1 r1 => hb σ H1 l1.1 _ fun u H2 l2 r2 => by
    rw [rp_int r2]
    obtain ⟨y, hy, ry⟩ := r1.atI hi
    exact ⟨v, xs, i, y, rfl, rfl, by rw [hk]; exact ex_t (mn_le _ _) (ex_e l2.ex e1), hy, q y H2 (l1.trans l2) (ry.mono l2.ex)⟩)
/-- a part of a slice -/
def OV (w : Wd) (X : Cx) (e : Option Expr) (env : En) (O : Os) (k : Option Int) : Prop := ∃ t, PO X e t ∧ ∀ σ H, Sd w env O σ H → ∀ Q : Option Int → Hp → Prop, (∀ H', Lv w env O σ H H' → Q k H') → t σ H Q
theorem ov_none : OV w X none env O none := ⟨_, po_none, fun σ H h Q q => q H (.refl h)⟩
theorem ov_some (h : EV w X a env O (.int i)) : OV w X (some a) env O (some i) := ⟨_, po_some pe_c, fun σ H hs Q q => h σ H hs _ fun v H1 l r => ⟨i, rp_int r, q H1 l⟩⟩
theorem ev_slL {lo hi : Option Expr} {kl kh : Option Int} (ha : EL w X a env O ds) (hl : OV w X lo env O kl) (hh : OV w X hi env O kh) : EV w X (.Subscript a (.Slice lo hi none pos2) pos) env O (.lst (cut ds kl kh)) := fun σ H h Q q => by
  obtain ⟨t1, p1, q1⟩ := hl
  obtain ⟨t2, p2, q2⟩ := hh
  exact re_of (pe_slice sl_list pe_c p1 p2) (ha σ H h _ fun v xs H1 l1 nb e1 r1 => q1 σ H1 l1.1 _ fun H2 l2 => q2 σ H2 l2.1 _ fun H3 l3 => ⟨v, xs, rfl, .inl (.inl ((l2.trans l3).2 v _ nb e1)), fun t ht =>
    q _ _ ((l1.trans (l2.trans l3)).trans (Lv.new l3.1 ht)) (Lv.newL l3.1 ht ((r1.mono (l2.trans l3).ex).cut kl kh))⟩)
theorem ev_slU (hk : X.K = w.K) {lo hi : Option Expr} {kl kh : Option Int} (ha : EU w X a env O ds) (hl : OV w X lo env O kl) (hh : OV w X hi env O kh) : EV w X (.Subscript a (.Slice lo hi none pos2) pos) env O (.tup (cut ds kl kh)) := fun σ H h Q q => by
  obtain ⟨t1, p1, q1⟩ := hl
  obtain ⟨t2, p2, q2⟩ := hh
  refine re_of (pe_slice sl_tupA pe_c p1 p2) (ha σ H h _ fun v xs H1 l1 e1 r1 => q1 σ H1 l1.1 _ fun H2 l2 => q2 σ H2 l2.1 _ fun H3 l3 => ⟨v, xs, rfl, by rw [hk]; exact ex_t (mn_le _ _) (ex_e (l2.trans l3).ex e1), fun hw => ?_, fun hw t ht => ?_⟩)
  · refine q _ _ (l1.trans (l2.trans l3)) (.tup (ex_e (l2.trans l3).ex e1) ?_)
    rw [r1.length] at hw
    rw [cut_whole ds hw]
    exact r1.mono (l2.trans l3).ex
  · exact q _ _ ((l1.trans (l2.trans l3)).trans (Lv.new l3.1 ht)) (Lv.newT l3.1 ht ((r1.mono (l2.trans l3).ex).cut kl kh))

/-! ### + of lists and tuples, in, == -/
theorem ev_catL (ha : EL w X a env O ds) (hb : EL w X b env O es') (hz : ds.length + es'.length ≤ sizeLine) : EV w X (.BinOp a .Add b pos) env O (.lst (ds ++ es')) := fun σ H h Q q =>
  re_of (pe_op op_cat pe_c pe_c) (ha σ H h _ fun v xs H1 l1 nb e1 r1 => hb σ H1 l1.1 _ fun u ys H2 l2 nb2 e2 r2 =>
    ⟨v, u, xs, ys, rfl, rfl, l2.2 v _ nb e1, e2, by rw [r1.length, r2.length]; exact hz, fun t ht => q _ _ ((l1.trans l2).trans (Lv.new l2.1 ht)) (Lv.newL l2.1 ht ((r1.mono l2.ex).app r2))⟩)
theorem ev_catU (hk : X.K = w.K) (ha : EU w X a env O ds) (hb : EU w X b env O es') (hz : ds.length + es'.length ≤ sizeLine) : EV w X (.BinOp a .Add b pos) env O (.tup (ds ++ es')) := fun σ H h Q q =>
  re_of (pe_op op_catA pe_c pe_c) (ha σ H h _ fun v xs H1 l1 e1 r1 => hb σ H1 l1.1 _ fun u ys H2 l2 e2 r2 => by
    have r1' := r1.mono l2.ex
    refine ⟨v, u, xs, ys, rfl, rfl, by rw [hk]; exact ex_t (mn_le _ _) (ex_e l2.ex e1), by rw [hk]; exact ex_t (mn_le _ _) e2, by rw [r1.length, r2.length]; exact hz, fun hx => ?_, fun hx hy => ?_, fun hx hy t ht => ?_⟩
    · subst hx
      cases ds with
      | nil => exact q _ _ (l1.trans l2) (.tup e2 r2)
      | cons _ _ => cases r1
    · subst hy
      cases es' with
      | nil => rw [List.append_nil] at q; exact q _ _ (l1.trans l2) (.tup (ex_e l2.ex e1) r1')
      | cons _ _ => cases r2
    · exact q _ _ ((l1.trans l2).trans (Lv.new l2.1 ht)) (Lv.newT l2.1 ht (r1'.app r2)))
theorem inV_int (x : Int) (l : List Int) : inV (.int x) (l.map V.int) = decide (x ∈ l) := by
  unfold inV
  induction l with
  | nil => simp
  | cons y l ih =>
    rw [List.map_cons, List.any_cons, ih]
    by_cases h : x = y
    · subst h; simp [eqV]
    · simp [eqV, h, Ne.symm h]
end
end Mp
end
section
set_option Elab.async false
set_option linter.all false
set_option maxRecDepth 100000
set_option maxHeartbeats 4000000
/-! Mp4: ==, in, built-ins, calls. -/
namespace Mp
open PySem PySem.Spec PyProof.Rows L2

def vP : V → PyData
  | .bl b => .bool b
  | .int i => .int i
  | .str s => .str s
  | _ => .none
mutual
def D.py : D → PyData
  | .v x => vP x
  | .lst xs => .list (D.pyA xs)
  | .tup xs => .tuple (D.pyA xs)
  | .dT _ => .none
def D.pyA : List D → List PyData
  | [] => []
  | d :: ds => d.py :: D.pyA ds
end
mutual
def D.noD : D → Bool
  | .v x => flat0 x
  | .lst xs => D.noDA xs
  | .tup xs => D.noDA xs
  | .dT _ => false
def D.noDA : List D → Bool
  | [] => true
  | d :: ds => d.noD && D.noDA ds
end
mutual
theorem Rp.dp {K : PySem.W.Frag} {G : Hp} : ∀ {d : D} {v : V}, Rp K G v d → d.noD = true → Dp K G v d.py
  | .v x, v, h, n => by
    cases h
    cases x with
    | non => exact .non
    | bl b => exact .bl b
    | int i => exact .int i
    | str s => exact .str s
    | byt _ => simp [D.noD, flat0] at n
    | flt _ => simp [D.noD, flat0] at n
    | ref _ => simp [D.noD, flat0] at n
    | ty _ => simp [D.noD, flat0] at n
  | .lst xs, v, h, n => by cases h with | lst h1 r => exact .lst (.inl (.inl h1)) (RpA.dp r n)
  | .tup xs, v, h, n => by cases h with | tup h1 r => exact .tup (.inl (.inl h1)) (RpA.dp r n)
  | .dT _, v, h, n => by simp [D.noD] at n
theorem RpA.dp {K : PySem.W.Frag} {G : Hp} : ∀ {ds : List D} {vs : List V}, RpA K G vs ds → D.noDA ds = true → DpAll K G vs (D.pyA ds)
  | [], vs, h, n => by cases h; exact .nil
  | d :: ds, vs, h, n => by
    simp only [D.noDA, Bool.and_eq_true] at n
    cases h with | cons h1 r => exact .cons (Rp.dp h1 n.1) (RpA.dp r n.2)
end
/-- an encoding that == tells apart as Lean does -/
structure EqE {α : Type} [DecidableEq α] (f : α → D) (n : Nat) : Prop where
  nd : ∀ x, (f x).noD = true
  lay : ∀ x, (f x).py.canLay0 = true
  dep : ∀ x, (f x).py.depth ≤ n
  eqv : ∀ x y, PyData.eqv (f x).py (f y).py = decide (x = y)
theorem EqE.sh {α : Type} [DecidableEq α] {f : α → D} {n : Nat} (h : EqE f n) (hn : n ≤ 64) (x : α) : SeqAt.shaped (f x).py = true := by
  show ((f x).py.canLay0 && decide ((f x).py.depth ≤ 64)) = true
  rw [h.lay x, Bool.true_and]
  exact decide_eq_true (Nat.le_trans (h.dep x) hn)
theorem eqe_int : EqE D.int 0 := ⟨fun x => rfl, fun x => by simp [D.py, vP, PyData.canLay0], fun x => by simp [D.py, vP, PyData.depth], fun x y => by
  simp only [D.py, vP, PyData.eqv]
  by_cases h : x = y
  · subst h; simp
  · simp [h]⟩
theorem eqe_bl : EqE D.bl 0 := ⟨fun x => rfl, fun x => by simp [D.py, vP, PyData.canLay0], fun x => by simp [D.py, vP, PyData.depth], fun x y => by
  simp only [D.py, vP, PyData.eqv]
  cases x <;> cases y <;> rfl⟩
section
variable {α : Type} [DecidableEq α] {f : α → D} {n : Nat}
theorem eqA_nd (h : EqE f n) : ∀ l : List α, D.noDA (l.map f) = true
  | [] => rfl
  | x :: l => by
    simp only [List.map_cons, D.noDA]
    rw [h.nd x, eqA_nd h l]
    rfl
theorem eqA_lay (h : EqE f n) : ∀ l : List α, PyData.canLayAll0 (D.pyA (l.map f)) = true
  | [] => rfl
  | x :: l => by
    simp only [List.map_cons, D.pyA, PyData.canLayAll0]
    rw [h.lay x, eqA_lay h l]
    rfl
theorem eqA_dep (h : EqE f n) : ∀ l : List α, PyData.depthAll (D.pyA (l.map f)) ≤ n
  | [] => by simp [D.pyA, PyData.depthAll]
  | x :: l => by
    have h1 := h.dep x
    have h2 := eqA_dep h l
    simp only [List.map_cons, D.pyA, PyData.depthAll]
    omega
theorem eqA_eqv (h : EqE f n) : ∀ l m : List α, PyData.eqvAll (D.pyA (l.map f)) (D.pyA (m.map f)) = decide (l = m)
  | [], [] => by simp [D.pyA, PyData.eqvAll]
  | [], y :: m => by simp [D.pyA, PyData.eqvAll]
  | x :: l, [] => by simp [D.pyA, PyData.eqvAll]
  | x :: l, y :: m => by
    simp only [List.map_cons, D.pyA, PyData.eqvAll]
    rw [h.eqv x y, eqA_eqv h l m]
    by_cases h1 : x = y
    · by_cases h2 : l = m
      · simp [h1, h2]
      · simp [h1, h2]
    · simp [h1]
theorem eqe_tup (h : EqE f n) : EqE (fun l : List α => D.tup (l.map f)) (n + 1) := ⟨fun l => by simp only [D.noD]; exact eqA_nd h l, fun l => by simp only [D.py, PyData.canLay0]; exact eqA_lay h l, fun l => by
  have := eqA_dep h l
  simp only [D.py, PyData.depth]
  omega, fun l m => by simp only [D.py, PyData.eqv]; exact eqA_eqv h l m⟩
theorem eqe_lst (h : EqE f n) : EqE (fun l : List α => D.lst (l.map f)) (n + 1) := ⟨fun l => by simp only [D.noD]; exact eqA_nd h l, fun l => by simp only [D.py, PyData.canLay0]; exact eqA_lay h l, fun l => by
  have := eqA_dep h l
  simp only [D.py, PyData.depth]
  omega, fun l m => by simp only [D.py, PyData.eqv]; exact eqA_eqv h l m⟩
end
abbrev tI (l : List Int) : D := .tup (iL l)
abbrev lI (l : List Int) : D := .lst (iL l)
theorem eqe_tI : EqE tI 1 := eqe_tup eqe_int
theorem eqe_lI : EqE lI 1 := eqe_lst eqe_int

section
variable {w : Wd} {X : Cx} {env : En} {O : Os} {σ : L2.St} {H H1 H2 H' : Hp} {e a b c : Expr} {es : List Expr} {p pos pos2 : Pos} {d d1 d2 : D} {i j : Int} {ds es' : List D}
/-- data in the whole heap -/
def EF (w : Wd) (X : Cx) (e : Expr) (env : En) (O : Os) (d : D) : Prop := ∀ σ H, Sd w env O σ H → ∀ Q : VK, (∀ v H', Lv w env O σ H H' → (∀ H2, Lv w env O σ H' H2 → Rp w.K H2 v d) → Q v H') → RE X e σ H Q
theorem EV.f (h : EV w X e env O d) : EF w X e env O d := fun σ H hs Q q => h σ H hs Q fun v H' l r => q v H' l fun H2 l2 => (r.mono l2.ex).mono (mn_le _ _)
theorem EL.f (h : EL w X e env O ds) : EF w X e env O (.lst ds) := fun σ H hs Q q => h σ H hs Q fun v xs H' l nb e r => q _ H' l fun H2 l2 => .lst (l2.2 v _ nb e) ((r.mono l2.ex).mono (mn_le _ _))
theorem ev_eqE {α : Type} [DecidableEq α] {f : α → D} {n : Nat} {x y : α} (hk : X.K = w.K) (hu : X.A.units + 64 < cLine) (he : EqE f n) (hn : n ≤ 64) (ha : EF w X a env O (f x)) (hb : EF w X b env O (f y)) : EV w X (.Compare a [.Eq] [b] pos) env O (.bl (decide (x = y))) := fun σ H h Q q =>
  re_of (pe_cmpR (op_eqD hu) pe_c pe_c (nomark _)) (ha σ H h _ fun v H1 l1 r1 => hb σ H1 l1.1 _ fun u H2 l2 r2 => ⟨(f x).py, (f y).py, by rw [hk]; exact (r1 H2 l2).dp (he.nd x), by rw [hk]; exact (r2 H2 (.refl l2.1)).dp (he.nd y), he.sh hn x, he.sh hn y, by
    rw [he.eqv]
    exact q _ H2 (l1.trans l2) (.v rfl)⟩)
theorem ev_neE {α : Type} [DecidableEq α] {f : α → D} {n : Nat} {x y : α} (hk : X.K = w.K) (hu : X.A.units + 64 < cLine) (he : EqE f n) (hn : n ≤ 64) (ha : EF w X a env O (f x)) (hb : EF w X b env O (f y)) : EV w X (.Compare a [.NotEq] [b] pos) env O (.bl (!decide (x = y))) := fun σ H h Q q =>
  re_of (pe_cmpR (op_neD hu) pe_c pe_c (nomark _)) (ha σ H h _ fun v H1 l1 r1 => hb σ H1 l1.1 _ fun u H2 l2 r2 => ⟨(f x).py, (f y).py, by rw [hk]; exact (r1 H2 l2).dp (he.nd x), by rw [hk]; exact (r2 H2 (.refl l2.1)).dp (he.nd y), he.sh hn x, he.sh hn y, by
    rw [he.eqv]
    exact q _ H2 (l1.trans l2) (.v rfl)⟩)
theorem tv_eqE {α : Type} [DecidableEq α] {f : α → D} {n : Nat} {x y : α} (hk : X.K = w.K) (hu : X.A.units + 64 < cLine) (he : EqE f n) (hn : n ≤ 64) (ha : EF w X a env O (f x)) (hb : EF w X b env O (f y)) : TV w X (.Compare a [.Eq] [b] pos) env O (decide (x = y)) := fun σ H h Q q =>
  rt_of (pt_cmpR (op_eqD hu) pe_c pe_c (nomark _)) (ha σ H h _ fun v H1 l1 r1 => hb σ H1 l1.1 _ fun u H2 l2 r2 => ⟨(f x).py, (f y).py, by rw [hk]; exact (r1 H2 l2).dp (he.nd x), by rw [hk]; exact (r2 H2 (.refl l2.1)).dp (he.nd y), he.sh hn x, he.sh hn y, by
    rw [he.eqv]
    exact ⟨_, rfl, q H2 (l1.trans l2)⟩⟩)
theorem tv_neE {α : Type} [DecidableEq α] {f : α → D} {n : Nat} {x y : α} (hk : X.K = w.K) (hu : X.A.units + 64 < cLine) (he : EqE f n) (hn : n ≤ 64) (ha : EF w X a env O (f x)) (hb : EF w X b env O (f y)) : TV w X (.Compare a [.NotEq] [b] pos) env O (!decide (x = y)) := fun σ H h Q q =>
  rt_of (pt_cmpR (op_neD hu) pe_c pe_c (nomark _)) (ha σ H h _ fun v H1 l1 r1 => hb σ H1 l1.1 _ fun u H2 l2 r2 => ⟨(f x).py, (f y).py, by rw [hk]; exact (r1 H2 l2).dp (he.nd x), by rw [hk]; exact (r2 H2 (.refl l2.1)).dp (he.nd y), he.sh hn x, he.sh hn y, by
    rw [he.eqv]
    exact ⟨_, rfl, q H2 (l1.trans l2)⟩⟩)
/-- x in l, l a list of such -/
theorem anyE {α : Type} [DecidableEq α] {f : α → D} {n : Nat} (he : EqE f n) (x : α) : ∀ l : List α, ((D.pyA (l.map f)).any fun z => PyData.eqv z (f x).py) = decide (x ∈ l)
  | [] => by simp [D.pyA]
  | y :: l => by
    simp only [List.map_cons, D.pyA, List.any_cons]
    rw [anyE he x l, he.eqv]
    by_cases h : y = x
    · subst h; simp
    · simp [h, Ne.symm h]
theorem tv_notInE {α : Type} [DecidableEq α] {f : α → D} {n : Nat} {x : α} {l : List α} (hk : X.K = w.K) (hu : X.A.units + 65 < cLine) (he : EqE f n) (hn : n + 1 ≤ 64) (ha : EF w X a env O (f x)) (hb : EF w X b env O (.lst (l.map f))) (hm : behindInMarks .NotIn b = false := by rfl) : TV w X (.Compare a [.NotIn] [b] pos) env O (!decide (x ∈ l)) := fun σ H h Q q =>
  rt_of (pt_cmpR (op_notInD hu) pe_c pe_c hm) (ha σ H h _ fun v H1 l1 r1 => hb σ H1 l1.1 _ fun u H2 l2 r2 => ⟨(f x).py, D.pyA (l.map f), by rw [hk]; exact (r1 H2 l2).dp (he.nd x), by rw [hk]; exact (r2 H2 (.refl l2.1)).dp ((eqe_lst he).nd l), he.sh (by omega) x, (eqe_lst he).sh hn l, by
    rw [anyE he]
    exact ⟨_, rfl, q H2 (l1.trans l2)⟩⟩)
/-- ints in a list or tuple of ints -/
theorem flats_int (l : List Int) : (l.map V.int).all flatV = true := by simp [List.all_eq_true, flatV]
theorem in_intsU {neg : Bool} {l : List Int} (hk : X.K = w.K) (ha : EV w X a env O (.int i)) (hb : EU w X b env O (iL l)) (σ : L2.St) (H : Hp) (h : Sd w env O σ H) (Q : VK) (q : ∀ H', Lv w env O σ H H' → Q (.bl (if neg then !decide (i ∈ l) else decide (i ∈ l))) H') : tOp (rIn X.K neg) (RE X a) (RE X b) σ H Q :=
  ha σ H h _ fun v H1 l1 r1 => hb σ H1 l1.1 _ fun u ys H2 l2 e2 r2 => by
    rw [rp_int r1]
    refine ⟨u, ys, rfl, .inr (by rw [hk]; exact ex_t (mn_le _ _) e2), rfl, ?_, ?_⟩
    · rw [r2.ints]; exact flats_int l
    · rw [r2.ints, inV_int]
      exact q H2 (l1.trans l2)
theorem in_intsL {neg : Bool} {l : List Int} (ha : EV w X a env O (.int i)) (hb : EL w X b env O (iL l)) (σ : L2.St) (H : Hp) (h : Sd w env O σ H) (Q : VK) (q : ∀ H', Lv w env O σ H H' → Q (.bl (if neg then !decide (i ∈ l) else decide (i ∈ l))) H') : tOp (rIn X.K neg) (RE X a) (RE X b) σ H Q :=
  ha σ H h _ fun v H1 l1 r1 => hb σ H1 l1.1 _ fun u ys H2 l2 nb e2 r2 => by
    rw [rp_int r1]
    refine ⟨u, ys, rfl, .inl (.inl (.inl e2)), rfl, ?_, ?_⟩
    · rw [r2.ints]; exact flats_int l
    · rw [r2.ints, inV_int]
      exact q H2 (l1.trans l2)
theorem tv_inU {l : List Int} (hk : X.K = w.K) (ha : EV w X a env O (.int i)) (hb : EU w X b env O (iL l)) (hm : behindInMarks .In b = false := by rfl) : TV w X (.Compare a [.In] [b] pos) env O (decide (i ∈ l)) := fun σ H h Q q =>
  rt_of (pt_cmpR op_in_seq pe_c pe_c hm) (in_intsU hk ha hb σ H h _ fun H' l => ⟨_, rfl, q H' l⟩)
theorem tv_notInU {l : List Int} (hk : X.K = w.K) (ha : EV w X a env O (.int i)) (hb : EU w X b env O (iL l)) (hm : behindInMarks .NotIn b = false := by rfl) : TV w X (.Compare a [.NotIn] [b] pos) env O (!decide (i ∈ l)) := fun σ H h Q q =>
  rt_of (pt_cmpR op_notIn_seq pe_c pe_c hm) (in_intsU hk ha hb σ H h _ fun H' l => ⟨_, rfl, q H' l⟩)
theorem ev_inU {l : List Int} (hk : X.K = w.K) (ha : EV w X a env O (.int i)) (hb : EU w X b env O (iL l)) (hm : behindInMarks .In b = false := by rfl) : EV w X (.Compare a [.In] [b] pos) env O (.bl (decide (i ∈ l))) := fun σ H h Q q =>
  re_of (pe_cmpR op_in_seq pe_c pe_c hm) (in_intsU hk ha hb σ H h _ fun H' l => q _ H' l (.v rfl))
theorem tv_inL {l : List Int} (ha : EV w X a env O (.int i)) (hb : EL w X b env O (iL l)) (hm : behindInMarks .In b = false := by rfl) : TV w X (.Compare a [.In] [b] pos) env O (decide (i ∈ l)) := fun σ H h Q q =>
  rt_of (pt_cmpR op_in_seq pe_c pe_c hm) (in_intsL ha hb σ H h _ fun H' l => ⟨_, rfl, q H' l⟩)

/-! ### built-ins -/
/-- a built-in's name stands for the built-in -/
structure Bi (X : Cx) (x : Str) : Prop where
  g : Gl X x
  m : X.mg x = none
theorem ev_b1 {id : String} {x : Str} {r : List V → Hp → VK → Prop} (hc : CallR X (.builtin id) r) (hg : Gl X x) (hm : X.mg x = none) (hv : bootBuiltins x = some (.builtin id)) (q : ∀ σ H, Sd w env O σ H → ∀ Q : VK, (∀ v H', Lv w env O σ H H' → Rp w.K (w.G O H') v d → Q v H') → tCB r (tCons (RE X a) tNil) σ H Q)
    (hn : x ≠ "__name__" := by decide) (hdb : (x == ("__debug__" : Str)) = false := by decide) (he : starEach [a] X.env = (false, eval a X.env) :: starEach [] X.env := by rfl) (hpl : (backTo pos (starEach [] X.env)).any (·.1) = false := by rfl) : EV w X (.Call (.Name x p) [a] [] pos) env O d := fun σ H h Q k =>
  re_of (pe_callB hc hg hm hv (pa_cons pe_c pa_nil he) hn hdb he hpl) (q σ H h Q k)
theorem ev_absC (hg : Gl X "abs") (hm : X.mg "abs" = none) (ha : EV w X a env O (.int i)) (he : starEach [a] X.env = (false, eval a X.env) :: starEach [] X.env := by rfl) : EV w X (.Call (.Name "abs" p) [a] [] pos) env O (.int (i.natAbs : Int)) := fun σ H h Q q =>
  re_of (pe_callB call_abs hg hm (by decide +kernel) (pa_cons pe_c pa_nil he) (by decide) (by decide) he rfl) (ha σ H h _ fun v H1 l r => ⟨i, by rw [rp_int r], by
    rw [show (if i < 0 then -i else i) = (i.natAbs : Int) by split <;> omega]
    exact q _ H1 l (.v rfl)⟩)
theorem ev_lenL (hg : Gl X "len") (hm : X.mg "len" = none) (ha : EL w X a env O ds) (he : starEach [a] X.env = (false, eval a X.env) :: starEach [] X.env := by rfl) : EV w X (.Call (.Name "len" p) [a] [] pos) env O (.int (ds.length : Int)) := fun σ H h Q q =>
  re_of (pe_callB call_len_seq hg hm PySem.boot_len (pa_cons pe_c pa_nil he) (by decide) (by decide) he rfl) (ha σ H h _ fun v xs H1 l nb e r => ⟨v, xs, rfl, .inl (.inl (.inl e)), by rw [r.length]; exact q _ H1 l (.v rfl)⟩)
theorem ev_lenU (hk : X.K = w.K) (hg : Gl X "len") (hm : X.mg "len" = none) (ha : EU w X a env O ds) (he : starEach [a] X.env = (false, eval a X.env) :: starEach [] X.env := by rfl) : EV w X (.Call (.Name "len" p) [a] [] pos) env O (.int (ds.length : Int)) := fun σ H h Q q =>
  re_of (pe_callB call_len_seq hg hm PySem.boot_len (pa_cons pe_c pa_nil he) (by decide) (by decide) he rfl) (ha σ H h _ fun v xs H1 l e r => ⟨v, xs, rfl, .inr (by rw [hk]; exact ex_t (mn_le _ _) e), by rw [r.length]; exact q _ H1 l (.v rfl)⟩)
theorem ev_min2 (hc : X.calm = true) (hg : Gl X "min") (hm : X.mg "min" = none) (ha : EV w X a env O (.int i)) (hb : EV w X b env O (.int j)) (he : starEach [a, b] X.env = (false, eval a X.env) :: starEach [b] X.env := by rfl) (he2 : starEach [b] X.env = (false, eval b X.env) :: starEach [] X.env := by rfl) (hpl : (backTo pos (starEach [b] X.env)).any (·.1) = false := by rfl) :
    EV w X (.Call (.Name "min" p) [a, b] [] pos) env O (.int (min i j)) := fun σ H h Q q =>
  re_of (pe_callB (call_min2 hc) hg hm (by decide +kernel) (pa_cons pe_c (pa_cons pe_c pa_nil he2) he) (by decide) (by decide) he hpl) (ha σ H h _ fun v H1 l1 r1 => hb σ H1 l1.1 _ fun u H2 l2 r2 => ⟨i, j, by rw [rp_int r1, rp_int r2], by
    rw [show (if j < i then j else i) = min i j by split <;> omega]
    exact q _ H2 (l1.trans l2) (.v rfl)⟩)
theorem ev_max2 (hc : X.calm = true) (hg : Gl X "max") (hm : X.mg "max" = none) (ha : EV w X a env O (.int i)) (hb : EV w X b env O (.int j)) (he : starEach [a, b] X.env = (false, eval a X.env) :: starEach [b] X.env := by rfl) (he2 : starEach [b] X.env = (false, eval b X.env) :: starEach [] X.env := by rfl) (hpl : (backTo pos (starEach [b] X.env)).any (·.1) = false := by rfl) :
    EV w X (.Call (.Name "max" p) [a, b] [] pos) env O (.int (max i j)) := fun σ H h Q q =>
  re_of (pe_callB (call_max2 hc) hg hm (by decide +kernel) (pa_cons pe_c (pa_cons pe_c pa_nil he2) he) (by decide) (by decide) he hpl) (ha σ H h _ fun v H1 l1 r1 => hb σ H1 l1.1 _ fun u H2 l2 r2 => ⟨i, j, by rw [rp_int r1, rp_int r2], by
    rw [show (if j > i then j else i) = max i j by split <;> omega]
    exact q _ H2 (l1.trans l2) (.v rfl)⟩)
theorem ev_sumL {l : List Int} (hc : X.calm = true) (hg : Gl X "sum") (hm : X.mg "sum" = none) (ha : EL w X a env O (iL l)) (he : starEach [a] X.env = (false, eval a X.env) :: starEach [] X.env := by rfl) : EV w X (.Call (.Name "sum" p) [a] [] pos) env O (.int l.sum) := fun σ H h Q q =>
  re_of (pe_callB (cr_sum hc) hg hm (by decide +kernel) (pa_cons pe_c pa_nil he) (by decide) (by decide) he rfl) (ha σ H h _ fun v xs H1 lv nb e r => ⟨v, l, rfl, .inl (.inl (by rw [e, r.ints])), q _ H1 lv (.v rfl)⟩)
theorem ev_all {l : List Bool} (hc : X.calm = true) (hg : Gl X "all") (hm : X.mg "all" = none) (ha : EL w X a env O (l.map D.bl)) (he : starEach [a] X.env = (false, eval a X.env) :: starEach [] X.env := by rfl) : EV w X (.Call (.Name "all" p) [a] [] pos) env O (.bl (l.all id)) := fun σ H h Q q =>
  re_of (pe_callB (cr_all hc) hg hm (by decide +kernel) (pa_cons pe_c pa_nil he) (by decide) (by decide) he rfl) (ha σ H h _ fun v xs H1 lv nb e r => ⟨v, l, rfl, .inl (.inl (by rw [e, r.bools])), q _ H1 lv (.v rfl)⟩)
theorem ev_any {l : List Bool} (hc : X.calm = true) (hg : Gl X "any") (hm : X.mg "any" = none) (ha : EL w X a env O (l.map D.bl)) (he : starEach [a] X.env = (false, eval a X.env) :: starEach [] X.env := by rfl) : EV w X (.Call (.Name "any" p) [a] [] pos) env O (.bl (l.any id)) := fun σ H h Q q =>
  re_of (pe_callB (cr_any hc) hg hm (by decide +kernel) (pa_cons pe_c pa_nil he) (by decide) (by decide) he rfl) (ha σ H h _ fun v xs H1 lv nb e r => ⟨v, l, rfl, .inl (.inl (by rw [e, r.bools])), q _ H1 lv (.v rfl)⟩)
/-- tuple(xs), list(t), list(xs) -/
theorem ev_tupL (hg : Gl X "tuple") (hm : X.mg "tuple" = none) (ha : EL w X a env O ds) (he : starEach [a] X.env = (false, eval a X.env) :: starEach [] X.env := by rfl) : EV w X (.Call (.Name "tuple" p) [a] [] pos) env O (.tup ds) := fun σ H h Q q =>
  re_of (pe_callTy call_tuple_of hg hm (by decide +kernel) (pa_cons pe_c pa_nil he) (by decide) (by decide) he rfl) (ha σ H h _ fun v xs H1 l nb e r => ⟨v, xs, rfl, .inl ⟨.inl (.inl e), fun t ht => q _ _ (l.trans (Lv.new l.1 ht)) (Lv.newT l.1 ht r)⟩⟩)
theorem ev_lstU (hk : X.K = w.K) (hg : Gl X "list") (hm : X.mg "list" = none) (ha : EU w X a env O ds) (he : starEach [a] X.env = (false, eval a X.env) :: starEach [] X.env := by rfl) : EV w X (.Call (.Name "list" p) [a] [] pos) env O (.lst ds) := fun σ H h Q q =>
  re_of (pe_callTy call_list_of hg hm (by decide +kernel) (pa_cons pe_c pa_nil he) (by decide) (by decide) he rfl) (ha σ H h _ fun v xs H1 l e r => ⟨v, xs, rfl, .inr (by rw [hk]; exact ex_t (mn_le _ _) e), fun t ht => q _ _ (l.trans (Lv.new l.1 ht)) (Lv.newL l.1 ht r)⟩)
theorem ev_lstL (hg : Gl X "list") (hm : X.mg "list" = none) (ha : EL w X a env O ds) (he : starEach [a] X.env = (false, eval a X.env) :: starEach [] X.env := by rfl) : EV w X (.Call (.Name "list" p) [a] [] pos) env O (.lst ds) := fun σ H h Q q =>
  re_of (pe_callTy call_list_of hg hm (by decide +kernel) (pa_cons pe_c pa_nil he) (by decide) (by decide) he rfl) (ha σ H h _ fun v xs H1 l nb e r => ⟨v, xs, rfl, .inl (.inl (.inl e)), fun t ht => q _ _ (l.trans (Lv.new l.1 ht)) (Lv.newL l.1 ht r)⟩)
/-- range(..) inside list(..), tuple(..) -/
def rg (a b : Int) : List Int := (List.range (b - a).toNat).map fun (k : Nat) => a + (k : Int)
theorem rgV_rg (a b : Int) : rgV a b = (rg a b).map V.int := by
  simp only [rgV, rg, List.map_map]
  rfl
def GV (w : Wd) (X : Cx) (e : Expr) (env : En) (O : Os) (i j : Int) : Prop := ∃ t, PRg X e t ∧ ∀ σ H, Sd w env O σ H → ∀ Q : Int → Int → Hp → Prop, (∀ H', Lv w env O σ H H' → Q i j H') → t σ H Q
theorem gv_1 (hg : Gl X "range") (hm : X.mg "range" = none) (ha : EV w X a env O (.int i)) (na : starEach [a] X.env = (false, eval a X.env) :: starEach [] X.env := by rfl) : GV w X (.Call (.Name "range" p) [a] [] pos) env O 0 i := ⟨_, prg_1 hg hm pe_c na, fun σ H h Q q => ha σ H h _ fun v H1 l r => ⟨i, rp_int r, q H1 l⟩⟩
theorem gv_2 (hg : Gl X "range") (hm : X.mg "range" = none) (ha : EV w X a env O (.int i)) (hb : EV w X b env O (.int j)) (na : starEach [a, b] X.env = (false, eval a X.env) :: starEach [b] X.env := by rfl) (nb : starEach [b] X.env = (false, eval b X.env) :: starEach [] X.env := by rfl) (hp : (backTo pos (starEach [b] X.env)).any (·.1) = false := by rfl) : GV w X (.Call (.Name "range" p) [a, b] [] pos) env O i j :=
  ⟨_, prg_2 hg hm pe_c pe_c na nb hp, fun σ H h Q q => ha σ H h _ fun v H1 l1 r1 => hb σ H1 l1.1 _ fun u H2 l2 r2 => ⟨i, j, rp_int r1, rp_int r2, q H2 (l1.trans l2)⟩⟩
theorem ev_lstR (hc : X.calm = true) (hg : Gl X "list") (hm : X.mg "list" = none) (ha : GV w X a env O i j) (hr : RgOk i j) (na : starEach [a] X.env = (false, eval a X.env) :: starEach [] X.env := by rfl) : EV w X (.Call (.Name "list" p) [a] [] pos) env O (lI (rg i j)) := fun σ H h Q q => by
  obtain ⟨t, h1, h2⟩ := ha
  refine re_of (pe_listRg hc hg hm h1 na) (h2 σ H h _ fun H1 l => ⟨hr, fun t ht => ?_⟩)
  rw [rgV_rg]
  exact q _ _ (l.trans (Lv.new l.1 ht)) (Lv.newL l.1 ht (.of_ints _))
theorem ev_tupR (hc : X.calm = true) (hg : Gl X "tuple") (hm : X.mg "tuple" = none) (ha : GV w X a env O i j) (hr : RgOk i j) (na : starEach [a] X.env = (false, eval a X.env) :: starEach [] X.env := by rfl) : EV w X (.Call (.Name "tuple" p) [a] [] pos) env O (tI (rg i j)) := fun σ H h Q q => by
  obtain ⟨t, h1, h2⟩ := ha
  refine re_of (pe_tupRg hc hg hm h1 na) (h2 σ H h _ fun H1 l => ⟨hr, fun t ht => ?_⟩)
  rw [rgV_rg]
  exact q _ _ (l.trans (Lv.new l.1 ht)) (Lv.newT l.1 ht (.of_ints _))
end
end Mp
end
section
set_option Elab.async false
set_option linter.all false
set_option maxRecDepth 100000
set_option maxHeartbeats 4000000
/-! Mp5: new lists, what is walked, comprehensions. -/
namespace Mp
open PySem PySem.Spec PyProof.Rows L2

/-- it comes to a new list, one's own from then on -/
def EN (w : Wd) (X : Cx) (e : Expr) (env : En) (O : Os) (ds : List D) : Prop := ∀ σ H, Sd w env O σ H → ∀ Q : VK, (∀ p H', Sd w env (O ++ [(p, .l ds)]) σ H' → (∀ b o, b ∉ w.B → H b = some o → H' b = some o) → Q (.ref p) H') → RE X e σ H Q
section
variable {w : Wd} {X : Cx} {env : En} {O : Os} {σ : L2.St} {H H1 H2 H' : Hp} {e a b c : Expr} {es : List Expr} {p pos pos2 : Pos} {d d1 d2 : D} {i j : Int} {ds es' : List D}
theorem last_ix {O : Os} {x : Addr × Oc} : (O ++ [x])[O.length]? = some x := by simp
theorem erase_last {O : Os} {x : Addr × Oc} : (O ++ [x]).eraseIdx O.length = O := by
  rw [List.eraseIdx_append_of_length_le (Nat.le_refl _)]
  simp
theorem Sd.thaw (h : Sd w env (O ++ [(q, .l ds)]) σ H) : Sd w env O σ H ∧ Rp w.K (w.G O H) (.ref q) (.lst ds) := by
  have := h.frzL (k := O.length) last_ix
  rw [erase_last] at this
  exact this
theorem EN.v (h : EN w X e env O ds) : EV w X e env O (.lst ds) := fun σ H hs Q q => h σ H hs Q fun p H' h' ex => q _ H' ⟨h'.thaw.1, ex⟩ h'.thaw.2
theorem EN.l (h : EN w X e env O ds) : EL w X e env O ds := el_of h.v
theorem Sd.made (h : Sd w env O σ H) {q : Addr} {xs : List V} (hq : H q = none) (r : RpA w.K (w.G O H) xs ds) : Sd w env (O ++ [(q, .l ds)]) σ (upd H q (.lst xs)) := (h.newE (c := .l ds) hq ⟨xs, upd_same, r⟩).1
theorem Lv.mk (l : Lv w env O σ H H1) {q : Addr} {o : HO} (hq : H1 q = none) : ∀ b u, b ∉ w.B → H b = some u → (upd H1 q o) b = some u := fun b u hb e => Ex.new hq b u (l.2 b u hb e)
theorem en_lst (h : AV w X es env O ds) (hz : ds.length ≤ sizeLine) : EN w X (.List es pos) env O ds := fun σ H hs Q q =>
  re_of (pe_lst pa_c) (h σ H hs _ fun vs H1 l1 r1 => ⟨by rw [r1.length]; exact hz, fun t ht => q _ _ (l1.1.made ht r1) (l1.mk ht)⟩)
theorem en_lstU (hk : X.K = w.K) (hg : Gl X "list") (hm : X.mg "list" = none) (ha : EU w X a env O ds) (he : starEach [a] X.env = (false, eval a X.env) :: starEach [] X.env := by rfl) : EN w X (.Call (.Name "list" p) [a] [] pos) env O ds := fun σ H h Q q =>
  re_of (pe_callTy call_list_of hg hm (by decide +kernel) (pa_cons pe_c pa_nil he) (by decide) (by decide) he rfl) (ha σ H h _ fun v xs H1 l e r => ⟨v, xs, rfl, .inr (by rw [hk]; exact ex_t (mn_le _ _) e), fun t ht => q _ _ (l.1.made ht r) (l.mk ht)⟩)
theorem en_lstL (hg : Gl X "list") (hm : X.mg "list" = none) (ha : EL w X a env O ds) (he : starEach [a] X.env = (false, eval a X.env) :: starEach [] X.env := by rfl) : EN w X (.Call (.Name "list" p) [a] [] pos) env O ds := fun σ H h Q q =>
  re_of (pe_callTy call_list_of hg hm (by decide +kernel) (pa_cons pe_c pa_nil he) (by decide) (by decide) he rfl) (ha σ H h _ fun v xs H1 l nb e r => ⟨v, xs, rfl, .inl (.inl (.inl e)), fun t ht => q _ _ (l.1.made ht r) (l.mk ht)⟩)
theorem en_lstR (hc : X.calm = true) (hg : Gl X "list") (hm : X.mg "list" = none) (ha : GV w X a env O i j) (hr : RgOk i j) (na : starEach [a] X.env = (false, eval a X.env) :: starEach [] X.env := by rfl) : EN w X (.Call (.Name "list" p) [a] [] pos) env O (iL (rg i j)) := fun σ H h Q q => by
  obtain ⟨t, h1, h2⟩ := ha
  refine re_of (pe_listRg hc hg hm h1 na) (h2 σ H h _ fun H1 l => ⟨hr, fun t ht => ?_⟩)
  rw [rgV_rg]
  exact q _ _ (l.1.made ht (.of_ints _)) (l.mk ht)
/-- xs * k -/
theorem RpA.rep {K : PySem.W.Frag} {G : Hp} {vs : List V} (h : RpA K G vs ds) : ∀ n : Nat, RpA K G (List.replicate n vs).flatten (List.replicate n ds).flatten
  | 0 => by simp; exact .nil
  | n + 1 => by
    rw [List.replicate_succ, List.replicate_succ, List.flatten_cons, List.flatten_cons]
    exact h.app (RpA.rep h n)
theorem ev_repU (hk : X.K = w.K) (ha : EU w X a env O ds) (hb : EV w X b env O (.int i)) (hne : ds ≠ []) (h2 : 2 ≤ i) (h3 : i ≤ 1000) (hz : ds.length ≤ 1000) : EV w X (.BinOp a .Mult b pos) env O (.tup (List.replicate i.toNat ds).flatten) := fun σ H h Q q =>
  re_of (pe_op op_repT pe_c pe_c) (ha σ H h _ fun v xs H1 l1 e1 r1 => hb σ H1 l1.1 _ fun u H2 l2 r2 => by
    rw [rp_int r2]
    refine ⟨v, i, xs, rfl, rfl, by rw [hk]; exact ex_t (mn_le _ _) (ex_e l2.ex e1), ?_, h2, h3, by rw [r1.length]; exact hz, fun t ht => q _ _ ((l1.trans l2).trans (Lv.new l2.1 ht)) (Lv.newT l2.1 ht ((r1.mono l2.ex).rep _))⟩
    intro z
    subst z
    cases ds with
    | nil => exact hne rfl
    | cons _ _ => cases r1)

/-! ### what a comprehension walks -/
/-- what is given: an item of the data, or a new tuple of data -/
def Yld (w : Wd) (G : Hp) (ds : List D) (i : Nat) (H2 : Hp) (x : V) (H3 : Hp) : Prop := ∃ d, ds[i]? = some d ∧ ((H3 = H2 ∧ Rp w.K G x d) ∨ ∃ T ys es, x = .ref T ∧ H2 T = none ∧ H3 = upd H2 T (.tup ys) ∧ RpA w.K G ys es ∧ d = .tup es)
def IC (w : Wd) (X : Cx) (tg iter : Expr) (env : En) (O : Os) (ds : List D) : Prop := ∃ wi, PI X tg iter wi ∧ ∀ σ H, Sd w env O σ H → ∀ R : It → Hp → Prop,
  (∀ J Gd Y H1, Lv w env O σ H H1 → Walk J ds.length Gd Y → (∀ H2, (∀ b o, b ∉ w.B → H1 b = some o → H2 b = some o) → Gd H2) → (∀ i H2 x H3, i < ds.length → (∀ b o, b ∉ w.B → H1 b = some o → H2 b = some o) → Y i H2 x H3 → Yld w (w.G O H1) ds i H2 x H3) → R J H1) → wi σ H R
variable {tg elt iter : Expr} {ifs : List Expr} {scope : Scope}
theorem RpA.getY {K : PySem.W.Frag} {G : Hp} {vs : List V} (h : RpA K G vs ds) {i : Nat} {v : V} (e : vs[i]? = some v) : ∃ d, ds[i]? = some d ∧ Rp K G v d := h.getV e
theorem ic_L (ha : EL w X a env O ds) : IC w X tg a env O ds := ⟨_, pi_list pe_c, fun σ H h R q => ha σ H h _ fun v xs H1 l nb e r => ⟨v, rfl, ⟨xs, .inl (.inl e)⟩, by
  have hl := r.length
  refine q (Itl X.K v) (fun H => SqL X.K H v xs) (YAt xs) H1 l (hl ▸ walk_list) (fun H2 k => .inl (.inl (k v _ nb e))) fun i H2 x H3 hi k y => ?_
  obtain ⟨e3, ex⟩ := y
  obtain ⟨d, hd, rd⟩ := r.getV ex
  exact ⟨d, hd, .inl ⟨e3, rd⟩⟩⟩⟩
theorem ic_U (hk : X.K = w.K) (ha : EU w X a env O ds) : IC w X tg a env O ds := ⟨_, pi_tup pe_c, fun σ H h R q => ha σ H h _ fun v xs H1 l e r => by
  have e' : w.G O H1 v = some (.tup xs) := e
  refine ⟨v, rfl, ⟨xs, ex_t (mn_le _ _) e'⟩, ?_⟩
  have hl := r.length
  have kp : ∀ H2 : Hp, (∀ b o, b ∉ w.B → H1 b = some o → H2 b = some o) → Ex (w.G O H1) H2 := fun H2 k b o hb => by
    have hb' : b ∉ own O ++ w.A0 := fun z => by
      rw [show w.G O H1 b = none from mn_in z] at hb; cases hb
    rw [show w.G O H1 b = H1 b from mn_out hb'] at hb
    exact k b o (fun z => hb' (List.mem_append_right _ (w.bs b z))) hb
  refine q (Itt X.K v) (fun H => SqT X.K H v xs) (YAt xs) H1 l (hl ▸ walk_tup) (fun H2 k => ex_t (kp H2 k) e') fun i H2 x H3 hi k y => ?_
  obtain ⟨e3, ex⟩ := y
  obtain ⟨d, hd, rd⟩ := r.getV ex
  exact ⟨d, hd, .inl ⟨e3, rd⟩⟩⟩
theorem rg_get (i j : Int) {k : Nat} (h : k < (iL (rg i j)).length) : (iL (rg i j))[k]? = some (D.int (i + (k : Int))) := by
  simp only [iL, rg, List.length_map, List.length_range] at h
  simp [iL, rg, h]
theorem ic_R2 {nm : Pos} (hg : Gl X "range") (hm : X.mg "range" = none) (ha : EV w X a env O (.int i)) (hb : EV w X b env O (.int j)) (hr : -(2 ^ 62) ≤ i ∧ i < 2 ^ 62 ∧ -(2 ^ 62) ≤ j ∧ j < 2 ^ 62) (hs : starEach [a, b] X.env = [(false, eval a X.env), (false, eval b X.env)] := by rfl) (hs2 : starEach [b] X.env = [(false, eval b X.env)] := by rfl) :
    IC w X tg (.Call (.Name "range" nm) [a, b] [] pos) env O (iL (rg i j)) := ⟨_, pi_range2 hg hm (pa_cons pe_c (pa_cons pe_c pa_nil (by rw [hs2]; rfl)) (by rw [hs, hs2])) hs hs2, fun σ H h R q => ha σ H h _ fun v H1 l1 r1 => hb σ H1 l1.1 _ fun u H2 l2 r2 => by
  refine ⟨i, j, by rw [rp_int r1, rp_int r2], hr, ?_⟩
  refine q (Itr i (j - i).toNat) (fun _ => True) (YFn fun k => .int (i + k)) H2 (l1.trans l2) (by simp only [iL, rg, List.length_map, List.length_range]; exact walk_range) (fun _ _ => trivial) fun k H3 x H4 hk kp y => ?_
  obtain ⟨e3, ex⟩ := y
  exact ⟨_, rg_get i j hk, .inl ⟨e3, by rw [ex]; exact .v rfl⟩⟩⟩
theorem ic_R1 {nm : Pos} (hg : Gl X "range") (hm : X.mg "range" = none) (ha : EV w X a env O (.int i)) (hr : -(2 ^ 62) ≤ i ∧ i < 2 ^ 62) (hs : starEach [a] X.env = [(false, eval a X.env)] := by rfl) :
    IC w X tg (.Call (.Name "range" nm) [a] [] pos) env O (iL (rg 0 i)) := ⟨_, pi_range1 hg hm (pa_cons pe_c pa_nil (by rw [hs]; rfl)) hs, fun σ H h R q => ha σ H h _ fun v H1 l1 r1 => by
  refine ⟨i, by rw [rp_int r1], hr.1, hr.2, ?_⟩
  refine q (Itr 0 i.toNat) (fun _ => True) (YFn fun k => .int (0 + k)) H1 l1 (by simp only [iL, rg, List.length_map, List.length_range, Int.sub_zero]; exact walk_range) (fun _ _ => trivial) fun k H3 x H4 hk kp y => ?_
  obtain ⟨e3, ex⟩ := y
  exact ⟨_, rg_get 0 i hk, .inl ⟨e3, by rw [ex]; exact .v rfl⟩⟩⟩

/-! ### comprehensions -/
def REb (X : Cx) (scope : Scope) (e : Expr) : TE := fun σ H Q => ∀ (s : Shared) (H0 : Hp) (C : Addr) (cl : List (Str × Addr)) (fp : List Addr), RE (X.blk s H0 scope (compEnvC scope cl C X.env) fp) e σ H Q
def RTb (X : Cx) (scope : Scope) (e : Expr) : TT := fun σ H Q => ∀ (s : Shared) (H0 : Hp) (C : Addr) (cl : List (Str × Addr)) (fp : List Addr), RT (X.blk s H0 scope (compEnvC scope cl C X.env) fp) e σ H Q
theorem pe_cb {scope : Scope} (s : Shared) (H0 : Hp) (C : Addr) (cl : List (Str × Addr)) (fp : List Addr) : PE (X.blk s H0 scope (compEnvC scope cl C X.env) fp) e (REb X scope e) := ⟨fun pins s' σ H Q I h => h s H0 C cl fp pins s' I⟩
theorem pt_cb {scope : Scope} (s : Shared) (H0 : Hp) (C : Addr) (cl : List (Str × Addr)) (fp : List Addr) : PT (X.blk s H0 scope (compEnvC scope cl C X.env) fp) e (RTb X scope e) := ⟨fun pins s' σ H Q I h => h s H0 C cl fp pins s' I⟩
def wipeE (env : En) : List Nat → En
  | [] => env
  | v :: vs => (wipeE env vs).put v .no
theorem Sd.wipe (h : Sd w env O σ H) : ∀ vs : List Nat, Sd w (wipeE env vs) O (L2.wipe σ vs) H
  | [] => h
  | v :: vs => by
    have h1 := h.wipe vs
    refine ⟨by simp [L2.wipe, wipeE, h1.len], fun i x hi => ?_, fun i x hi => ?_, h1.nd, h1.fr, h1.ok, h1.ex, h1.tr, h1.bt, h1.gh, h1.j⟩
    · by_cases e : v = i
      · subst e
        have hl : v < (wipeE env vs).s.length := by
          have := (List.getElem?_eq_some_iff.mp hi).1
          simpa [wipeE] using this
        simp [wipeE, hl] at hi
      · have hi' : (wipeE env vs).s[i]? = some (.d x) := by simpa [wipeE, e] using hi
        obtain ⟨u, e1, r⟩ := h1.dat i x hi'
        exact ⟨u, by simpa [L2.wipe, e] using e1, r⟩
    · by_cases e : v = i
      · subst e
        have hl : v < (wipeE env vs).s.length := by
          have := (List.getElem?_eq_some_iff.mp hi).1
          simpa [wipeE] using this
        simp [wipeE, hl] at hi
      · have hi' : (wipeE env vs).s[i]? = some (.a x) := by simpa [wipeE, e] using hi
        have e1 := h1.adr i x hi'
        simpa [L2.wipe, e] using e1
/-- a target of a comprehension takes an item -/
def Bnd (w : Wd) (g : TG) (vs : List Nat) (x : D) (env env2 : En) : Prop := ∀ O σ H v, Sd w env O σ H → Rp w.K (w.G O H) v x → ∀ Kt : L2.St → Hp → Prop, (∀ σ2, Sd w env2 O σ2 H → L2.wipe σ2 vs = L2.wipe σ vs → Kt σ2 H) → g v (L2.wipe σ vs) H Kt
/-- a list comprehension and what it makes -/
def LC (w : Wd) (X : Cx) (elt tg iter : Expr) (ifs : List Expr) (scope : Scope) (env : En) (O : Os) (ds : List D) : Prop := ∃ (wi : TI) (g : TG) (tt : TT) (own' : List (Str × Nat)), PI X tg iter wi ∧ BlkOk X.N X.env.scope scope own' ∧
  (∀ (s : Shared) (H : Hp) (C : Addr) (cl : List (Str × Addr)) (fp : List Addr), PG (X.blk s H scope (compEnvC scope cl C X.env) fp) tg g) ∧ (∀ (s : Shared) (H : Hp) (C : Addr) (cl : List (Str × Addr)) (fp : List Addr), PTs (X.blk s H scope (compEnvC scope cl C X.env) fp) ifs tt) ∧
  (∀ x, foldedSetIterable iter X.env x = pure x) ∧ ∀ σ H, Sd w env O σ H → ∀ Q : VK, (∀ p H', Sd w env (O ++ [(p, .l ds)]) σ H' → (∀ b o, b ∉ w.B → H b = some o → H' b = some o) → Q (.ref p) H') → tLc wi g tt (REb X scope elt) (own'.map (·.2)) σ H Q
theorem LC.n (h : LC w X elt tg iter ifs scope env O ds) (hc : X.calm = true) (hN : X.N.Nodup) : EN w X (.ListComp elt [⟨tg, iter, ifs, 0⟩] scope pos) env O ds := fun σ H hs Q q => by
  obtain ⟨wi, g, tt, own', pi, ok, hg, ht, hs', run⟩ := h
  exact re_of (pe_lc (te := REb X scope elt) hc hN pi ok hg ht (fun s H C cl fp => pe_cb s H C cl fp) hs') (run σ H hs Q q)
theorem lc_g {α : Type} {f r : α → D} {cf : α → Bool} {xs : List α} {en : α → En} {elt tg iter : Expr} {ifs : List Expr} {scope : Scope} {own' : List (Str × Nat)} {g : TG} {tt : TT} (hi : IC w X tg iter env O (xs.map f)) (ok : BlkOk X.N X.env.scope scope own')
    (hg : ∀ (s : Shared) (H : Hp) (C : Addr) (cl : List (Str × Addr)) (fp : List Addr), PG (X.blk s H scope (compEnvC scope cl C X.env) fp) tg g) (ht : ∀ (s : Shared) (H : Hp) (C : Addr) (cl : List (Str × Addr)) (fp : List Addr), PTs (X.blk s H scope (compEnvC scope cl C X.env) fp) ifs tt)
    (hz : xs.length < sizeLine) (hb : ∀ x ∈ xs, Bnd w g (own'.map (·.2)) (f x) env (en x))
    (htt : ∀ x ∈ xs, ∀ q acc σ H, Sd w (en x) (O ++ [(q, .l acc)]) σ H → ∀ Q : Bool → Hp → Prop, (∀ H', Lv w (en x) (O ++ [(q, .l acc)]) σ H H' → Q (cf x) H') → tt σ H Q)
    (he : ∀ x ∈ xs, cf x = true → ∀ q acc s H0 C cl fp, EV w (X.blk s H0 scope (compEnvC scope cl C X.env) fp) elt (en x) (O ++ [(q, .l acc)]) (r x))
    (hs : ∀ x, foldedSetIterable iter X.env x = pure x := by intro _; rfl) : LC w X elt tg iter ifs scope env O ((xs.filter cf).map r) := by
  obtain ⟨wi, pi, hw⟩ := hi
  refine ⟨wi, g, tt, own', pi, ok, hg, ht, hs, fun σ H h Q q => ?_⟩
  refine hw σ H h _ fun J Gd Y H1 l1 wk kg ky Dn hD => ?_
  have kpG : ∀ H2 : Hp, (∀ b o, b ∉ w.B → H1 b = some o → H2 b = some o) → Ex (w.G O H1) (w.G O H2) := fun H2 k => mn_exB (fun b z => List.mem_append_right _ (w.bs b z)) k
  refine lc_it wk (fun i H2 => (∀ b o, b ∉ w.B → H1 b = some o → H2 b = some o) ∧ Sd w env (O ++ [(Dn, .l (((xs.take i).filter cf).map r))]) σ H2 ∧ Ex (w.G O H1) (w.G (O ++ [(Dn, .l (((xs.take i).filter cf).map r))]) H2)) ⟨fun b o _ e => Ex.new hD b o e, ?_⟩ (fun i H2 _ z => kg H2 z.1) (fun i x H2 H3 hlt z y => ?_) (fun H2 z => ?_)
  · have z := l1.1.newE (c := .l []) (o := .lst []) hD ⟨[], upd_same, .nil⟩
    simp only [List.take_zero, List.filter_nil, List.map_nil]
    exact ⟨z.1, by rw [z.2]; exact Same.refl _⟩
  · obtain ⟨k2, s2, ex2⟩ := z
    have hlt' : i < xs.length := by simpa using hlt
    obtain ⟨d, hd, yy⟩ := ky i H2 x H3 hlt k2 y
    have hxs : xs[i]? = some xs[i] := List.getElem?_eq_getElem hlt'
    have hd' : d = f xs[i] := by
      rw [List.getElem?_map, hxs] at hd
      exact (Option.some.inj hd).symm
    have hmem : xs[i] ∈ xs := List.getElem_mem hlt'
    -- the item, in the heap behind it
    have step : ∃ _ : Lv w env (O ++ [(Dn, .l (((xs.take i).filter cf).map r))]) σ H2 H3, Rp w.K (w.G (O ++ [(Dn, .l (((xs.take i).filter cf).map r))]) H3) x (f xs[i]) ∧ (∀ b o, b ∉ w.B → H1 b = some o → H3 b = some o) := by
      rw [← hd']
      rcases yy with ⟨e3, rr⟩ | ⟨T, ys, es, rfl, hT, e3, ry, rfl⟩
      · subst e3
        exact ⟨.refl s2, rr.mono ex2, k2⟩
      · subst e3
        exact ⟨Lv.new s2 hT, Lv.newT s2 hT (ry.mono ex2), fun b o hb e => Ex.new hT b o (k2 b o hb e)⟩
    obtain ⟨l3, r3, k3⟩ := step
    refine hb xs[i] hmem _ σ H3 x l3.1 r3 _ fun σ2 s4 hw2 => ⟨hw2, ?_⟩
    refine htt xs[i] hmem _ _ σ2 H3 s4 _ fun H4 l4 => ?_
    have nb : Dn ∉ w.B := fun z => s2.disj (p := Dn) (by simp [own]) (w.bs _ z)
    have nB4 : ∀ b o, b ∉ w.B → H1 b = some o → H4 b = some o := fun b o hb e => l4.2 b o hb (k3 b o hb e)
    have tk : xs.take (i + 1) = xs.take i ++ [xs[i]] := by rw [List.take_add_one, hxs]; rfl
    -- back at the state of the loop
    have back : ∀ {H5 : Hp}, (∀ b o, b ∉ w.B → H4 b = some o → H5 b = some o) → w.J H5 → (∀ b ∈ w.B, NT (H5 b)) → Sd w env (O ++ [(Dn, .l (((xs.take i).filter cf).map r))]) σ H5 ∧ Ex (w.G (O ++ [(Dn, .l (((xs.take i).filter cf).map r))]) H2) (w.G (O ++ [(Dn, .l (((xs.take i).filter cf).map r))]) H5) := fun {H5} k j t =>
      s2.growB (fun b o hb e => k b o hb (l4.2 b o hb (l3.2 b o hb e))) t j
    cases hcf : cf xs[i] with
    | false =>
      show _ ∧ _
      have z := back (H5 := H4) (fun b o _ e => e) l4.1.j (fun b hb => l4.1.bt b (w.bs b hb))
      refine ⟨nB4, ?_⟩
      rw [tk, List.filter_append, List.filter_cons, hcf]
      simp only [Bool.false_eq_true, if_false, List.filter_nil, List.append_nil]
      exact ⟨z.1, ex2.trans z.2⟩
    | true =>
      show REb X scope elt σ2 H4 _
      intro s H0 C cl fp
      refine he xs[i] hmem hcf _ _ s H0 C cl fp σ2 H4 l4.1 _ fun yv H5 l5 r5 => ?_
      obtain ⟨acc, eacc, racc⟩ := l5.1.get (k := O.length) last_ix
      have z := back (H5 := H5) l5.2 l5.1.j (fun b hb => l5.1.bt b (w.bs b hb))
      have zl : acc.length < sizeLine := by
        rw [racc.length, List.length_map]
        refine Nat.lt_of_le_of_lt (List.length_filter_le _ _) ?_
        rw [List.length_take]
        omega
      refine ⟨acc, eacc, zl, fun b o hb e => ?_, ?_⟩
      · have hne : b ≠ Dn := fun q' => by rw [q', hD] at e; cases e
        rw [upd_ne hne]
        exact l5.2 b o hb (nB4 b o hb e)
      · have r5' : Rp w.K (w.G (O ++ [(Dn, .l (((xs.take i).filter cf).map r))]) H5) yv (r xs[i]) := r5
        have wr := z.1.write (k := O.length) (c := .l (((xs.take i).filter cf).map r ++ [r xs[i]])) (o := .lst (acc ++ [yv])) last_ix ⟨_, upd_same, by
          have racc' : RpA w.K (w.G (O ++ [(Dn, .l (((xs.take i).filter cf).map r))]) H5) acc (((xs.take i).filter cf).map r) := racc
          exact racc'.app (.one r5')⟩
        have es : (O ++ [(Dn, Oc.l (((xs.take i).filter cf).map r))]).set O.length (Dn, .l (((xs.take i).filter cf).map r ++ [r xs[i]])) = O ++ [(Dn, .l (((xs.take (i + 1)).filter cf).map r))] := by
          rw [List.set_append_right _ _ (Nat.le_refl _), Nat.sub_self, tk, List.filter_append, List.filter_cons, hcf]
          simp
        rw [es] at wr
        refine ⟨wr.1, ?_⟩
        rw [wr.2]
        exact ex2.trans z.2
  · obtain ⟨k2, s2, ex2⟩ := z
    have tl : xs.take (xs.map f).length = xs := by simp
    rw [tl] at s2
    exact q Dn H2 s2 fun b o hb e => k2 b o hb (l1.2 b o hb e)
/-- targets: a name, two names -/
theorem wipe_set1 {σ : L2.St} {v : Option V} {j : Nat} : L2.wipe ((L2.wipe σ [j]).set j v) [j] = L2.wipe σ [j] := by
  simp [L2.wipe]
theorem bnd_name (j : Nat) (x : D) (env : En) : Bnd w (gName j) [j] x env (env.put j (.d x)) := fun O σ H v h r Kt q => by
  refine q _ ?_ wipe_set1
  have h1 := h.set j r
  have e : (L2.wipe σ [j]).set j (some v) = σ.set j (some v) := by simp [L2.wipe]
  rw [e]
  exact h1
theorem bnd_pair (hk : X.K = w.K) (i j : Nat) (hij : i ≠ j) (x y : D) (env : En) : Bnd w (gTup X.K 2 (gCons (gName i) (gCons (gName j) gNil))) [i, j] (.tup [x, y]) env ((env.put i (.d x)).put j (.d y)) := fun O σ H v h r Kt q => by
  cases r with
  | tup h1 r1 =>
    rename_i a xs
    cases r1 with
    | cons rx r2 =>
      rename_i vx vs
      cases r2 with
      | cons ry r3 =>
        rename_i vy vs
        cases r3
        refine ⟨a, [vx, vy], rfl, by rw [hk]; exact ex_t (mn_le _ _) h1, rfl, ?_⟩
        refine ⟨vx, [vy], rfl, ?_⟩
        refine ⟨vy, [], rfl, ?_⟩
        refine ⟨rfl, ?_⟩
        refine q _ ?_ ?_
        · have h2 := (h.set i rx).set j ry
          have e : ((L2.wipe σ [i, j]).set i (some vx)).set j (some vy) = (σ.set i (some vx)).set j (some vy) := by
            simp only [L2.wipe]
            rw [List.set_set, List.set_comm _ _ hij, List.set_set, List.set_comm _ _ hij.symm]
          rw [e]
          exact h2
        · simp only [L2.wipe]
          rw [List.set_set, List.set_comm (some vx) _ hij, List.set_set, List.set_comm _ none hij.symm, List.set_set, List.set_comm none none hij, List.set_set]
/-- over names: one name, no test; one test; two names -/
theorem lc_n (j : Nat) {α : Type} {f r : α → D} {xs : List α} {y : Str} {py : Pos} (hi : IC w X (.Name y py) iter env O (xs.map f)) (ok : BlkOk X.N X.env.scope scope [(y, j)]) (hz : xs.length < sizeLine)
    (hg : ∀ (s : Shared) (H : Hp) (C : Addr) (cl : List (Str × Addr)) (fp : List Addr), PG (X.blk s H scope (compEnvC scope cl C X.env) fp) (.Name y py) (gName j))
    (he : ∀ x ∈ xs, ∀ q acc s H0 C cl fp, EV w (X.blk s H0 scope (compEnvC scope cl C X.env) fp) elt (env.put j (.d (f x))) (O ++ [(q, .l acc)]) (r x))
    (hs : ∀ x, foldedSetIterable iter X.env x = pure x := by intro _; rfl) : LC w X elt (.Name y py) iter [] scope env O (xs.map r) := by
  have h := lc_g (cf := fun _ => true) (tt := tYes) (en := fun x => env.put j (.d (f x))) hi ok hg (fun _ _ _ _ _ => pts_nil) hz (fun x _ => bnd_name j (f x) env) (fun x hx q acc σ H hs Q q' => q' H (.refl hs)) (fun x hx _ => he x hx) hs
  rw [List.filter_eq_self.mpr (fun _ _ => rfl)] at h
  exact h
theorem lc_f (j : Nat) {α : Type} {f r : α → D} {cf : α → Bool} {xs : List α} {y : Str} {py : Pos} {cd : Expr} (hi : IC w X (.Name y py) iter env O (xs.map f)) (ok : BlkOk X.N X.env.scope scope [(y, j)]) (hz : xs.length < sizeLine)
    (hg : ∀ (s : Shared) (H : Hp) (C : Addr) (cl : List (Str × Addr)) (fp : List Addr), PG (X.blk s H scope (compEnvC scope cl C X.env) fp) (.Name y py) (gName j))
    (ht : ∀ x ∈ xs, ∀ q acc s H0 C cl fp, TV w (X.blk s H0 scope (compEnvC scope cl C X.env) fp) cd (env.put j (.d (f x))) (O ++ [(q, .l acc)]) (cf x))
    (he : ∀ x ∈ xs, cf x = true → ∀ q acc s H0 C cl fp, EV w (X.blk s H0 scope (compEnvC scope cl C X.env) fp) elt (env.put j (.d (f x))) (O ++ [(q, .l acc)]) (r x))
    (hs : ∀ x, foldedSetIterable iter X.env x = pure x := by intro _; rfl) : LC w X elt (.Name y py) iter [cd] scope env O ((xs.filter cf).map r) :=
  lc_g (tt := RTb X scope cd) (en := fun x => env.put j (.d (f x))) hi ok hg (fun s H C cl fp => pts_one (pt_cb s H C cl fp)) hz (fun x _ => bnd_name j (f x) env) (fun x hx q acc σ H hs Q q' s H0 C cl fp => ht x hx q acc s H0 C cl fp σ H hs Q q') he hs
theorem lc_p (hk : X.K = w.K) (i j : Nat) (hij : i ≠ j) {α : Type} {f1 f2 r : α → D} {cf : α → Bool} {xs : List α} {y z : Str} {py pz pt : Pos} {kt : Nat} (hi : IC w X (.Tuple [.Name y py, .Name z pz] kt pt) iter env O (xs.map fun x => .tup [f1 x, f2 x])) (ok : BlkOk X.N X.env.scope scope [(y, i), (z, j)]) (hz : xs.length < sizeLine)
    (hg : ∀ (s : Shared) (H : Hp) (C : Addr) (cl : List (Str × Addr)) (fp : List Addr), PG (X.blk s H scope (compEnvC scope cl C X.env) fp) (.Tuple [.Name y py, .Name z pz] kt pt) (gTup X.K 2 (gCons (gName i) (gCons (gName j) gNil))))
    (he : ∀ x ∈ xs, ∀ q acc s H0 C cl fp, EV w (X.blk s H0 scope (compEnvC scope cl C X.env) fp) elt ((env.put i (.d (f1 x))).put j (.d (f2 x))) (O ++ [(q, .l acc)]) (r x))
    (hs : ∀ x, foldedSetIterable iter X.env x = pure x := by intro _; rfl) : LC w X elt (.Tuple [.Name y py, .Name z pz] kt pt) iter [] scope env O (xs.map r) := by
  have h := lc_g (cf := fun _ => true) (tt := tYes) (en := fun x => (env.put i (.d (f1 x))).put j (.d (f2 x))) hi ok hg (fun _ _ _ _ _ => pts_nil) hz (fun x _ => bnd_pair hk i j hij (f1 x) (f2 x) env) (fun x hx q acc σ H hs Q q' => q' H (.refl hs)) (fun x hx _ => he x hx) hs
  rw [List.filter_eq_self.mpr (fun _ _ => rfl)] at h
  exact h
theorem lc_pf (hk : X.K = w.K) (i j : Nat) (hij : i ≠ j) {α : Type} {f1 f2 r : α → D} {cf : α → Bool} {xs : List α} {y z : Str} {py pz pt : Pos} {kt : Nat} {cd : Expr} (hi : IC w X (.Tuple [.Name y py, .Name z pz] kt pt) iter env O (xs.map fun x => .tup [f1 x, f2 x])) (ok : BlkOk X.N X.env.scope scope [(y, i), (z, j)]) (hz : xs.length < sizeLine)
    (hg : ∀ (s : Shared) (H : Hp) (C : Addr) (cl : List (Str × Addr)) (fp : List Addr), PG (X.blk s H scope (compEnvC scope cl C X.env) fp) (.Tuple [.Name y py, .Name z pz] kt pt) (gTup X.K 2 (gCons (gName i) (gCons (gName j) gNil))))
    (ht : ∀ x ∈ xs, ∀ q acc s H0 C cl fp, TV w (X.blk s H0 scope (compEnvC scope cl C X.env) fp) cd ((env.put i (.d (f1 x))).put j (.d (f2 x))) (O ++ [(q, .l acc)]) (cf x))
    (he : ∀ x ∈ xs, cf x = true → ∀ q acc s H0 C cl fp, EV w (X.blk s H0 scope (compEnvC scope cl C X.env) fp) elt ((env.put i (.d (f1 x))).put j (.d (f2 x))) (O ++ [(q, .l acc)]) (r x))
    (hs : ∀ x, foldedSetIterable iter X.env x = pure x := by intro _; rfl) : LC w X elt (.Tuple [.Name y py, .Name z pz] kt pt) iter [cd] scope env O ((xs.filter cf).map r) :=
  lc_g (tt := RTb X scope cd) (en := fun x => (env.put i (.d (f1 x))).put j (.d (f2 x))) hi ok hg (fun s H C cl fp => pts_one (pt_cb s H C cl fp)) hz (fun x _ => bnd_pair hk i j hij (f1 x) (f2 x) env) (fun x hx q acc σ H hs Q q' s H0 C cl fp => ht x hx q acc s H0 C cl fp σ H hs Q q') he hs
end
end Mp
end
section
set_option Elab.async false
set_option linter.all false
set_option maxRecDepth 100000
set_option maxHeartbeats 4000000
/-! Mp6: calls of own defs, statements, loops, defs. -/
namespace Mp
open PySem PySem.Spec PyProof.Rows L2

/-! ### promises -/
/-- a def that makes of data other data, and changes nothing -/
def PF (K : PySem.W.Frag) (R : List D → D → Prop) : Sp := fun vs H Q _ => ∃ (A : List Addr) (ds : List D) (d : D), RpA K (mn A H) vs ds ∧ R ds d ∧ (∀ a ∈ A, NT (H a)) ∧ ∀ v H', Ex H H' → Rp K (mn A H') v d → Q v H'
/-- a def of the module, and its promise -/
def Def (P : Program) (w : World) (K : PySem.W.Frag) (mg : Str → Option Value) (base : Heap) (x : Str) (k : Nat) (sp : Sp) : Prop :=
  ∃ (f : Addr) (fd : FuncData) (ps : List Str), FnOk P w K mg base CX0 k f fd ps sp ∧ mg x = some (.ref f) ∧ PySem.W.keepIn K (.ref f) = true ∧ Binds K fd ps []
theorem Def.mono {P : Program} {w : World} {K : PySem.W.Frag} {mg : Str → Option Value} {base : Heap} {x : Str} {j k : Nat} {sp : Sp} (h : Def P w K mg base x j sp) (hj : j ≤ k) : Def P w K mg base x k sp := by
  obtain ⟨f, fd, ps, F, r⟩ := h
  exact ⟨f, fd, ps, F.mono hj, r⟩
section
variable {w : Wd} {X : Cx} {env : En} {O : Os} {σ : L2.St} {H H1 H2 H' : Hp} {e a b c : Expr} {es : List Expr} {p pos pos2 : Pos} {d d1 d2 : D} {i j : Int} {ds es' : List D} {x : Str} {k : Nat}
theorem ev_call {R : List D → D → Prop} (F : Def X.prog X.w X.K X.mg X.base x k (PF w.K R)) (hr : Room k X.A) (hg : Gl X x) (ha : AV w X (e :: es) env O ds) (hR : R ds d) (hdb : (x == ("__debug__" : Str)) = false := by decide)
    (he : starEach (e :: es) X.env = (false, eval e X.env) :: starEach es X.env := by rfl) (hpl : (backTo pos (starEach es X.env)).any (·.1) = false := by rfl) : EV w X (.Call (.Name x p) (e :: es) [] pos) env O d := fun σ H h Q q => by
  obtain ⟨f, fd, ps, F, hm, hk, hb⟩ := F
  refine re_of (pe_call F hr hg hm hk hb .nil pass0 pa_c hdb he hpl) (ha σ H h _ fun vs H1 l1 r1 => ?_)
  rw [List.append_nil]
  refine ⟨own O ++ w.A0, ds, d, r1, hR, fun b hb => l1.1.there hb, fun v H2 e2 r2 => ?_⟩
  exact q v H2 (l1.trans (Lv.grow l1.1 e2)) r2

/-! ### statements -/
def WPS (w : Wd) (X : Cx) (env : En) (O : Os) (ss : List Stmt) (Dn : Ends) : Prop := ∀ σ H, Sd w env O σ H → RS X ss Dn σ H
def Ret (w : Wd) (Dn : Ends) (d : D) : Prop := ∀ v H', (∀ b o, b ∉ w.B → w.H0 b = some o → H' b = some o) → (∀ b ∈ w.A0, NT (H' b)) → w.J H' → Rp w.K (mn w.A0 H') v d → Dn.rt v H'
variable {Dn : Ends} {st : Stmt} {ss rest body orelse : List Stmt}
theorem WPS.weak {env' : En} (h : WPS w X env' O ss Dn) (hl : env'.s.length = env.s.length) (hg : ∀ g ∈ env'.g, g ∈ env.g) (hw : ∀ i : Nat, env'.s[i]? = env.s[i]? ∨ env'.s[i]? = some .no) : WPS w X env O ss Dn := fun σ H hs => h σ H (hs.weak hl hg hw)
theorem ws_nil (h : ∀ σ H, Sd w env O σ H → Dn.nx σ H) : WPS w X env O [] Dn := fun σ H hs => rs_of pss_nil (h σ H hs)
theorem ws_cons {ts : TS} (h : PS X st ts) (q : ∀ σ H, Sd w env O σ H → ts { Dn with nx := fun σ' H' => RS X rest Dn σ' H' } σ H) : WPS w X env O (st :: rest) Dn := fun σ H hs => rs_of (pss_cons h pss_c) (q σ H hs)
theorem ws_pass (h : WPS w X env O rest Dn) : WPS w X env O (.Pass pos :: rest) Dn := ws_cons ps_pass fun σ H hs => h σ H hs
theorem ws_ret (h : EV w X e env O d) (q : Ret w Dn d) : WPS w X env O (.Return (some e) pos :: rest) Dn := ws_cons (ps_ret pe_c) fun σ H hs => h σ H hs _ fun v H' l r => q v H' l.1.ex l.1.bt l.1.j (l.1.ret r)
theorem ws_retO (i k : Nat) {y : Str} {q' : Addr} {py : Pos} (hi : env.s[i]? = some (.a q')) (hk : O[k]? = some (q', .l ds)) (q : Ret w Dn (.lst ds)) (hN : X.N[i]? = some y := by rfl) (hv : Vis X.env.scope y := by first | exact Or.inl rfl | exact Or.inr (Or.inl rfl) | exact Or.inr (Or.inr rfl)) (hd : (y == ("__debug__" : Str)) = false := by decide)
    (hcd : (y == ("__classdict__" : Str)) = false := by decide) : WPS w X env O (.Return (some (.Name y py)) pos :: rest) Dn := ws_cons (ps_ret (pe_var hN hv hd hcd)) fun σ H hs => ⟨_, hs.adr i q' hi, q _ H hs.ex hs.bt hs.j (hs.retL hk)⟩
theorem ws_end (h : ∀ σ H, Dn.rt .non H → Dn.nx σ H) (q : Ret w Dn .non) : WPS w X env O [] Dn := ws_nil fun σ H hs => h σ H (q .non H hs.ex hs.bt hs.j (.v rfl))
theorem ws_if {p : Bool} (h : TV w X c env O p) (h1 : p = true → WPS w X env O body { Dn with nx := RS X rest Dn }) (h2 : p = false → WPS w X env O orelse { Dn with nx := RS X rest Dn }) : WPS w X env O (.If c body orelse pos :: rest) Dn :=
  ws_cons (ps_if pt_c pss_c pss_c) fun σ H hs => h σ H hs _ fun H' l => by
    cases p with
    | true => exact h1 rfl σ H' l.1
    | false => exact h2 rfl σ H' l.1
/-- behind a branch what follows is run -/
theorem ws_go (h : WPS w X env O rest Dn) {Dn' : Ends} (e : Dn'.nx = RS X rest Dn) : WPS w X env O [] Dn' := ws_nil fun σ H hs => by rw [e]; exact h σ H hs
theorem ws_ifF (h : TV w X c env O false) (h2 : WPS w X env O rest Dn) : WPS w X env O (.If c body [] pos :: rest) Dn := ws_if h (fun z => by cases z) fun _ => ws_go h2 rfl
theorem ws_expr (h : EV w X e env O d) (q : WPS w X env O rest Dn) (hs : swapsWith e none pos.line X.env = pure false := by rfl) : WPS w X env O (.Expr e pos :: rest) Dn := ws_cons (ps_expr pe_c hs) fun σ H hs => h σ H hs _ fun v H' l r => q σ H' l.1
theorem ws_set (i : Nat) {y : Str} {py : Pos} (hN : X.N.Nodup) (h : EV w X e env O d) (q : WPS w X (env.put i (.d d)) O rest Dn) (hi : X.N[i]? = some y := by rfl) (hx : Loc X.env.scope y := by first | exact .inl rfl | exact .inr rfl) (hs : swapsWith e (some (.Name y py)) pos.line X.env = pure false := by rfl)
    (hf : X.fn y = true ∨ X.env.scope.names.lookup y = some .local := by first | exact .inl rfl | exact .inr rfl) : WPS w X env O (.Assign [.Name y py] e pos :: rest) Dn :=
  ws_cons (ps_set hN hi hx pe_c hs hf) fun σ H hs => h σ H hs _ fun v H' l r => q _ H' (l.1.set i r)
theorem ws_new (i : Nat) {y : Str} {py : Pos} (hN : X.N.Nodup) (h : EN w X e env O ds) (q : ∀ p, WPS w X (env.put i (.a p)) (O ++ [(p, .l ds)]) rest Dn) (hi : X.N[i]? = some y := by rfl) (hx : Loc X.env.scope y := by first | exact .inl rfl | exact .inr rfl) (hs : swapsWith e (some (.Name y py)) pos.line X.env = pure false := by rfl)
    (hf : X.fn y = true ∨ X.env.scope.names.lookup y = some .local := by first | exact .inl rfl | exact .inr rfl) : WPS w X env O (.Assign [.Name y py] e pos :: rest) Dn :=
  ws_cons (ps_set hN hi hx pe_c hs hf) fun σ H hs => h σ H hs _ fun p H' h' _ => q p _ H' (h'.setA i)
/-- x = [..], a comprehension on one line: data, one's own -/
theorem ws_lc (i : Nat) {y : Str} {py : Pos} {elt tg iter : Expr} {ifs : List Expr} {scope : Scope} (hc : X.calm = true) (hN : X.N.Nodup) (h : LC w X elt tg iter ifs scope env O ds) (q : WPS w X (env.put i (.d (.lst ds))) O rest Dn) (hy : X.N[i]? = some y := by rfl) (hyl : X.env.scope.names.lookup y = some .local := by rfl)
    (hsw : swapsWith (.ListComp elt [⟨tg, iter, ifs, 0⟩] scope pos) (some (.Name y py)) pos2.line X.env = pure true := by exact sw_true rfl rfl rfl (by decide +kernel)) : WPS w X env O (.Assign [.Name y py] (.ListComp elt [⟨tg, iter, ifs, 0⟩] scope pos) pos2 :: rest) Dn := by
  obtain ⟨wi, g, tt, own', pi, ok, hg, ht, hs', run⟩ := h
  refine ws_cons (ps_setLc (te := REb X scope elt) hc hN hy hyl hsw pi ok hg ht (fun s H C cl fp => pe_cb s H C cl fp) hs') fun σ H hs => ?_
  exact run σ H hs _ fun p H' h' ex => q _ H' (h'.thaw.1.set i h'.thaw.2)
theorem ws_lcO (i : Nat) {y : Str} {py : Pos} {elt tg iter : Expr} {ifs : List Expr} {scope : Scope} (hc : X.calm = true) (hN : X.N.Nodup) (h : LC w X elt tg iter ifs scope env O ds) (q : ∀ p, WPS w X (env.put i (.a p)) (O ++ [(p, .l ds)]) rest Dn) (hy : X.N[i]? = some y := by rfl) (hyl : X.env.scope.names.lookup y = some .local := by rfl)
    (hsw : swapsWith (.ListComp elt [⟨tg, iter, ifs, 0⟩] scope pos) (some (.Name y py)) pos2.line X.env = pure true := by exact sw_true rfl rfl rfl (by decide +kernel)) : WPS w X env O (.Assign [.Name y py] (.ListComp elt [⟨tg, iter, ifs, 0⟩] scope pos) pos2 :: rest) Dn := by
  obtain ⟨wi, g, tt, own', pi, ok, hg, ht, hs', run⟩ := h
  refine ws_cons (ps_setLc (te := REb X scope elt) hc hN hy hyl hsw pi ok hg ht (fun s H C cl fp => pe_cb s H C cl fp) hs') fun σ H hs => ?_
  exact run σ H hs _ fun p H' h' ex => q p _ H' (h'.setA i)
/-- a, b = e1, e2: two local names -/
theorem ws_par (i j : Nat) {y z : Str} {py pz pt pt2 : Pos} {kt k2 : Nat} (hc : X.calm = true) (hN : X.N.Nodup) (hij : i ≠ j) (ha : EV w X a env O d1) (hb : EV w X b env O d2) (q : WPS w X ((env.put i (.d d1)).put j (.d d2)) O rest Dn) (hi : X.N[i]? = some y := by rfl) (hj : X.N[j]? = some z := by rfl)
    (hy : X.env.scope.names.lookup y = some .local := by rfl) (hz : X.env.scope.names.lookup z = some .local := by rfl) (h1 : starEach [a, b] X.env = (false, eval a X.env) :: starEach [b] X.env := by rfl) (h2 : starEach [b] X.env = (false, eval b X.env) :: starEach [] X.env := by rfl)
    (hw : swappedStores [.Tuple [.Name y py, .Name z pz] kt pt] (.Tuple [a, b] k2 pt2) X.env = pure (some [y, z]) := by rfl) (hs : swapsWithSole [.Tuple [.Name y py, .Name z pz] kt pt] (.Tuple [a, b] k2 pt2) pos.line X.env = pure false := by rfl) :
    WPS w X env O (.Assign [.Tuple [.Name y py, .Name z pz] kt pt] (.Tuple [a, b] k2 pt2) pos :: rest) Dn :=
  ws_cons (ps_par hc hN hi hj hij hy hz (pa_cons pe_c (pa_cons pe_c pa_nil h2) h1) hw hs) fun σ H hs => ha σ H hs _ fun v H1 l1 r1 => hb σ H1 l1.1 _ fun u H2 l2 r2 => ⟨v, u, rfl, q _ H2 ((l2.1.set i (r1.mono l2.ex)).set j r2)⟩
/-- .. the first new and one's own, the second new and one's own -/
theorem ws_parNN (i j : Nat) {y z : Str} {py pz pt pt2 : Pos} {kt k2 : Nat} {ds2 : List D} (hc : X.calm = true) (hN : X.N.Nodup) (hij : i ≠ j) (ha : EN w X a env O ds) (hb : ∀ p, EN w X b env (O ++ [(p, .l ds)]) ds2) (q : ∀ p q', WPS w X ((env.put i (.a p)).put j (.a q')) ((O ++ [(p, .l ds)]) ++ [(q', .l ds2)]) rest Dn) (hi : X.N[i]? = some y := by rfl) (hj : X.N[j]? = some z := by rfl)
    (hy : X.env.scope.names.lookup y = some .local := by rfl) (hz : X.env.scope.names.lookup z = some .local := by rfl) (h1 : starEach [a, b] X.env = (false, eval a X.env) :: starEach [b] X.env := by rfl) (h2 : starEach [b] X.env = (false, eval b X.env) :: starEach [] X.env := by rfl)
    (hw : swappedStores [.Tuple [.Name y py, .Name z pz] kt pt] (.Tuple [a, b] k2 pt2) X.env = pure (some [y, z]) := by rfl) (hs : swapsWithSole [.Tuple [.Name y py, .Name z pz] kt pt] (.Tuple [a, b] k2 pt2) pos.line X.env = pure false := by rfl) :
    WPS w X env O (.Assign [.Tuple [.Name y py, .Name z pz] kt pt] (.Tuple [a, b] k2 pt2) pos :: rest) Dn :=
  ws_cons (ps_par hc hN hi hj hij hy hz (pa_cons pe_c (pa_cons pe_c pa_nil h2) h1) hw hs) fun σ H hs => ha σ H hs _ fun p H1 s1 _ => hb p σ H1 s1 _ fun q' H2 s2 _ => ⟨_, _, rfl, q p q' _ H2 ((s2.setA i).setA j)⟩
theorem ws_parNV (i j : Nat) {y z : Str} {py pz pt pt2 : Pos} {kt k2 : Nat} (hc : X.calm = true) (hN : X.N.Nodup) (hij : i ≠ j) (ha : EN w X a env O ds) (hb : ∀ p, EV w X b env (O ++ [(p, .l ds)]) d2) (q : ∀ p, WPS w X ((env.put i (.a p)).put j (.d d2)) (O ++ [(p, .l ds)]) rest Dn) (hi : X.N[i]? = some y := by rfl) (hj : X.N[j]? = some z := by rfl)
    (hy : X.env.scope.names.lookup y = some .local := by rfl) (hz : X.env.scope.names.lookup z = some .local := by rfl) (h1 : starEach [a, b] X.env = (false, eval a X.env) :: starEach [b] X.env := by rfl) (h2 : starEach [b] X.env = (false, eval b X.env) :: starEach [] X.env := by rfl)
    (hw : swappedStores [.Tuple [.Name y py, .Name z pz] kt pt] (.Tuple [a, b] k2 pt2) X.env = pure (some [y, z]) := by rfl) (hs : swapsWithSole [.Tuple [.Name y py, .Name z pz] kt pt] (.Tuple [a, b] k2 pt2) pos.line X.env = pure false := by rfl) :
    WPS w X env O (.Assign [.Tuple [.Name y py, .Name z pz] kt pt] (.Tuple [a, b] k2 pt2) pos :: rest) Dn :=
  ws_cons (ps_par hc hN hi hj hij hy hz (pa_cons pe_c (pa_cons pe_c pa_nil h2) h1) hw hs) fun σ H hs => ha σ H hs _ fun p H1 s1 _ => hb p σ H1 s1 _ fun v H2 l2 r2 => ⟨_, v, rfl, q p _ H2 ((l2.1.setA i).set j r2)⟩
/-- a, b = e: data that is a tuple -/
theorem ws_unp2 (hk : X.K = w.K) (i j : Nat) {y z : Str} {py pz pt : Pos} {kt : Nat} (hc : X.calm = true) (hN : X.N.Nodup) (h : EV w X e env O (.tup [d1, d2])) (q : WPS w X ((env.put i (.d d1)).put j (.d d2)) O rest Dn)
    (hg : PG X (.Tuple [.Name y py, .Name z pz] kt pt) (gTup X.K 2 (gCons (gName i) (gCons (gName j) gNil))))
    (hs : swapsWithSole [.Tuple [.Name y py, .Name z pz] kt pt] e pos.line X.env = pure false := by rfl) (hw : swappedStores [.Tuple [.Name y py, .Name z pz] kt pt] e X.env = pure none := by rfl) : WPS w X env O (.Assign [.Tuple [.Name y py, .Name z pz] kt pt] e pos :: rest) Dn :=
  ws_cons (ps_asg pe_c hg hs hw) fun σ H hs => h σ H hs _ fun v H' l r => by
    cases r with
    | tup h1 r1 =>
      rename_i a xs
      cases r1 with
      | cons rx r2 =>
        cases r2 with
        | cons ry r3 =>
          cases r3
          exact ⟨a, _, rfl, by rw [hk]; exact ex_t (mn_le _ _) h1, rfl, _, _, rfl, _, _, rfl, rfl, q _ H' ((l.1.set i rx).set j ry)⟩
end
end Mp
end
section
set_option Elab.async false
set_option linter.all false
set_option maxRecDepth 100000
set_option maxHeartbeats 4000000
/-! Mp7: stores to lists of one's own, loops, defs. -/
namespace Mp
open PySem PySem.Spec PyProof.Rows L2
section
variable {w : Wd} {X : Cx} {env : En} {O : Os} {σ : L2.St} {H H1 H2 H' : Hp} {e a b c : Expr} {es : List Expr} {p pos pos2 : Pos} {d d1 d2 : D} {i j : Int} {ds es' : List D} {x : Str} {k : Nat} {Dn : Ends} {st : Stmt} {ss rest body orelse : List Stmt}
/-- xs[i] as getItem -/
theorem pget_list : PGet X (rIxL X.K) := by
  intro pins s σ H o i ov iv Q I ro ri h
  obtain ⟨p, xs, i, z, rfl, rfl, hq, he, q⟩ := h
  cases ro
  obtain ⟨t, rfl⟩ := ri
  obtain ⟨its, r, pl, hz⟩ := I.list hq
  obtain ⟨j, h1, h2, h3, h4, h5⟩ := atI_get he
  obtain ⟨w, ew, rw'⟩ := r.get h2
  have hl := r.length
  have hn := line63
  have fin : EP X pins σ Q w s := ⟨z, H, I, rw', q⟩
  by_cases h0 : 0 ≤ i
  · have hj : i.toNat = j := by
      rw [seqIndex_of h0 h5] at h1
      exact Option.some.inj h1
    exact wpAny_getItem_list pl.isList h0 (by omega) (by rw [hj]; simpa using ew) fin
  · have hj : (i + (its.toArray.size : Int)).toNat = j := by
      rw [seqIndex_neg (by omega) h4] at h1
      rw [List.size_toArray, ← hl]
      exact Option.some.inj h1
    exact wpAny_getItem_list_neg pl.isList (by omega) (by rw [List.size_toArray] <;> omega) (by omega) (by rw [hj]; simpa using ew) fin
/-- the address in a slot -/
theorem re_own (n : Nat) {y : Str} {py : Pos} {q' : Addr} {Q : VK} (hs : Sd w env O σ H) (hi : env.s[n]? = some (.a q')) (q : Q (.ref q') H) (hN : X.N[n]? = some y := by rfl) (hv : Vis X.env.scope y := by first | exact Or.inl rfl | exact Or.inr (Or.inl rfl) | exact Or.inr (Or.inr rfl)) (hd : (y == ("__debug__" : Str)) = false := by decide)
    (hcd : (y == ("__classdict__" : Str)) = false := by decide) : RE X (.Name y py) σ H Q := re_of (pe_var hN hv hd hcd) ⟨_, hs.adr n q' hi, q⟩
/-- a place of a list -/
theorem ixN_of {n : Nat} {i : Int} {m : Nat} (h : i = (m : Int)) (hm : m < n) : ixN n i = some m := by
  subst h
  unfold ixN
  rw [if_pos (by omega), if_pos (by omega)]
  simp
/-- found.append(e) -/
theorem ws_app (n m : Nat) {y : Str} {py ap cp : Pos} {q' : Addr} (hi : env.s[n]? = some (.a q')) (hk : O[m]? = some (q', .l ds)) (h : EV w X e env O d) (hz : ds.length < sizeLine) (q : WPS w X env (O.set m (q', .l (ds ++ [d]))) rest Dn) (hN : X.N[n]? = some y := by rfl) (hv : Vis X.env.scope y := by first | exact Or.inl rfl | exact Or.inr (Or.inl rfl) | exact Or.inr (Or.inr rfl)) (hd : (y == ("__debug__" : Str)) = false := by decide)
    (hcd : (y == ("__classdict__" : Str)) = false := by decide) (he : starEach [e] X.env = (false, eval e X.env) :: starEach [] X.env := by rfl) (hbase : attributeBase (.Name y py) "append" X.env (eval (.Name y py) X.env) = eval (.Name y py) X.env := by rfl)
    (hfew : ((backTo cp (starEach [e] X.env)).all (fun x => !x.1) && (backToKw cp (keywordEach [] X.env)).all (fun x => x.1.isSome) && decide (([e] : List Expr).length + ([] : List Keyword).length + (if ([] : List Keyword).isEmpty then 0 else 1) < 30)) = true := by rfl)
    (hline : (ap.endLine == cp.line) = true := by rfl) (hsw : swapsWith (.Call (.Attribute (.Name y py) "append" ap) [e] [] cp) none pos.line X.env = pure false := by rfl) :
    WPS w X env O (.Expr (.Call (.Attribute (.Name y py) "append" ap) [e] [] cp) pos :: rest) Dn :=
  ws_cons (ps_expr (pe_bm PySem.F.plainAttrs_list PySem.F.slot_list_append PySem.F.type_list_append mt_append (pe_var hN hv hd hcd) (pa_cons pe_c pa_nil he) hbase hfew hline he rfl) hsw) fun σ H hs => by
    refine ⟨.ref q', hs.adr n q' hi, ?_⟩
    obtain ⟨xs, e1, r1⟩ := hs.get hk
    refine ⟨.inl ⟨rfl, _, .inl (.inl e1)⟩, ?_⟩
    refine h σ H hs _ fun v H1 l1 rv => ?_
    obtain ⟨ys, e2, r2⟩ := l1.1.get hk
    refine ⟨q', ys, v, rfl, rfl, e2, by rw [r2.length]; exact hz, ?_⟩
    exact q σ _ (l1.1.write (c := .l (ds ++ [d])) (o := .lst (ys ++ [v])) hk ⟨_, upd_same, r2.app (.one rv)⟩).1
theorem ws_ext (n m : Nat) {y : Str} {py ap cp : Pos} {q' : Addr} (hi : env.s[n]? = some (.a q')) (hk : O[m]? = some (q', .l ds)) (h : EL w X e env O es') (hz : ds.length + es'.length ≤ sizeLine) (q : WPS w X env (O.set m (q', .l (ds ++ es'))) rest Dn) (hN : X.N[n]? = some y := by rfl) (hv : Vis X.env.scope y := by first | exact Or.inl rfl | exact Or.inr (Or.inl rfl) | exact Or.inr (Or.inr rfl)) (hd : (y == ("__debug__" : Str)) = false := by decide)
    (hcd : (y == ("__classdict__" : Str)) = false := by decide) (he : starEach [e] X.env = (false, eval e X.env) :: starEach [] X.env := by rfl) (hbase : attributeBase (.Name y py) "extend" X.env (eval (.Name y py) X.env) = eval (.Name y py) X.env := by rfl)
    (hfew : ((backTo cp (starEach [e] X.env)).all (fun x => !x.1) && (backToKw cp (keywordEach [] X.env)).all (fun x => x.1.isSome) && decide (([e] : List Expr).length + ([] : List Keyword).length + (if ([] : List Keyword).isEmpty then 0 else 1) < 30)) = true := by rfl)
    (hline : (ap.endLine == cp.line) = true := by rfl) (hsw : swapsWith (.Call (.Attribute (.Name y py) "extend" ap) [e] [] cp) none pos.line X.env = pure false := by rfl) :
    WPS w X env O (.Expr (.Call (.Attribute (.Name y py) "extend" ap) [e] [] cp) pos :: rest) Dn :=
  ws_cons (ps_expr (pe_bm PySem.F.plainAttrs_list PySem.F.slot_list_extend PySem.F.type_list_extend mt_extend (pe_var hN hv hd hcd) (pa_cons pe_c pa_nil he) hbase hfew hline he rfl) hsw) fun σ H hs => by
    refine ⟨.ref q', hs.adr n q' hi, ?_⟩
    obtain ⟨xs, e1, r1⟩ := hs.get hk
    refine ⟨.inl ⟨rfl, _, .inl (.inl e1)⟩, ?_⟩
    refine h σ H hs _ fun v zs H1 l1 nb ez rz => ?_
    obtain ⟨ys, e2, r2⟩ := l1.1.get hk
    refine ⟨q', v, ys, zs, rfl, rfl, e2, ez, by rw [r2.length, rz.length]; exact hz, ?_⟩
    exact q σ _ (l1.1.write (c := .l (ds ++ es')) (o := .lst (ys ++ zs)) hk ⟨_, upd_same, r2.app rz⟩).1
/-- found[i] = e -/
theorem ws_setI (n m t : Nat) {y : Str} {py sp : Pos} {q' : Addr} (hi : env.s[n]? = some (.a q')) (hk : O[m]? = some (q', .l ds)) (h : EV w X e env O d) (hx : EV w X b env O (.int i)) (ht : i = (t : Int)) (htl : t < ds.length) (q : WPS w X env (O.set m (q', .l (ds.set t d))) rest Dn) (hN : X.N[n]? = some y := by rfl) (hv : Vis X.env.scope y := by first | exact Or.inl rfl | exact Or.inr (Or.inl rfl) | exact Or.inr (Or.inr rfl)) (hd : (y == ("__debug__" : Str)) = false := by decide)
    (hcd : (y == ("__classdict__" : Str)) = false := by decide) (hg : PG X (.Subscript (.Name y py) b sp) (gSub (tVar n) (RE X b) rSetL)) (hs1 : swapsWithSole [.Subscript (.Name y py) b sp] e pos.line X.env = pure false := by rfl) (hw : swappedStores [.Subscript (.Name y py) b sp] e X.env = pure none := by rfl) :
    WPS w X env O (.Assign [.Subscript (.Name y py) b sp] e pos :: rest) Dn :=
  ws_cons (ps_asg pe_c hg hs1 hw) fun σ H hs => by
    refine h σ H hs _ fun v H1 l1 rv => ?_
    refine ⟨.ref q', l1.1.adr n q' hi, ?_⟩
    have s1 := l1.1.tell (⟨fun G => Rp w.K G v d, fun G G' e r => r.mono e⟩ : Gh) rv
    refine hx σ H1 l1.1 _ fun u H2 l2 r2 => ?_
    obtain ⟨ys, e2, ry⟩ := l2.1.get hk
    refine ⟨q', ys, i, t, rfl, by rw [rp_int r2], e2, ixN_of ht (by rw [ry.length]; exact htl), ?_⟩
    exact q σ _ (l2.1.write (c := .l (ds.set t d)) (o := .lst (ys.set t v)) hk ⟨_, upd_same, ry.set t (rv.mono l2.ex)⟩).1
/-- found[i], found[j] = e1, e2 -/
theorem ws_swap (n m t u : Nat) {y : Str} {py py2 sp sp2 tp vp : Pos} {kt kv : Nat} {b' e2 : Expr} {j' : Int} {q' : Addr} (hK : X.K = w.K) (hi : env.s[n]? = some (.a q')) (hk : O[m]? = some (q', .l ds)) (h1 : EV w X e env O d1) (h2 : EV w X e2 env O d2)
    (hx : ∀ ds', EV w X b env (O.set m (q', .l ds')) (.int i)) (hx2 : ∀ ds', EV w X b' env (O.set m (q', .l ds')) (.int j')) (ht : i = (t : Int)) (hu : j' = (u : Int)) (htl : t < ds.length) (hul : u < ds.length) (q : WPS w X env (O.set m (q', .l ((ds.set t d1).set u d2))) rest Dn)
    (hN : X.N[n]? = some y := by rfl) (hv : Vis X.env.scope y := by first | exact Or.inl rfl | exact Or.inr (Or.inl rfl) | exact Or.inr (Or.inr rfl)) (hd : (y == ("__debug__" : Str)) = false := by decide) (hcd : (y == ("__classdict__" : Str)) = false := by decide)
    (hg : PG X (.Tuple [.Subscript (.Name y py) b sp, .Subscript (.Name y py2) b' sp2] kt tp) (gTup X.K 2 (gCons (gSub (tVar n) (RE X b) rSetL) (gCons (gSub (tVar n) (RE X b') rSetL) gNil))))
    (he1 : starEach [e, e2] X.env = (false, eval e X.env) :: starEach [e2] X.env := by rfl) (he2 : starEach [e2] X.env = (false, eval e2 X.env) :: starEach [] X.env := by rfl)
    (hs1 : swapsWithSole [.Tuple [.Subscript (.Name y py) b sp, .Subscript (.Name y py2) b' sp2] kt tp] (.Tuple [e, e2] kv vp) pos.line X.env = pure false := by rfl) (hw : swappedStores [.Tuple [.Subscript (.Name y py) b sp, .Subscript (.Name y py2) b' sp2] kt tp] (.Tuple [e, e2] kv vp) X.env = pure none := by rfl) :
    WPS w X env O (.Assign [.Tuple [.Subscript (.Name y py) b sp, .Subscript (.Name y py2) b' sp2] kt tp] (.Tuple [e, e2] kv vp) pos :: rest) Dn :=
  ws_cons (ps_asg (pe_tup (pa_cons pe_c (pa_cons pe_c pa_nil he2) he1)) hg hs1 hw) fun σ H hs => by
    refine h1 σ H hs _ fun v H1 l1 rv => h2 σ H1 l1.1 _ fun v2 H2 l2 rv2 => ⟨by show 2 ≤ sizeLine; decide, fun T hT => ?_⟩
    have s3 := (l2.1.new (o := .tup [v, v2]) hT)
    refine ⟨T, [v, v2], rfl, .inl (.inl upd_same), rfl, v, [v2], rfl, ?_⟩
    have lT : Lv w env O σ H2 (upd H2 T (.tup [v, v2])) := Lv.new l2.1 hT
    refine ⟨.ref q', s3.1.adr n q' hi, ?_⟩
    have hO : O.set m (q', .l ds) = O := by
      apply List.ext_getElem?
      intro z
      rw [List.getElem?_set]
      split
      · rename_i ez; subst ez
        split
        · exact hk.symm
        · rename_i hl; exact absurd (List.getElem?_eq_some_iff.mp hk).1 hl
      · rfl
    have hx' : EV w X b env O (.int i) := by
      have := hx ds
      rw [hO] at this
      exact this
    refine hx' σ _ s3.1 _ fun x1 H3 l3 r3 => ?_
    obtain ⟨ys, e3, ry⟩ := l3.1.get hk
    refine ⟨q', ys, i, t, rfl, by rw [rp_int r3], e3, ixN_of ht (by rw [ry.length]; exact htl), ?_⟩
    have w3 := l3.1.write (c := .l (ds.set t d1)) (o := .lst (ys.set t v)) hk ⟨_, upd_same, ry.set t (rv.mono ((l2.ex.trans lT.ex).trans l3.ex))⟩
    refine ⟨v2, [], rfl, .ref q', w3.1.adr n q' hi, ?_⟩
    refine hx2 _ σ _ w3.1 _ fun x2 H4 l4 r4 => ?_
    have hk4 : (O.set m (q', .l (ds.set t d1)))[m]? = some (q', .l (ds.set t d1)) := List.getElem?_set_self (List.getElem?_eq_some_iff.mp hk).1
    obtain ⟨zs, e4, rz⟩ := l4.1.get hk4
    refine ⟨q', zs, j', u, rfl, by rw [rp_int r4], e4, ixN_of hu (by rw [rz.length, List.length_set]; exact hul), ?_⟩
    have r2' : Rp w.K (w.G (O.set m (q', .l (ds.set t d1))) H4) v2 d2 := by
      refine Rp.mono l4.ex ?_
      rw [w3.2]
      exact rv2.mono (lT.ex.trans l3.ex)
    have w4 := l4.1.write (c := .l ((ds.set t d1).set u d2)) (o := .lst (zs.set u v2)) hk4 ⟨_, upd_same, rz.set u r2'⟩
    rw [List.set_set] at w4
    exact ⟨rfl, q σ _ w4.1⟩
/-- x += e, ints -/
theorem ws_aug (n : Nat) {y : Str} {py : Pos} (hN' : X.N.Nodup) (hi : env.s[n]? = some (.d (.int i))) (h : EV w X e env O (.int j)) (q : WPS w X (env.put n (.d (.int (i + j)))) O rest Dn) (hN : X.N[n]? = some y := by rfl) (hx : Loc X.env.scope y := by first | exact .inl rfl | exact .inr rfl)
    (hf : X.fn y = true ∨ X.env.scope.names.lookup y = some .local := by first | exact .inl rfl | exact .inr rfl) : WPS w X env O (.AugAssign (.Name y py) .Add e pos :: rest) Dn :=
  ws_cons (ps_aug hN' hN hx pe_c ip_add hf) fun σ H hs => by
    obtain ⟨v, e1, r1⟩ := hs.dat n _ hi
    refine ⟨v, e1, h σ H hs _ fun u H1 l1 r2 => ⟨i, j, rp_int r1, rp_int r2, ?_⟩⟩
    exact q _ H1 (l1.1.set n (.v rfl))
/-- found[i] += e, ints -/
theorem ws_augI (n m t : Nat) {y : Str} {py sp : Pos} {q' : Addr} {i' : Int} (hK : X.K = w.K) (hi : env.s[n]? = some (.a q')) (hk : O[m]? = some (q', .l ds)) (hx : EV w X b env O (.int i)) (h : EV w X e env O (.int j)) (ht : i = (t : Int)) (htl : ds[t]? = some (.int i')) (q : WPS w X env (O.set m (q', .l (ds.set t (.int (i' + j))))) rest Dn)
    (hN : X.N[n]? = some y := by rfl) (hv : Vis X.env.scope y := by first | exact Or.inl rfl | exact Or.inr (Or.inl rfl) | exact Or.inr (Or.inr rfl)) (hd : (y == ("__debug__" : Str)) = false := by decide) (hcd : (y == ("__classdict__" : Str)) = false := by decide)
    (ha : ∀ ov iv new, augStore b ov iv new = (do holding [new, ov, iv] (setItem ov iv new); release [new, ov, iv] []; pure Flow.next) := by intros; rfl) : WPS w X env O (.AugAssign (.Subscript (.Name y py) b sp) .Add e pos :: rest) Dn :=
  ws_cons (st := .AugAssign (.Subscript (.Name y py) b sp) .Add e pos) (ps_augS (pe_var hN hv hd hcd) pe_c pget_list pe_c ip_add set_list ha) fun σ H hs => by
    refine ⟨.ref q', hs.adr n q' hi, hx σ H hs _ fun u H1 l1 r1 => ?_⟩
    obtain ⟨ys, e1, ry⟩ := l1.1.get hk
    obtain ⟨v, hv', rv⟩ := ry.get htl
    refine ⟨q', ys, i, v, rfl, rp_int r1, .inl (.inl e1), by rw [ht]; exact atI_nat hv', ?_⟩
    refine h σ H1 l1.1 _ fun z H2 l2 r2 => ⟨i', j, rp_int rv, rp_int r2, ?_⟩
    obtain ⟨zs, e2, rz⟩ := l2.1.get hk
    refine ⟨q', zs, i, t, rfl, rp_int r1, e2, ixN_of ht (by rw [rz.length]; exact (List.getElem?_eq_some_iff.mp htl).1), ?_⟩
    exact q σ _ (l2.1.write (c := .l (ds.set t (.int (i' + j)))) (o := .lst (zs.set t (.int (i' + j)))) hk ⟨_, upd_same, rz.set t (.v rfl)⟩).1
end
end Mp
end
section
set_option Elab.async false
set_option linter.all false
set_option maxRecDepth 100000
set_option maxHeartbeats 4000000
/-! Mp8: loops, defs. -/
namespace Mp
open PySem PySem.Spec PyProof.Rows L2
section
variable {w : Wd} {X : Cx} {env : En} {O : Os} {σ : L2.St} {H H1 H2 H' : Hp} {e a b c : Expr} {es : List Expr} {p pos pos2 : Pos} {d d1 d2 : D} {i j : Int} {ds es' : List D} {x : Str} {k : Nat} {Dn : Ends} {st : Stmt} {ss rest body orelse : List Stmt} {tg iter : Expr}
/-! ### what a for walks: data -/
def IV (w : Wd) (X : Cx) (tg iter : Expr) (env : En) (O : Os) (ds : List D) : Prop := ∃ wi, PI X tg iter wi ∧ ∀ σ H, Sd w env O σ H → ∀ R : It → Hp → Prop,
  (∀ J Gd Y H1 (P : Gh), Lv w env O σ H H1 → P.P (w.G O H1) → Walk J ds.length Gd Y → (∀ G H2, Ex G H2 → P.P G → Gd H2) → (∀ G i H2 x H3, i < ds.length → Ex G H2 → P.P G → Y i H2 x H3 → Yld w G ds i H2 x H3) → R J H1) → wi σ H R
theorem iv_L (ha : EV w X a env O (.lst ds)) : IV w X tg a env O ds := ⟨_, pi_list pe_c, fun σ H h R q => ha σ H h _ fun v H1 l r => by
  cases r with
  | lst h1 r1 =>
    rename_i a xs
    refine ⟨a, rfl, ⟨xs, .inl (.inl (mn_le _ _ _ _ h1))⟩, ?_⟩
    have hl := r1.length
    refine q (Itl X.K a) (fun H => SqL X.K H a xs) (YAt xs) H1 ⟨fun G => G a = some (.lst xs) ∧ RpA w.K G xs ds, fun G G' e r => ⟨e _ _ r.1, r.2.mono e⟩⟩ l ⟨h1, r1⟩ (hl ▸ walk_list) (fun G H2 e r => .inl (.inl (e _ _ r.1))) fun G i H2 x H3 hi e r y => ?_
    obtain ⟨e3, ex⟩ := y
    obtain ⟨d, hd, rd⟩ := r.2.getV ex
    exact ⟨d, hd, .inl ⟨e3, rd⟩⟩⟩
theorem iv_U (hk : X.K = w.K) (ha : EV w X a env O (.tup ds)) : IV w X tg a env O ds := ⟨_, pi_tup pe_c, fun σ H h R q => ha σ H h _ fun v H1 l r => by
  cases r with
  | tup h1 r1 =>
    rename_i a xs
    refine ⟨a, rfl, ⟨xs, by rw [hk]; exact ex_t (mn_le _ _) h1⟩, ?_⟩
    have hl := r1.length
    refine q (Itt X.K a) (fun H => SqT X.K H a xs) (YAt xs) H1 ⟨fun G => G a = some (.tup xs) ∧ RpA w.K G xs ds, fun G G' e r => ⟨ex_e e r.1, r.2.mono e⟩⟩ l ⟨h1, r1⟩ (hl ▸ walk_tup) (fun G H2 e r => by rw [hk]; exact ex_t e r.1) fun G i H2 x H3 hi e r y => ?_
    obtain ⟨e3, ex⟩ := y
    obtain ⟨d, hd, rd⟩ := r.2.getV ex
    exact ⟨d, hd, .inl ⟨e3, rd⟩⟩⟩
theorem iv_R2 {nm : Pos} (hg : Gl X "range") (hm : X.mg "range" = none) (ha : EV w X a env O (.int i)) (hb : EV w X b env O (.int j)) (hr : -(2 ^ 62) ≤ i ∧ i < 2 ^ 62 ∧ -(2 ^ 62) ≤ j ∧ j < 2 ^ 62) (hs : starEach [a, b] X.env = [(false, eval a X.env), (false, eval b X.env)] := by rfl) (hs2 : starEach [b] X.env = [(false, eval b X.env)] := by rfl) :
    IV w X tg (.Call (.Name "range" nm) [a, b] [] pos) env O (iL (rg i j)) := ⟨_, pi_range2 hg hm (pa_cons pe_c (pa_cons pe_c pa_nil (by rw [hs2]; rfl)) (by rw [hs, hs2])) hs hs2, fun σ H h R q => ha σ H h _ fun v H1 l1 r1 => hb σ H1 l1.1 _ fun u H2 l2 r2 => by
  refine ⟨i, j, by rw [rp_int r1, rp_int r2], hr, ?_⟩
  refine q (Itr i (j - i).toNat) (fun _ => True) (YFn fun k => .int (i + k)) H2 ⟨fun _ => True, fun _ _ _ h => h⟩ (l1.trans l2) trivial (by simp only [iL, rg, List.length_map, List.length_range]; exact walk_range) (fun _ _ _ _ => trivial) fun G k H3 x H4 hk kp _ y => ?_
  obtain ⟨e3, ex⟩ := y
  exact ⟨_, rg_get i j hk, .inl ⟨e3, by rw [ex]; exact .v rfl⟩⟩⟩
theorem iv_R1 {nm : Pos} (hg : Gl X "range") (hm : X.mg "range" = none) (ha : EV w X a env O (.int i)) (hr : -(2 ^ 62) ≤ i ∧ i < 2 ^ 62) (hs : starEach [a] X.env = [(false, eval a X.env)] := by rfl) :
    IV w X tg (.Call (.Name "range" nm) [a] [] pos) env O (iL (rg 0 i)) := ⟨_, pi_range1 hg hm (pa_cons pe_c pa_nil (by rw [hs]; rfl)) hs, fun σ H h R q => ha σ H h _ fun v H1 l1 r1 => by
  refine ⟨i, by rw [rp_int r1], hr.1, hr.2, ?_⟩
  refine q (Itr 0 i.toNat) (fun _ => True) (YFn fun k => .int (0 + k)) H1 ⟨fun _ => True, fun _ _ _ h => h⟩ l1 trivial (by simp only [iL, rg, List.length_map, List.length_range, Int.sub_zero]; exact walk_range) (fun _ _ _ _ => trivial) fun G k H3 x H4 hk kp _ y => ?_
  obtain ⟨e3, ex⟩ := y
  exact ⟨_, rg_get 0 i hk, .inl ⟨e3, by rw [ex]; exact .v rfl⟩⟩⟩
/-- i, i - 1, .. above j -/
def rgd (i j : Int) : List Int := (List.range (i - j).toNat).map fun (k : Nat) => i + (k : Int) * (-1)
theorem iv_R3 {nm : Pos} (hg : Gl X "range") (hm : X.mg "range" = none) (ha : EV w X a env O (.int i)) (hb : EV w X b env O (.int j)) (hc : EV w X c env O (.int (-1))) (hr : -(2 ^ 62) ≤ i ∧ i < 2 ^ 62 ∧ -(2 ^ 62) ≤ j ∧ j < 2 ^ 62)
    (h1 : starEach [a, b, c] X.env = (false, eval a X.env) :: starEach [b, c] X.env := by rfl) (h2 : starEach [b, c] X.env = (false, eval b X.env) :: starEach [c] X.env := by rfl) (h3 : starEach [c] X.env = (false, eval c X.env) :: starEach [] X.env := by rfl) (hpl : (backTo pos (starEach [b, c] X.env)).any (·.1) = false := by rfl) :
    IV w X tg (.Call (.Name "range" nm) [a, b, c] [] pos) env O (iL (rgd i j)) := ⟨_, pi_range3 hg hm (pa_cons pe_c (pa_cons pe_c (pa_cons pe_c pa_nil h3) h2) h1) h1 hpl, fun σ H h R q => ha σ H h _ fun v H1 l1 r1 => hb σ H1 l1.1 _ fun u H2 l2 r2 => hc σ H2 l2.1 _ fun t H3 l3 r3 => by
  refine ⟨i, j, -1, (i - j).toNat, by rw [rp_int r1, rp_int r2, rp_int r3], .neg hr.1 hr.2.1 hr.2.2.1 hr.2.2.2, ?_⟩
  refine q (Itc i (-1) (i - j).toNat) (fun _ => True) (YFn fun k => .int (i + (k : Nat) * (-1))) H3 ⟨fun _ => True, fun _ _ _ h => h⟩ ((l1.trans l2).trans l3) trivial (by simp only [iL, rgd, List.length_map, List.length_range]; exact walk_rangeC) (fun _ _ _ _ => trivial) fun G k H4 x H5 hk kp _ y => ?_
  obtain ⟨e3, ex⟩ := y
  simp only [iL, rgd, List.length_map, List.length_range] at hk
  exact ⟨.int (i + (k : Int) * (-1)), by simp [iL, rgd, hk], .inl ⟨e3, by rw [ex]; exact .v rfl⟩⟩⟩
/-- two lists side by side -/
theorem iv_zip {nm tp : Pos} {elts : List Expr} {kk : Nat} {n : Nat} (hg : Gl X "zip") (hm : X.mg "zip" = none) (ha : EV w X a env O (.lst ds)) (hb : EV w X b env O (.lst es')) (hn : n = min ds.length es'.length)
    (h1 : starEach [a, b] X.env = (false, eval a X.env) :: starEach [b] X.env := by rfl) (h2 : starEach [b] X.env = (false, eval b X.env) :: starEach [] X.env := by rfl) (hpl : (backTo pos (starEach [b] X.env)).any (·.1) = false := by rfl) :
    IV w X (.Tuple elts kk tp) (.Call (.Name "zip" nm) [a, b] [] pos) env O ((ds.zip es').map fun z => .tup [z.1, z.2]) := ⟨_, pi_zip hg hm (pa_cons pe_c (pa_cons pe_c pa_nil h2) h1) h1 hpl, fun σ H h R q => ha σ H h _ fun v H1 l1 r1 => hb σ H1 l1.1 _ fun u H2 l2 r2 => by
  cases r1 with
  | lst ea ra =>
    cases r2 with
    | lst eb rb =>
      rename_i a xs b' ys
      have ea2 := l2.ex _ _ ea
      have ra2 := ra.mono l2.ex
      refine ⟨a, b', xs, ys, rfl, .inl (.inl (mn_le _ _ _ _ ea2)), .inl (.inl (mn_le _ _ _ _ eb)), ?_⟩
      have hl1 := ra.length
      have hl2 := rb.length
      refine q (Itz X.K a b') (fun H => SqL X.K H a xs ∧ SqL X.K H b' ys) (YPair (fun i => xs[i]?) (fun i => ys[i]?)) H2 ⟨fun G => (G a = some (.lst xs) ∧ RpA w.K G xs ds) ∧ G b' = some (.lst ys) ∧ RpA w.K G ys es', fun G G' e r => ⟨⟨e _ _ r.1.1, r.1.2.mono e⟩, e _ _ r.2.1, r.2.2.mono e⟩⟩ (l1.trans l2) ⟨⟨ea2, ra2⟩, eb, rb⟩
        (walk_zip (by rw [List.length_map, List.length_zip, hl1, hl2])) (fun G H2 e r => ⟨.inl (.inl (e _ _ r.1.1)), .inl (.inl (e _ _ r.2.1))⟩) fun G i H3 x H4 hi e r y => ?_
      obtain ⟨T, x1, x2, hx, hT, hH, f1, f2⟩ := y
      obtain ⟨d1, hd1, rd1⟩ := r.1.2.getV f1
      obtain ⟨d2, hd2, rd2⟩ := r.2.2.getV f2
      refine ⟨.tup [d1, d2], ?_, .inr ⟨T, [x1, x2], [d1, d2], hx, hT, hH, .cons rd1 (.one rd2), rfl⟩⟩
      have hz : (ds.zip es')[i]? = some (d1, d2) := by
        rw [List.getElem?_zip_eq_some]
        exact ⟨hd1, hd2⟩
      rw [List.getElem?_map, hz]
      rfl⟩

/-! ### for -/
/-- a target takes an item -/
def BnS (w : Wd) (g : TG) (x : D) (f : En → En) : Prop := ∀ env O σ H v, Sd w env O σ H → Rp w.K (w.G O H) v x → ∀ Kt : L2.St → Hp → Prop, (∀ σ2, Sd w (f env) O σ2 H → Kt σ2 H) → g v σ H Kt
theorem bns_name (n : Nat) (x : D) : BnS w (gName n) x (fun env => env.put n (.d x)) := fun env O σ H v h r Kt q => q _ (h.set n r)
theorem bns_pair (hk : X.K = w.K) (m n : Nat) (x y : D) : BnS w (gTup X.K 2 (gCons (gName m) (gCons (gName n) gNil))) (.tup [x, y]) (fun env => (env.put m (.d x)).put n (.d y)) := fun env O σ H v h r Kt q => by
  cases r with
  | tup h1 r1 =>
    rename_i a xs
    cases r1 with
    | cons rx r2 =>
      cases r2 with
      | cons ry r3 =>
        cases r3
        exact ⟨a, _, rfl, by rw [hk]; exact ex_t (mn_le _ _) h1, rfl, _, _, rfl, _, _, rfl, rfl, q _ ((h.set m rx).set n ry)⟩
theorem ws_forG {g : TG} {f : D → En → En} (Pv : Gh → Nat → L2.St → Hp → Prop) (hc : X.calm = true) (hi : IV w X tg iter env O ds) (hg : PG X tg g) (hb : ∀ d ∈ ds, BnS w g d (f d))
    (h0 : ∀ gh σ H, Sd w (env.tell gh) O σ H → Pv gh 0 σ H) (hsd : ∀ gh i σ H, i ≤ ds.length → Pv gh i σ H → ∃ (env' : En) (O' : Os), Sd w (env'.tell gh) O' σ H)
    (hs : ∀ gh i d, ds[i]? = some d → ∀ σ H, Pv gh i σ H → ∃ (env' : En) (O' : Os), Sd w (env'.tell gh) O' σ H ∧ WPS w X (f d (env'.tell gh)) O' body { Dn with nx := Pv gh (i + 1), ct := Pv gh (i + 1), bk := RS X rest Dn })
    (hd : ∀ gh σ H, Pv gh ds.length σ H → RS X rest Dn σ H) (hsf : ∀ x, foldedSetIterable iter X.env x = pure x := by intro _; rfl) (hp : PassesOwn (model X.prog X.w) X.A X.env X.xe := by exact PassesOwn.never) : WPS w X env O (.For tg iter body [] pos :: rest) Dn := by
  obtain ⟨wi, pi, hw⟩ := hi
  refine ws_cons (ps_for hp hc pi hg pss_c hsf) fun σ H hs0 => ?_
  refine hw σ H hs0 _ fun J Gd Y H1 P l1 hP wk kg ky => ?_
  refine for_it wk (Pv P) (h0 P σ H1 (l1.1.tell P hP)) ?_ ?_ ?_
  · intro i σ H hi z
    obtain ⟨env', O', s⟩ := hsd P i σ H hi z
    exact kg _ _ (mn_le _ _) (s.gh P (List.mem_cons_self ..))
  · intro i x σ H2 H3 hlt z y
    have hd' : ds[i]? = some ds[i] := List.getElem?_eq_getElem hlt
    obtain ⟨env', O', s, run⟩ := hs P i ds[i] hd' σ H2 z
    have pg := s.gh P (List.mem_cons_self ..)
    obtain ⟨d, hd2, yy⟩ := ky (w.G O' H2) i H2 x H3 hlt (mn_le _ _) pg y
    have ed : d = ds[i] := Option.some.inj (hd2.symm.trans hd')
    subst ed
    have step : Sd w (env'.tell P) O' σ H3 ∧ Rp w.K (w.G O' H3) x ds[i] := by
      rcases yy with ⟨e3, rr⟩ | ⟨T, ys, es, rfl, hT, e3, ry, e4⟩
      · subst e3; exact ⟨s, rr⟩
      · subst e3
        rw [e4]
        exact ⟨(Lv.new s hT).1, Lv.newT s hT ry⟩
    refine hb ds[i] (List.getElem_mem hlt) _ O' σ H3 x step.1 step.2 _ fun σ2 s2 => ?_
    exact run σ2 H3 s2
  · exact fun σ H z => hd P σ H z
/-- told by the turn alone -/
theorem ws_for {g : TG} {f : D → En → En} (I : Nat → En) (Oi : Nat → Os) (hc : X.calm = true) (hi : IV w X tg iter env O ds) (hg : PG X tg g) (hb : ∀ d ∈ ds, BnS w g d (f d))
    (h0 : ∀ σ H g, Sd w (env.tell g) O σ H → Sd w ((I 0).tell g) (Oi 0) σ H)
    (hs : ∀ gh i d, ds[i]? = some d → WPS w X (f d ((I i).tell gh)) (Oi i) body { Dn with nx := Sd w ((I (i + 1)).tell gh) (Oi (i + 1)), ct := Sd w ((I (i + 1)).tell gh) (Oi (i + 1)), bk := RS X rest Dn })
    (hd : WPS w X (I ds.length) (Oi ds.length) rest Dn) (hsf : ∀ x, foldedSetIterable iter X.env x = pure x := by intro _; rfl) (hp : PassesOwn (model X.prog X.w) X.A X.env X.xe := by exact PassesOwn.never) : WPS w X env O (.For tg iter body [] pos :: rest) Dn :=
  ws_forG (fun gh i => Sd w ((I i).tell gh) (Oi i)) hc hi hg hb (fun gh σ H h => h0 σ H gh h) (fun gh i σ H _ h => ⟨_, _, h⟩) (fun gh i d e σ H h => ⟨_, _, h, hs gh i d e⟩) (fun gh σ H h => hd σ H h.hush) hsf hp
/-- while, told by a state that falls -/
theorem ws_while {α : Type} (I : α → En) (Oi : α → Os) (m : α → Nat) (z0 : α) (t : α → Bool) (h0 : ∀ σ H, Sd w env O σ H → Sd w (I z0) (Oi z0) σ H) (hc : ∀ z, TV w X c (I z) (Oi z) (t z))
    (hs : ∀ z, t z = true → WPS w X (I z) (Oi z) body { Dn with nx := fun σ H => ∃ z', m z' < m z ∧ Sd w (I z') (Oi z') σ H, ct := fun σ H => ∃ z', m z' < m z ∧ Sd w (I z') (Oi z') σ H, bk := RS X rest Dn })
    (hd : ∀ z, t z = false → WPS w X (I z) (Oi z) rest Dn) (hp : PassesOwn (model X.prog X.w) X.A X.env X.xe := by exact PassesOwn.never) : WPS w X env O (.While c body [] pos :: rest) Dn :=
  ws_cons (ps_while hp pt_c pss_c) fun σ H hs0 => by
    refine ⟨fun n σ H => ∃ z, m z = n ∧ Sd w (I z) (Oi z) σ H, ⟨_, z0, rfl, h0 σ H hs0⟩, fun n σ H ⟨z, e, s⟩ => ?_⟩
    refine hc z σ H s _ fun H1 l1 => ?_
    subst e
    cases ht : t z with
    | true =>
      refine iteT ⟨fun σ H => ∃ z', m z' < m z ∧ Sd w (I z') (Oi z') σ H, fun σ' H' ⟨z', hz, s'⟩ => ⟨m z', hz, z', rfl, s'⟩, ?_⟩
      exact hs z ht σ H1 l1.1
    | false => exact iteF (hd z ht σ H1 l1.1)

/-! ### slots forgotten -/
inductive Wk : List Sl → List Sl → Prop
  | nil : Wk [] []
  | keep {x : Sl} {a b : List Sl} : Wk a b → Wk (x :: a) (x :: b)
  | drop {x : Sl} {a b : List Sl} : Wk a b → Wk (x :: a) (.no :: b)
theorem Wk.len {a b : List Sl} (h : Wk a b) : b.length = a.length := by
  induction h with
  | nil => rfl
  | keep _ ih => simp [ih]
  | drop _ ih => simp [ih]
theorem Wk.get {a b : List Sl} (h : Wk a b) : ∀ i : Nat, b[i]? = a[i]? ∨ b[i]? = some .no := by
  induction h with
  | nil => exact fun i => .inl rfl
  | keep _ ih =>
    intro i
    cases i with
    | zero => exact .inl rfl
    | succ i => simpa using ih i
  | drop _ ih =>
    intro i
    cases i with
    | zero => exact .inr rfl
    | succ i => simpa using ih i
theorem Sd.wk {s1 s2 : List Sl} {g : List Gh} (h : Sd w ⟨s1, g⟩ O σ H) (k : Wk s1 s2) : Sd w ⟨s2, g⟩ O σ H := h.weak k.len (fun _ z => z) k.get

/-! ### defs -/
/-- what stays fixed while a def without side effects runs -/
def pw (K : PySem.W.Frag) (A : List Addr) (H : Hp) : Wd := ⟨K, A, H, [], fun _ => True, fun b h => (by simp at h), fun _ _ _ _ => trivial⟩
/-- the slots at a def's start -/
def sl0 (n : Nat) (ds : List D) : List Sl := ds.map .d ++ List.replicate (n - ds.length) .no
theorem sd_start {K : PySem.W.Frag} {A : List Addr} {H : Hp} {N : List Str} {vs : List V} (r : RpA K (mn A H) vs ds) (ha : ∀ a ∈ A, NT (H a)) (hl : ds.length ≤ N.length) : Sd (pw K A H) ⟨sl0 N.length ds, []⟩ [] (start N vs) H where
  len := by
    have := r.length
    simp [L2.start, sl0, this]
  dat := fun i x hi => by
    have hlt : i < ds.length := by
      rcases Nat.lt_or_ge i ds.length with h | h
      · exact h
      · simp only [sl0] at hi
        rw [List.getElem?_append_right (by simpa using h)] at hi
        have := List.mem_of_getElem? hi
        have := List.eq_of_mem_replicate this
        cases this
    simp only [sl0] at hi
    rw [List.getElem?_append_left (by simpa using hlt), List.getElem?_map, List.getElem?_eq_getElem hlt] at hi
    have e : ds[i] = x := by
      have := Option.some.inj hi
      injection this
    obtain ⟨v, e1, r1⟩ := r.get (List.getElem?_eq_getElem hlt)
    rw [e] at r1
    refine ⟨v, ?_, r1⟩
    have hv : i < vs.length := (List.getElem?_eq_some_iff.mp e1).1
    simp only [L2.start]
    rw [List.getElem?_append_left (by simpa using hv), List.getElem?_map, e1]
    rfl
  adr := fun i p hi => by
    simp only [sl0] at hi
    rcases Nat.lt_or_ge i ds.length with h | h
    · rw [List.getElem?_append_left (by simpa using h), List.getElem?_map, List.getElem?_eq_getElem h] at hi
      have := Option.some.inj hi
      cases this
    · rw [List.getElem?_append_right (by simpa using h)] at hi
      have := List.eq_of_mem_replicate (List.mem_of_getElem? hi)
      cases this
  nd := List.nodup_nil
  fr := fun p hp => by simp at hp
  ok := fun q hq => by simp at hq
  ex := fun b o _ h => h
  tr := fun b hb => (ha b hb).1
  bt := ha
  gh := fun g hg => by simp at hg
  j := trivial
/-- the context of a def's body -/
abbrev BX (P : Program) (wl : World) (K : PySem.W.Frag) (mg : Str → Option Value) (base : Heap) (N : List Str) (qual : Str) (st : Stmt) (f : Addr) (cdv : Value) (A : Around) (outer : List Env) (s : Shared) (H : Hp) (E : XK) : Cx :=
  (cxOf CX0 P wl K mg base N qual (defScope st) f cdv A outer s H E).nox
theorem def_pure {P : Program} {wl : World} {K : PySem.W.Frag} {mg : Str → Option Value} {base : Heap} {x : Str} {st : Stmt} {f : Addr} {fd : FuncData} {N ps : List Str} {R : List D → D → Prop} {k : Nat} (F : Fun K x x st f fd) (g : mg x = some (.ref f)) (S : FnScope N ps (defScope st)) (b : Binds K fd ps [])
    (hl : ∀ ds d, R ds d → ds.length = ps.length) (hN : ps.length ≤ N.length)
    (body : ∀ (cdv : Value) (A : Around) (outer : List Env) (s : Shared) (H : Hp) (E : XK) (L : List Addr) (Dn : Ends) (ds : List D) (d : D), Room k (BX P wl K mg base N x st f cdv A outer s H E).A → R ds d → Ret (pw K L H) Dn d → (∀ σ H', Dn.rt .non H' → Dn.nx σ H') →
      WPS (pw K L H) (BX P wl K mg base N x st f cdv A outer s H E) ⟨sl0 N.length ds, []⟩ [] (defBody st) Dn) : Def P wl K mg base x (k + 1) (PF K R) := by
  refine ⟨f, fd, ps, F.ok S (fun vs H Q E h => ?_) (fun cdv A outer s H vs Q E hr h => ?_), g, F.kp, b⟩
  · obtain ⟨A, ds, d, r, hR, _⟩ := h
    rw [r.length, hl ds d hR]
  · obtain ⟨L, ds, d, r, hR, ht, q⟩ := h
    refine ⟨_, pss_c, body cdv A outer s H E L { nx := fun _ H' => Q .non H', rt := Q } ds d hr hR (fun v H' ex bt _ rv => q v H' (fun b o e => ex b o (by simp [pw]) e) rv) (fun σ H' h => h) _ H (sd_start r ht (by rw [hl ds d hR]; exact hN))⟩
end
end Mp
end
section
set_option Elab.async false
set_option linter.all false
set_option maxRecDepth 100000
set_option maxHeartbeats 4000000
/-! Mp9: isinstance; more. -/
namespace Mp
open PySem PySem.Spec PyProof.Rows L2
section
variable {w : Wd} {X : Cx} {env : En} {O : Os} {σ : L2.St} {H H1 H2 H' : Hp} {e a b c : Expr} {es : List Expr} {p pos pos2 : Pos} {d d1 d2 : D} {i j : Int} {ds es' : List D} {x : Str} {k : Nat} {Dn : Ends} {st : Stmt} {ss rest body orelse : List Stmt} {tg iter : Expr}
/-- the name of the built-in class of data -/
def D.ty : D → String
  | .v .non => "NoneType"
  | .v (.bl _) => "bool"
  | .v (.int _) => "int"
  | .v (.str _) => "str"
  | .v _ => "object"
  | .lst _ => "list"
  | .tup _ => "tuple"
  | .dT _ => "dict"
theorem tyT {K : PySem.W.Frag} {H : Hp} {a : Addr} {xs : List V} (h : SqT K H a xs) : TyX K H (.ref a) (.type "tuple") := by
  rcases h with (h | ⟨o, h⟩) | ⟨o, its, n, h, c, _⟩
  · exact .base (.tup h)
  · exact .fTuple h
  · exact .kTuple h c
theorem rp_ty {K : PySem.W.Frag} {H : Hp} {v : V} (h : Rp K H v d) (hf : d.noD = true) : TyX K H v (.type d.ty) := by
  cases h with
  | v hx =>
    cases v with
    | non => exact .base .non
    | bl b => exact .base (.bl b)
    | int i => exact .base (.int i)
    | str s => exact .base (.str s)
    | byt _ => cases hx
    | flt _ => cases hx
    | ref _ => simp [D.noD, flat0] at hf
    | ty _ => cases hx
  | lst h1 _ => exact .base (.lst h1)
  | tup h1 _ => exact tyT (.inl (.inl h1))
  | dT _ => simp [D.noD] at hf
theorem ev_isi {T : Str} {bb : Bool} {nm : Pos} {Tn : String} (hk : X.K = w.K) (hg : Gl X "isinstance") (hm : X.mg "isinstance" = none) (ha : EF w X a env O d) (hf : d.noD = true) (hgT : Gl X T) (hmT : X.mg T = none) (hT : bootBuiltins T = some (.type Tn)) (hb : kitB d.ty Tn = some bb)
    (hn : T ≠ "__name__" := by decide) (hdd : (T == ("__debug__" : Str)) = false := by decide) (h1 : starEach [a, .Name T nm] X.env = (false, eval a X.env) :: starEach [.Name T nm] X.env := by rfl) (hpl : (backTo pos (starEach [.Name T nm] X.env)).any (·.1) = false := by rfl) :
    EV w X (.Call (.Name "isinstance" p) [a, .Name T nm] [] pos) env O (.bl bb) := fun σ H h Q q =>
  re_of (pe_callB call_isi hg hm (by decide +kernel) (pa_cons pe_c (pa_cons (pe_bltn (v := .ty Tn) hgT hmT hT rfl hn hdd) pa_nil) h1) (by decide) (by decide) h1 hpl) (ha σ H h _ fun v H1 l r => by
    refine ⟨v, .ty Tn, .type d.ty, .type Tn, bb, rfl, .ty Tn, ?_, kit_ty hb, q _ H1 l (.v rfl)⟩
    rw [hk]
    exact rp_ty (r H1 (.refl l.1)) hf)
theorem ev_isi2 {T U : Str} {bb cc : Bool} {nm nm2 tp : Pos} {kt : Nat} {Tn Un : String} (hk : X.K = w.K) (hg : Gl X "isinstance") (hm : X.mg "isinstance" = none) (ha : EF w X a env O d) (hf : d.noD = true) (hgT : Gl X T) (hmT : X.mg T = none) (hT : bootBuiltins T = some (.type Tn)) (hgU : Gl X U) (hmU : X.mg U = none) (hU : bootBuiltins U = some (.type Un))
    (hb : kitB d.ty Tn = some bb) (hc : kitB d.ty Un = some cc)
    (hn : T ≠ "__name__" := by decide) (hdd : (T == ("__debug__" : Str)) = false := by decide) (hn2 : U ≠ "__name__" := by decide) (hdd2 : (U == ("__debug__" : Str)) = false := by decide) (h1 : starEach [a, .Tuple [.Name T nm, .Name U nm2] kt tp] X.env = (false, eval a X.env) :: starEach [.Tuple [.Name T nm, .Name U nm2] kt tp] X.env := by rfl) (hpl : (backTo pos (starEach [.Tuple [.Name T nm, .Name U nm2] kt tp] X.env)).any (·.1) = false := by rfl) :
    EV w X (.Call (.Name "isinstance" p) [a, .Tuple [.Name T nm, .Name U nm2] kt tp] [] pos) env O (.bl (bb || cc)) := fun σ H h Q q =>
  re_of (pe_callB call_isiT hg hm (by decide +kernel) (pa_cons pe_c (pa_cons (pe_tup (pa_cons (pe_bltn (v := .ty Tn) hgT hmT hT rfl hn hdd) (pa_cons (pe_bltn (v := .ty Un) hgU hmU hU rfl hn2 hdd2) pa_nil))) pa_nil) h1) (by decide) (by decide) h1 hpl) (ha σ H h _ fun v H1 l r => by
    refine ⟨by show 2 ≤ sizeLine; decide, fun T' hT' => ?_⟩
    have l2 : Lv w env O σ H1 (upd H1 T' (.tup [.ty Tn, .ty Un])) := Lv.new l.1 hT'
    refine ⟨v, T', [.ty Tn, .ty Un], .type d.ty, [.type Tn, .type Un], bb || cc, rfl, upd_same, .cons (.ty Tn) (.cons (.ty Un) .nil), ?_, kitAny_cons (kit_ty hb) (fun z => ?_) (fun z => by rw [z]; rfl), q _ _ (l.trans l2) (.v rfl)⟩
    · rw [hk]
      exact rp_ty (r _ l2) hf
    · rw [z, Bool.false_or]
      refine kitAny_cons (kit_ty hc) (fun z2 => by rw [z2]; exact kitAny_nil) (fun z2 => z2))
theorem kb_ii : kitB "int" "int" = some true := by decide +kernel
theorem kb_ib : kitB "int" "bool" = some false := by decide +kernel
theorem kb_tt : kitB "tuple" "tuple" = some true := by decide +kernel
theorem kb_tl : kitB "tuple" "list" = some false := by decide +kernel
theorem kb_lt : kitB "list" "tuple" = some false := by decide +kernel
theorem kb_ll : kitB "list" "list" = some true := by decide +kernel
theorem EL.to {ds1 : List D} (h : EL w X e env O ds) (q : ds = ds1) : EL w X e env O ds1 := q ▸ h
theorem EN.to {ds1 : List D} (h : EN w X e env O ds) (q : ds = ds1) : EN w X e env O ds1 := q ▸ h
theorem ev_allF {α : Type} {f : α → Bool} {xs : List α} (hc : X.calm = true) (hg : Gl X "all") (hm : X.mg "all" = none) (ha : EL w X a env O (xs.map fun x => .bl (f x))) (he : starEach [a] X.env = (false, eval a X.env) :: starEach [] X.env := by rfl) : EV w X (.Call (.Name "all" p) [a] [] pos) env O (.bl (xs.all f)) :=
  (ev_all (l := xs.map f) hc hg hm (ha.to (by rw [List.map_map]; rfl)) he).to (by rw [List.all_map]; rfl)
theorem ev_anyF {α : Type} {f : α → Bool} {xs : List α} (hc : X.calm = true) (hg : Gl X "any") (hm : X.mg "any" = none) (ha : EL w X a env O (xs.map fun x => .bl (f x))) (he : starEach [a] X.env = (false, eval a X.env) :: starEach [] X.env := by rfl) : EV w X (.Call (.Name "any" p) [a] [] pos) env O (.bl (xs.any f)) :=
  (ev_any (l := xs.map f) hc hg hm (ha.to (by rw [List.map_map]; rfl)) he).to (by rw [List.any_map]; rfl)
/-- a module's int -/
theorem ev_globI {nm : Pos} (hg : Gl X x) (hm : ∃ t, X.mg x = some (.int i t)) (hdd : (x == ("__debug__" : Str)) = false := by decide) : EV w X (.Name x nm) env O (.int i) := fun σ H h Q q => by
  obtain ⟨t, hm⟩ := hm
  exact re_of (pe_glob (v := .int i) hg hm ⟨t, rfl⟩ hdd) (q _ H (.refl h) (.v rfl))
/-- a block's end may be said more narrowly -/
theorem _root_.L2.PSs.nxmono {X : Cx} {st : List Stmt} {t : TS} (h : PSs X st t) : PSs X st (fun D σ H => ∃ M : L2.St → Hp → Prop, t { D with nx := M } σ H ∧ ∀ σ' H', M σ' H' → D.nx σ' H') := ⟨fun pins s σ H D I ⟨M, q, m⟩ =>
  thn (h.run pins s σ H _ I q) fun f s' hf => by
    cases f with
    | next => obtain ⟨σ', H', I', z⟩ := hf; exact ⟨σ', H', I', m σ' H' z⟩
    | ret v => exact hf
    | brk => exact hf
    | cont => exact hf⟩
/-! ### slices -/
theorem cut_to {α : Type} (xs : List α) (k : Nat) : cut xs none (some (k : Int)) = xs.take k := by
  unfold cut
  rw [HT.sIx_none, HT.sIx_nat]
  simp
theorem cut_from {α : Type} (xs : List α) (k : Nat) : cut xs (some (k : Int)) none = xs.drop k := by
  unfold cut
  rw [HT.sIx_none, HT.sIx_nat]
  rcases Nat.le_total k xs.length with h | h
  · rw [Nat.min_eq_left h, List.take_of_length_le (by simp)]
  · rw [Nat.min_eq_right h]
    simp [List.drop_of_length_le h]
theorem cut_mid {α : Type} (xs : List α) {a b : Nat} (h : b ≤ xs.length) (hab : a ≤ b) : cut xs (some (a : Int)) (some (b : Int)) = (xs.drop a).take (b - a) := by
  unfold cut
  have e1 : min a xs.length = a := by omega
  have e2 : min b xs.length = b := by omega
  rw [HT.sIx_nat, HT.sIx_nat, e1, e2]
theorem mid4 {α : Type} (xs : List α) (z : α) {a : Nat} (h : a + 4 ≤ xs.length) : (xs.drop a).take 4 = [xs.getD a z, xs.getD (a + 1) z, xs.getD (a + 2) z, xs.getD (a + 3) z] := by
  apply List.ext_getElem?
  intro i
  rw [List.getElem?_take]
  match i with
  | 0 => simp [List.getD_eq_getElem?_getD, List.getElem?_eq_getElem (show a < xs.length by omega)]
  | 1 => simp [List.getD_eq_getElem?_getD, List.getElem?_eq_getElem (show a + 1 < xs.length by omega)]
  | 2 => simp [List.getD_eq_getElem?_getD, List.getElem?_eq_getElem (show a + 2 < xs.length by omega)]
  | 3 => simp [List.getD_eq_getElem?_getD, List.getElem?_eq_getElem (show a + 3 < xs.length by omega)]
  | i + 4 =>
    rw [if_neg (by omega)]
    rfl
theorem atI_ints {l : List Int} {n : Nat} (h : n < l.length) : atI (iL l) (n : Int) = some (D.int (l.getD n 0)) := by
  refine atI_nat ?_
  rw [List.getElem?_map, List.getElem?_eq_getElem h, List.getD_eq_getElem?_getD, List.getElem?_eq_getElem h]
  rfl
theorem atI_to {α : Type} {xs : List α} {i : Int} {n : Nat} {v : α} (h : i = (n : Int)) (q : atI xs (n : Int) = some v) : atI xs i = some v := h ▸ q
/-- a, b, c, d = e -/
theorem ws_unp4 (hk : X.K = w.K) (i j m n : Nat) {y z y2 z2 : Str} {py pz py2 pz2 pt : Pos} {kt : Nat} {d3 d4 : D} (hc : X.calm = true) (hN : X.N.Nodup) (h : EV w X e env O (.tup [d1, d2, d3, d4])) (q : WPS w X ((((env.put i (.d d1)).put j (.d d2)).put m (.d d3)).put n (.d d4)) O rest Dn)
    (hg : PG X (.Tuple [.Name y py, .Name z pz, .Name y2 py2, .Name z2 pz2] kt pt) (gTup X.K 4 (gCons (gName i) (gCons (gName j) (gCons (gName m) (gCons (gName n) gNil))))))
    (hs : swapsWithSole [.Tuple [.Name y py, .Name z pz, .Name y2 py2, .Name z2 pz2] kt pt] e pos.line X.env = pure false := by rfl) (hw : swappedStores [.Tuple [.Name y py, .Name z pz, .Name y2 py2, .Name z2 pz2] kt pt] e X.env = pure none := by rfl) : WPS w X env O (.Assign [.Tuple [.Name y py, .Name z pz, .Name y2 py2, .Name z2 pz2] kt pt] e pos :: rest) Dn :=
  ws_cons (ps_asg pe_c hg hs hw) fun σ H hs => h σ H hs _ fun v H' l r => by
    cases r with
    | tup h1 r1 =>
      rename_i a xs
      cases r1 with
      | cons r1 t1 =>
        cases t1 with
        | cons r2 t2 =>
          cases t2 with
          | cons r3 t3 =>
            cases t3 with
            | cons r4 t4 =>
              cases t4
              exact ⟨a, _, rfl, by rw [hk]; exact ex_t (mn_le _ _) h1, rfl, _, _, rfl, _, _, rfl, _, _, rfl, _, _, rfl, rfl, q _ H' ((((l.1.set i r1).set j r2).set m r3).set n r4)⟩
/-- an if behind which one state stands -/
theorem ws_ifJ {q' : Bool} (J : En) (OJ : Os) (h : TV w X c env O q') (h1 : q' = true → WPS w X env O body { Dn with nx := Sd w J OJ }) (h2 : q' = false → WPS w X env O orelse { Dn with nx := Sd w J OJ }) (hr : WPS w X J OJ rest Dn) : WPS w X env O (.If c body orelse pos :: rest) Dn :=
  ws_cons (ps_if pt_c (PSs.nxmono pss_c) (PSs.nxmono pss_c)) fun σ H hs => h σ H hs _ fun H' l => by
    cases q' with
    | true => exact ⟨_, h1 rfl σ H' l.1, fun σ2 H2 s2 => hr σ2 H2 s2⟩
    | false => exact ⟨_, h2 rfl σ H' l.1, fun σ2 H2 s2 => hr σ2 H2 s2⟩
end
end Mp
end
section
set_option Elab.async false
set_option linter.all false
set_option maxRecDepth 100000
set_option maxHeartbeats 4000000
/-! Mp10: sets of ints, sorted. -/
namespace Mp
open PySem PySem.Spec PyProof.Rows L2
/-- strictly ascending lists with the same items are one -/
theorem asc_uniq : ∀ {l m : List Int}, l.Pairwise (· < ·) → m.Pairwise (· < ·) → (∀ k, k ∈ l ↔ k ∈ m) → l = m
  | [], [], _, _, _ => rfl
  | [], y :: m, _, _, h => absurd ((h y).mpr (List.mem_cons_self ..)) (by simp)
  | x :: l, [], _, _, h => absurd ((h x).mp (List.mem_cons_self ..)) (by simp)
  | x :: l, y :: m, hl, hm, h => by
    obtain ⟨h1, h2⟩ := List.pairwise_cons.mp hl
    obtain ⟨h3, h4⟩ := List.pairwise_cons.mp hm
    have exy : x = y := by
      have a := (h x).mp (List.mem_cons_self ..)
      have b := (h y).mpr (List.mem_cons_self ..)
      rcases List.mem_cons.mp a with a | a
      · exact a
      · rcases List.mem_cons.mp b with b | b
        · exact b.symm
        · have := h3 x a
          have := h1 y b
          omega
    subst exy
    rw [asc_uniq h2 h4 fun k => ?_]
    constructor
    · intro hk
      rcases List.mem_cons.mp ((h k).mp (List.mem_cons_of_mem _ hk)) with e | e
      · have := h1 k hk
        omega
      · exact e
    · intro hk
      rcases List.mem_cons.mp ((h k).mpr (List.mem_cons_of_mem _ hk)) with e | e
      · have := h3 k hk
        omega
      · exact e
/-- set(t), t a tuple of ints -/
def rSetTI (K : PySem.W.Frag) (w : World) : List V → Hp → VK → Prop := fun xs H Q => ∃ (p : Addr) (ns : List Int), xs = [V.ref p] ∧ SqT K H p (ns.map V.int) ∧ ns.length ≤ 1000 ∧ ∀ q c, H q = none → c ≤ ns.length → Q (.ref q) (upd H q (SetO w q (fun j => decide (j ∈ ns)) c))
theorem cr_setTI {X : Cx} (hc : X.calm = true) : CallR X (.type "set") (rSetTI X.K X.w) := by
  intro pins s σ H xs us Q I r h
  obtain ⟨p, ns, rfl, hq, hl, q⟩ := h
  cases r with
  | cons r rr =>
    cases rr
    cases r
    obtain ⟨its, rv, pt, hz⟩ := I.tuple hq
    have hi : IntsAre its.toArray.toList ns := ints_of_vals rv
    have hd := I.ok.hd hc
    refine call_set_tupI ns hd (show s.heap.IsTuple p its.toArray from pt) hi (by unfold scanBound; omega) fun h' tk c R1 hcn k => ?_
    have hn : H s.heap.objs.size = none := I.hok.fresh (Nat.le_refl _)
    exact ⟨.ref s.heap.objs.size, upd H s.heap.objs.size (SetO X.w s.heap.objs.size (fun j => decide (j ∈ ns)) c), I.laid (t' := tk) k (Nat.le_refl _) (setO_new R1), rfl, q _ c hn hcn⟩
section
variable {w : Wd} {X : Cx} {env : En} {O : Os} {σ : L2.St} {H H1 H2 H' : Hp} {e a b c : Expr} {es : List Expr} {p pos pos2 : Pos} {d d1 d2 : D} {i j : Int} {ds es' : List D} {x : Str} {k : Nat} {Dn : Ends} {st : Stmt} {ss rest body orelse : List Stmt} {tg iter : Expr}
/-- sorted(set(t)), t strictly ascending: its items again -/
theorem en_sortedSet {l : List Int} {nm nm2 pos3 : Pos} (hk : X.K = w.K) (hc : X.calm = true) (hg : Gl X "sorted") (hm : X.mg "sorted" = none) (hg2 : Gl X "set") (hm2 : X.mg "set" = none) (ha : EU w X a env O (iL l)) (hl : l.Pairwise (· < ·)) (hz : l.length < 60)
    (h1 : starEach [a] X.env = (false, eval a X.env) :: starEach [] X.env := by rfl) (h2 : starEach [.Call (.Name "set" nm2) [a] [] pos3] X.env = (false, eval (.Call (.Name "set" nm2) [a] [] pos3) X.env) :: starEach [] X.env := by rfl) :
    EN w X (.Call (.Name "sorted" nm) [.Call (.Name "set" nm2) [a] [] pos3] [] pos) env O (iL l) := fun σ H h Q q =>
  re_of (pe_callB (cr_sortedSet hc) hg hm (by decide +kernel) (pa_cons (pe_callTy (cr_setTI hc) hg2 hm2 (by decide +kernel) (pa_cons pe_c pa_nil h1) (by decide) (by decide) h1 rfl) pa_nil h2) (by decide) (by decide) h2 rfl) (ha σ H h _ fun v xs H1 l1 e1 r1 => by
    have ex := r1.ints
    subst ex
    refine ⟨v, l, rfl, by rw [hk]; exact ex_t (mn_le _ _) e1, by omega, fun q' n hq hn => ?_⟩
    refine ⟨q', _, n, rfl, upd_same, by omega, fun ns p' h1 h2 h3 hp => ?_⟩
    have e2 : ns = l := asc_uniq h1 hl fun k => by rw [h2 k]; simp
    subst e2
    have l2 : Lv w env O σ H1 (upd H1 q' (SetO X.w q' (fun j => decide (j ∈ ns)) n)) := Lv.new l1.1 hq
    exact q p' _ (l2.1.made hp (.of_ints _)) ((l1.trans l2).mk hp))
end
end Mp
end
section
set_option Elab.async false
set_option linter.all false
set_option maxRecDepth 100000
set_option maxHeartbeats 4000000
/-! Mp11: sorted, of ints, of tuples of ints, of pairs of an int and a tuple of ints. -/
namespace Mp
open PySem PySem.Spec PyProof.Rows L2
open HT (lexLt lexLt_cons lexLt_nil_nil lexLt_nil_cons lexLt_cons_nil)

/-! ### orders -/
theorem lex_asym : ∀ x y : List Int, lexLt x y = true → lexLt y x = false
  | [], [], h => by rw [lexLt_nil_nil] at h; cases h
  | [], _ :: _, _ => lexLt_cons_nil _ _
  | _ :: _, [], h => by rw [lexLt_cons_nil] at h; cases h
  | x :: xs, y :: ys, h => by
    rw [lexLt_cons] at h ⊢
    by_cases e : x = y
    · subst e
      rw [if_pos rfl] at h ⊢
      exact lex_asym xs ys h
    · rw [if_neg e] at h
      rw [if_neg (Ne.symm e)]
      have := of_decide_eq_true h
      exact decide_eq_false (by omega)
theorem lex_tr : ∀ x y z : List Int, lexLt y x = false → lexLt z y = false → lexLt z x = false
  | [], [], z, _, h => h
  | [], y :: ys, _, h, _ => by
    cases hz : lexLt ‹List Int› [] with
    | false => rfl
    | true =>
      rename_i z _
      cases z with
      | nil => rw [lexLt_nil_nil] at hz; cases hz
      | cons z zs => rw [lexLt_cons_nil] at hz; cases hz
  | x :: xs, [], _, h, _ => by rw [lexLt_nil_cons] at h; cases h
  | x :: xs, y :: ys, [], _, h => by rw [lexLt_nil_cons] at h; cases h
  | x :: xs, y :: ys, z :: zs, h1, h2 => by
    rw [lexLt_cons] at h1 h2 ⊢
    by_cases e1 : y = x
    · subst e1
      rw [if_pos rfl] at h1
      by_cases e2 : z = y
      · subst e2
        rw [if_pos rfl] at h2 ⊢
        exact lex_tr xs ys zs h1 h2
      · rw [if_neg e2] at h2 ⊢
        exact h2
    · rw [if_neg e1] at h1
      have := of_decide_eq_false h1
      by_cases e2 : z = y
      · subst e2
        rw [if_neg e1]
        exact h1
      · rw [if_neg e2] at h2
        have := of_decide_eq_false h2
        rw [if_neg (by omega)]
        exact decide_eq_false (by omega)
theorem lex_anti : ∀ x y : List Int, lexLt x y = false → lexLt y x = false → x = y
  | [], [], _, _ => rfl
  | [], _ :: _, h, _ => by rw [lexLt_nil_cons] at h; cases h
  | _ :: _, [], _, h => by rw [lexLt_nil_cons] at h; cases h
  | x :: xs, y :: ys, h1, h2 => by
    rw [lexLt_cons] at h1 h2
    by_cases e : x = y
    · subst e
      rw [if_pos rfl] at h1 h2
      rw [lex_anti xs ys h1 h2]
    · rw [if_neg e] at h1
      rw [if_neg (Ne.symm e)] at h2
      have := of_decide_eq_false h1
      have := of_decide_eq_false h2
      omega
/-- an order that sorted uses, and that tells all items apart -/
structure Tot {α : Type} (lt : α → α → Bool) : Prop where
  asym : ∀ x y, lt x y = true → lt y x = false
  tr : ∀ x y z, lt y x = false → lt z y = false → lt z x = false
  anti : ∀ x y, lt x y = false → lt y x = false → x = y
theorem tot_lex : Tot HT.lexLt := ⟨lex_asym, lex_tr, lex_anti⟩
/-- pairs of an int and a tuple of ints -/
def ltPT (p q : Int × List Int) : Bool := if p.1 = q.1 then lexLt p.2 q.2 else decide (p.1 < q.1)
theorem tot_PT : Tot ltPT := by
  refine ⟨fun x y h => ?_, fun x y z h1 h2 => ?_, fun x y h1 h2 => ?_⟩
  · obtain ⟨a, l⟩ := x
    obtain ⟨b, m⟩ := y
    simp only [ltPT] at h ⊢
    by_cases e : a = b
    · subst e
      rw [if_pos rfl] at h ⊢
      exact lex_asym _ _ h
    · rw [if_neg e] at h
      rw [if_neg (Ne.symm e)]
      have := of_decide_eq_true h
      exact decide_eq_false (by omega)
  · obtain ⟨a, l⟩ := x
    obtain ⟨b, m⟩ := y
    obtain ⟨c, n⟩ := z
    simp only [ltPT] at h1 h2 ⊢
    by_cases e1 : b = a
    · subst e1
      rw [if_pos rfl] at h1
      by_cases e2 : c = b
      · subst e2
        rw [if_pos rfl] at h2 ⊢
        exact lex_tr _ _ _ h1 h2
      · rw [if_neg e2] at h2 ⊢
        exact h2
    · rw [if_neg e1] at h1
      have := of_decide_eq_false h1
      by_cases e2 : c = b
      · subst e2
        rw [if_neg e1]
        exact h1
      · rw [if_neg e2] at h2
        have := of_decide_eq_false h2
        rw [if_neg (by omega)]
        exact decide_eq_false (by omega)
  · obtain ⟨a, l⟩ := x
    obtain ⟨b, m⟩ := y
    simp only [ltPT] at h1 h2
    by_cases e : a = b
    · subst e
      rw [if_pos rfl] at h1 h2
      rw [lex_anti _ _ h1 h2]
    · rw [if_neg e] at h1
      rw [if_neg (Ne.symm e)] at h2
      have := of_decide_eq_false h1
      have := of_decide_eq_false h2
      omega
theorem Tot.swo {α β : Type} {lt : α → α → Bool} (T : Tot lt) (k : β → α) : SrtO.Swo (fun x y => lt (k x) (k y)) := ⟨fun x y h => T.asym _ _ h, fun x y z h1 h2 => T.tr _ _ _ h1 h2⟩
/-- sorted, in plain Lean -/
def srt {α : Type} (lt : α → α → Bool) (l : List α) : List α := l.mergeSort fun a b => !lt b a
theorem Tot.uniq {α : Type} {lt : α → α → Bool} (T : Tot lt) {l m : List α} (hp : l.Perm m) (hl : l.Pairwise fun a b => lt b a = false) (hm : m.Pairwise fun a b => lt b a = false) : l = m :=
  hp.eq_of_pairwise (fun a b _ _ h1 h2 => T.anti a b h2 h1) hl hm
theorem Tot.srt_ok {α : Type} {lt : α → α → Bool} (T : Tot lt) (l : List α) : (srt lt l).Perm l ∧ (srt lt l).Pairwise fun a b => lt b a = false := by
  refine ⟨List.mergeSort_perm _ _, ?_⟩
  have h := List.pairwise_mergeSort (le := fun a b => !lt b a) (fun a b c h1 h2 => ?_) (fun a b => ?_) l
  · exact h.imp fun h => by simpa using h
  · have e1 : lt b a = false := by simpa using h1
    have e2 : lt c b = false := by simpa using h2
    have := T.tr a b c e1 e2
    simp [this]
  · cases h : lt b a with
    | false => simp
    | true => simp [T.asym b a h]
theorem Tot.srt_eq {α : Type} {lt : α → α → Bool} (T : Tot lt) {l m : List α} (hp : m.Perm l) (hm : m.Pairwise fun a b => lt b a = false) : srt lt l = m :=
  T.uniq ((T.srt_ok l).1.trans hp.symm) (T.srt_ok l).2 hm


/-! ### the model's sort asks as these orders say -/
section
variable {prog : Program} {w : World} {A : Around} {E : Value → Shared → Prop} {s : Shared} {Q : Bool → Shared → Prop}
/-- a pair of an int and a tuple of ints -/
def PairIT (h : Heap) (v : Value) (p : Int × List Int) : Prop := ∃ (a b : Addr) (t : Tok) (ys : Array Value), v = .ref a ∧ IsTup h a #[.int p.1 t, .ref b] ∧ IsTup h b ys ∧ IntsAre ys.toList p.2
theorem PairIT.keeps {h h' : Heap} {v : Value} {p : Int × List Int} (x : PairIT h v p) (k : ∀ b o, h.get? b = some o → h'.get? b = some o) : PairIT h' v p := by
  obtain ⟨a, b, t, ys, e, ⟨o, ho, hc, hd⟩, ⟨o2, ho2, hc2, hd2⟩, i⟩ := x
  exact ⟨a, b, t, ys, e, ⟨o, k _ _ ho, hc, hd⟩, ⟨o2, k _ _ ho2, hc2, hd2⟩, i⟩
/-- a tuple of ints, not empty -/
def TupI (h : Heap) (v : Value) (l : List Int) : Prop := ∃ (a : Addr) (ys : Array Value), v = .ref a ∧ IsTup h a ys ∧ IntsAre ys.toList l ∧ l ≠ []
theorem TupI.keeps {h h' : Heap} {v : Value} {p : List Int} (x : TupI h v p) (k : ∀ b o, h.get? b = some o → h'.get? b = some o) : TupI h' v p := by
  obtain ⟨a, ys, e, ⟨o, ho, hc, hd⟩, i⟩ := x
  exact ⟨a, ys, e, ⟨o, k _ _ ho, hc, hd⟩, i⟩
theorem items_ints {P : Program} {w : World} : ∀ {us : List Value} {k : List Int}, IntsAre us k → ItemsAre (intKind P w) k us
  | _, _, .nil => .nil
  | _, _, .cons n t r => .cons (intKind_is P w n t) (items_ints r)
theorem eqB_ints {a b : Addr} {xs ys : Array Value} {l m : List Int} {Q : Bool → Shared → Prop} {E : Value → Shared → Prop} (hu : A.units < cLine) (ha : IsTup s.heap a xs) (hb : IsTup s.heap b ys) (hi : IntsAre xs.toList l) (hj : IntsAre ys.toList m) (h : Q (decide (l = m)) s) : wpAny (model prog w) A (eqBool (.ref a) (.ref b)) Q E s := by
  obtain ⟨o, ho, hc, n, hd⟩ := ha
  obtain ⟨o2, ho2, hc2, n2, hd2⟩ := hb
  exact wpAny_eqBool_tuple (knd := intKind prog w) hu ⟨o, xs, n, ho, hc, hd, items_ints hi⟩ ⟨o2, ys, n2, ho2, hc2, hd2, items_ints hj⟩ h
theorem lex_go {b fin : Bool} {X Y : Nat} (hf : fin = decide (X < Y)) : ∀ {xs ys : List Value} {ns ms : List Int} (i : Nat), IntsAre xs ns → IntsAre ys ms → ns.length + Y = ms.length + X → Q (lexLt ns ms) s → PySem.W.KatLex prog w A b fin Q (xs.zip ys) i s
  | [], [], _, _, i, .nil, .nil, hl, h => by
    rw [lexLt_nil_nil] at h
    refine PySem.W.kat_nil ?_
    rw [hf, decide_eq_false (by simp at hl; omega)]
    exact h
  | [], _ :: _, _, _, i, .nil, .cons q u hy, hl, h => by
    rw [lexLt_nil_cons] at h
    refine PySem.W.kat_nil ?_
    rw [hf, decide_eq_true (by simp at hl; omega)]
    exact h
  | _ :: _, [], _, _, i, .cons q u hy, .nil, hl, h => by
    rw [lexLt_cons_nil] at h
    refine PySem.W.kat_nil ?_
    rw [hf, decide_eq_false (by simp at hl; omega)]
    exact h
  | _ :: xs, _ :: ys, _, _, i, .cons (ns := ns) p t hx, .cons (ns := ms) q u hy, hl, h => by
    show PySem.W.KatLex prog w A b fin Q ((Value.int p t, Value.int q u) :: xs.zip ys) i s
    refine PySem.W.kat_cons (wpAny_eqBool_int ?_)
    rw [lexLt_cons] at h
    by_cases e : p = q
    · subst e
      rw [beq_self_eq_true]
      rw [if_pos rfl] at h
      exact PySem.W.kat_yes (lex_go hf (i + 1) hx hy (by simp only [List.length_cons] at hl; omega) h)
    · rw [show (p == q) = false from beq_eq_false_iff_ne.mpr e]
      rw [if_neg e] at h
      exact PySem.W.kat_no (TS.oneLt_ints _ h)
end
section
variable {prog : Program} {w : World} {A : Around} {E : Value → Shared → Prop} {s : Shared}
theorem tup_firsts {h : Heap} {k : Value → List Int} : ∀ vs : List Value, (∀ v ∈ vs, TupI h v (k v)) → ∃ fs, PySem.W.KatTups h vs fs ∧ fs.length = vs.length ∧ ∀ f, f ∈ fs → ∃ n t, f = Value.int n t
  | [], _ => ⟨[], PySem.W.KatTups.nil, rfl, fun f hf => by simp at hf⟩
  | v :: vs, x => by
    obtain ⟨fs, q, hl, hi⟩ := tup_firsts vs fun u hu => x u (List.mem_cons_of_mem _ hu)
    obtain ⟨a, ys, rfl, ⟨o, ho, hc, n, hdt⟩, i, hne⟩ := x v (List.mem_cons_self ..)
    obtain ⟨y, zs, e⟩ : ∃ y zs, ys.toList = y :: zs := by
      cases q : ys.toList with
      | nil =>
        rw [q] at i
        generalize k (.ref a) = z at i hne
        cases i
        exact absurd rfl hne
      | cons y zs => exact ⟨y, zs, rfl⟩
    obtain ⟨m, t, hy⟩ := i.all y (by rw [e]; exact List.mem_cons_self ..)
    refine ⟨y :: fs, PySem.W.KatTups.cons ho hc hdt ?_ q, by simp [hl], ?_⟩
    · have z := congrArg (fun l : List Value => l[0]?) e
      simpa using z
    · intro f hf
      rcases List.mem_cons.mp hf with rfl | hf
      · exact ⟨m, t, hy⟩
      · exact hi f hf
theorem tup_sortable {a : Addr} {vs : List Value} {k : Value → List Int} (h2 : 2 ≤ vs.length) (x : ∀ v ∈ vs, TupI s.heap v (k v)) (hno : ∀ v ∈ vs, ∀ h', (∀ b o, b ≠ a → s.heap.get? b = some o → h'.get? b = some o) → TupI h' v (k v)) : SrtO.SortableO prog w A s a vs (fun v u => lexLt (k v) (k u)) := by
  intro h' keep
  have x' : ∀ v ∈ vs, TupI h' v (k v) := fun v hv => hno v hv h' keep
  obtain ⟨fs, q, hl, hi⟩ := tup_firsts vs x'
  refine ⟨_, fun Q E hq => PySem.W.kat_kind (s := { s with heap := h' }) (T := Value.type "int") q (by omega) (fun f hf => ?_) rfl hq, ?_⟩
  · obtain ⟨n, t, rfl⟩ := hi f hf
    exact PySem.W.Looks.of_pure rfl
  · intro p r hp hr
    obtain ⟨a1, xs, e1, ⟨o, ho, hc, n, hd⟩, i1, _⟩ := x' _ hp
    obtain ⟨a2, ys, e2, ⟨o', ho', hc', n', hd'⟩, i2, _⟩ := x' _ hr
    show wpAny _ _ _ (fun r' s' => s' = _ ∧ r' = lexLt (k p.1) (k r.1)) _ _
    generalize k p.1 = kp at i1 ⊢
    generalize k r.1 = kr at i2 ⊢
    rw [e1, e2]
    have l1 := i1.length
    have l2 := i2.length
    rw [Array.length_toList] at l1 l2
    exact PySem.W.kat_lt (s := { s with heap := h' }) ho hd ho' hd' (lex_go rfl 0 i1 i2 (by omega) ⟨rfl, rfl⟩)
theorem pair_firsts {h : Heap} {k : Value → Int × List Int} : ∀ vs : List Value, (∀ v ∈ vs, PairIT h v (k v)) → ∃ fs, PySem.W.KatTups h vs fs ∧ fs.length = vs.length ∧ ∀ f, f ∈ fs → ∃ n t, f = Value.int n t
  | [], _ => ⟨[], PySem.W.KatTups.nil, rfl, fun f hf => by simp at hf⟩
  | v :: vs, x => by
    obtain ⟨fs, q, hl, hi⟩ := pair_firsts vs fun u hu => x u (List.mem_cons_of_mem _ hu)
    obtain ⟨a, b, t, ys, rfl, ⟨o, ho, hc, n, hdt⟩, _, _⟩ := x v (List.mem_cons_self ..)
    refine ⟨_ :: fs, PySem.W.KatTups.cons ho hc hdt rfl q, by simp [hl], ?_⟩
    intro f hf
    rcases List.mem_cons.mp hf with rfl | hf
    · exact ⟨_, t, rfl⟩
    · exact hi f hf
theorem pair_sortable {a : Addr} {vs : List Value} {k : Value → Int × List Int} (hu : A.units < cLine) (h2 : 2 ≤ vs.length) (x : ∀ v ∈ vs, PairIT s.heap v (k v)) (hno : ∀ v ∈ vs, ∀ h', (∀ b o, b ≠ a → s.heap.get? b = some o → h'.get? b = some o) → PairIT h' v (k v)) : SrtO.SortableO prog w A s a vs (fun v u => ltPT (k v) (k u)) := by
  intro h' keep
  have x' : ∀ v ∈ vs, PairIT h' v (k v) := fun v hv => hno v hv h' keep
  obtain ⟨fs, q, hl, hi⟩ := pair_firsts vs x'
  refine ⟨_, fun Q E hq => PySem.W.kat_kind (s := { s with heap := h' }) (T := Value.type "int") q (by omega) (fun f hf => ?_) rfl hq, ?_⟩
  · obtain ⟨n, t, rfl⟩ := hi f hf
    exact PySem.W.Looks.of_pure rfl
  · intro p r hp hr
    obtain ⟨a1, b1, t1, xs, e1, ⟨o, ho, hc, n, hd⟩, q1, i1⟩ := x' _ hp
    obtain ⟨a2, b2, t2, ys, e2, ⟨o', ho', hc', n', hd'⟩, q2, i2⟩ := x' _ hr
    show wpAny _ _ _ (fun r' s' => s' = _ ∧ r' = ltPT (k p.1) (k r.1)) _ _
    generalize k p.1 = kp at i1 hd ⊢
    generalize k r.1 = kr at i2 hd' ⊢
    obtain ⟨x1, l1⟩ := kp
    obtain ⟨x2, l2⟩ := kr
    rw [e1, e2]
    refine PySem.W.kat_lt (s := { s with heap := h' }) ho hd ho' hd' ?_
    show PySem.W.KatLex prog w A _ false _ [(Value.int x1 t1, Value.int x2 t2), (Value.ref b1, Value.ref b2)] 0 _
    refine PySem.W.kat_cons (wpAny_eqBool_int ?_)
    by_cases e : x1 = x2
    · subst e
      rw [beq_self_eq_true]
      refine PySem.W.kat_yes (PySem.W.kat_cons (eqB_ints (s := { s with heap := h' }) hu q1 q2 i1 i2 ?_))
      refine PySem.W.kat_go (fun e0 => ?_) (fun e0 => ?_)
      · have e3 : l1 = l2 := of_decide_eq_true e0
        refine PySem.W.kat_yes (PySem.W.kat_nil ⟨rfl, ?_⟩)
        rw [e3]
        simp only [ltPT]
        rw [if_pos trivial]
        cases hz : lexLt l2 l2 with
        | false => rfl
        | true =>
          have := lex_asym _ _ hz
          rw [hz] at this
          exact this.symm
      · refine PySem.W.kat_no ?_
        rw [show (((Value.type "int" != Value.type "tuple") : Bool) && (0 + 1 == 0)) = false by simp]
        refine PySem.W.kat_one _ _ (HT.lt_tupInts (s := { s with heap := h' }) q1 q2 i1 i2 hu ?_)
        refine ⟨rfl, ?_⟩
        simp [ltPT]
    · rw [show (x1 == x2) = false from beq_eq_false_iff_ne.mpr e]
      refine PySem.W.kat_no (TS.oneLt_ints _ ⟨rfl, ?_⟩)
      simp only [ltPT]
      rw [if_neg e]
end

/-! ### rules -/
theorem ints_uniq {us : List Value} {l m : List Int} (h : IntsAre us l) (h' : IntsAre us m) : l = m := by
  rw [← SrtO.iv_ints h, ← SrtO.iv_ints h']
theorem isTup_uniq {h : Heap} {a : Addr} {xs ys : Array Value} (h1 : IsTup h a xs) (h2 : IsTup h a ys) : xs = ys := by
  obtain ⟨o, ho, hc, n, hd⟩ := h1
  obtain ⟨o2, ho2, hc2, n2, hd2⟩ := h2
  rw [ho] at ho2
  cases ho2
  rw [hd] at hd2
  injection hd2
theorem TupI.uniq {h : Heap} {v : Value} {l m : List Int} (h1 : TupI h v l) (h2 : TupI h v m) : l = m := by
  obtain ⟨a, xs, rfl, t1, i1, _⟩ := h1
  obtain ⟨b, ys, e, t2, i2, _⟩ := h2
  cases e
  rw [isTup_uniq t1 t2] at i1
  exact ints_uniq i1 i2
theorem PairIT.uniq {h : Heap} {v : Value} {p q : Int × List Int} (h1 : PairIT h v p) (h2 : PairIT h v q) : p = q := by
  obtain ⟨a, b, t, xs, rfl, t1, u1, i1⟩ := h1
  obtain ⟨a', b', t', ys, e, t2, u2, i2⟩ := h2
  cases e
  have e := congrArg Array.toList (isTup_uniq t1 t2)
  simp at e
  obtain ⟨⟨e1, _⟩, e2⟩ := e
  subst e2
  rw [isTup_uniq u1 u2] at i1
  have := ints_uniq i1 i2
  obtain ⟨x1, l1⟩ := p
  obtain ⟨x2, l2⟩ := q
  simp only at e1 this
  rw [e1, this]
/-- sorted(xs): what it makes of xs with its readings -/
def rSortG {α : Type} (K : PySem.W.Frag) (lt : α → α → Bool) (ok : Hp → V → α → Prop) : List V → Hp → VK → Prop := fun vs H Q => ∃ (a : Addr) (xs : List V) (as : List α), vs = [V.ref a] ∧ SqL K H a xs ∧ xs.length = as.length ∧ (∀ z ∈ xs.zip as, ok H z.1 z.2) ∧
  ∀ (zs : List (V × α)) (p : Addr), zs.Perm (xs.zip as) → zs.map (·.2) = srt lt as → H p = none → Q (.ref p) (upd H p (.lst (zs.map (·.1))))
theorem backV_of {x : V} {u : Value} {a : Addr} (e : x = V.ref a) (r : RelV x u) : backV u = x ∧ u = Value.ref a := by
  subst e
  obtain rfl : u = Value.ref a := r
  exact ⟨rfl, rfl⟩
theorem cr_sortG {X : Cx} {α : Type} [Inhabited α] {lt : α → α → Bool} (T : Tot lt) (ok : Hp → V → α → Prop) (val : Heap → Value → α → Prop) (okr : ∀ H x a, ok H x a → ∃ t, x = V.ref t) (okv : ∀ pins σ H s x u a, Inv X pins σ H s → ok H x a → RelV x u → val s.heap u a)
    (uq : ∀ h u a b, val h u a → val h u b → a = b) (kp : ∀ h h' u a, val h u a → (∀ b o, h.get? b = some o → h'.get? b = some o) → val h' u a)
    (hS : ∀ (s : Shared) (a : Addr) (vs : List Value) (k : Value → α), 2 ≤ vs.length → (∀ v ∈ vs, val s.heap v (k v)) → (∀ v ∈ vs, ∀ h', (∀ b o, b ≠ a → s.heap.get? b = some o → h'.get? b = some o) → val h' v (k v)) → SrtO.SortableO X.prog X.w X.A.in1.in1 s a vs (fun v u => lt (k v) (k u))) :
    CallR X (.builtin "sorted") (rSortG X.K lt ok) := by
  intro pins s σ H vs us Q I r h
  obtain ⟨a, xs, as, rfl, hs, hlen, hok, q⟩ := h
  obtain ⟨its, rv, hl, hz⟩ := I.list hs
  rw [Vals.ref1 r]
  have hvl := rv.length
  -- each value and its reading
  have hv : ∀ (i : Nat) (u : Value) (x : α), its[i]? = some u → as[i]? = some x → val s.heap u x ∧ xs[i]? = some (backV u) ∧ ∃ t, u = Value.ref t := fun i u x hu hx => by
    have hi : i < xs.length := by rw [hlen]; exact (List.getElem?_eq_some_iff.mp hx).1
    have hxs : xs[i]? = some xs[i] := List.getElem?_eq_getElem hi
    have hm : (xs[i], x) ∈ xs.zip as := List.mem_of_getElem? (i := i) (by rw [List.getElem?_zip_eq_some]; exact ⟨hxs, hx⟩)
    have o := hok _ hm
    obtain ⟨u', hu', ru⟩ := rv.get hxs
    rw [hu] at hu'
    cases hu'
    obtain ⟨t, e⟩ := okr _ _ _ o
    obtain ⟨e1, e2⟩ := backV_of e ru
    exact ⟨okv _ _ _ _ _ _ _ I o ru, by rw [hxs, e1], t, e2⟩
  have hlen2 : its.length = as.length := by omega
  have hmem : ∀ u ∈ its, ∃ x, val s.heap u x := fun u hu => by
    obtain ⟨i, hi⟩ := List.mem_iff_getElem?.mp hu
    have hi2 : i < as.length := by rw [← hlen2]; exact (List.getElem?_eq_some_iff.mp hi).1
    exact ⟨_, (hv i u _ hi (List.getElem?_eq_getElem hi2)).1⟩
  let k : Value → α := fun u => Classical.epsilon fun x => val s.heap u x
  have hk : ∀ u ∈ its, val s.heap u (k u) := fun u hu => Classical.epsilon_spec (hmem u hu)
  have hzip : its.map (fun u => (backV u, k u)) = xs.zip as := by
    apply List.ext_getElem?
    intro i
    rw [List.getElem?_map]
    by_cases hi : i < its.length
    · have h1 : its[i]? = some its[i] := List.getElem?_eq_getElem hi
      have h2 : as[i]? = some as[i] := List.getElem?_eq_getElem (by omega)
      obtain ⟨v1, v2, _⟩ := hv i _ _ h1 h2
      have e : k its[i] = as[i] := uq _ _ _ _ (hk _ (List.getElem_mem hi)) v1
      rw [h1]
      show some (backV its[i], k its[i]) = _
      rw [e]
      refine Eq.symm ?_
      rw [List.getElem?_zip_eq_some]
      exact ⟨v2, h2⟩
    · rw [List.getElem?_eq_none (by omega), List.getElem?_eq_none (by rw [List.length_zip]; omega)]
      rfl
  refine SrtO.sorted_ord (T.swo k) hl.isList (by rw [← rv.length]; exact hz) (fun h2 h₁ a' ha' keep => hS _ _ _ k h2 (fun v hv => kp _ _ _ _ (hk v hv) fun b o e => (keep b o e).2) fun v hv h' keep' => kp _ _ _ _ (hk v hv) fun b o e => keep' b o (keep b o e).1 (keep b o e).2) fun out h1 h2 => ?_
  obtain ⟨ep, he'⟩ := PyProof.Rows.sortedAll_at s.heap its out.toArray
  have hpm : (out.map fun u => (backV u, k u)).Perm (xs.zip as) := by
    rw [← hzip]
    exact h2.perm.map _
  have hsnd : (out.map fun u => (backV u, k u)).map (·.2) = srt lt as := by
    rw [List.map_map]
    refine (T.srt_eq ?_ ?_).symm
    · have := hpm.map (·.2)
      rw [List.map_map, List.map_snd_zip (by omega)] at this
      exact this
    · exact List.pairwise_map.mpr (h1.imp fun {x y} h => h)
  have e1 : (out.map fun u => (backV u, k u)).map (·.1) = out.map backV := by
    rw [List.map_map]
    rfl
  have hrefs : ∀ u ∈ out, ∃ t, u = Value.ref t := fun u hu => by
    have hu' := h2.perm.mem_iff.mp hu
    obtain ⟨i, hi⟩ := List.mem_iff_getElem?.mp hu'
    have hi2 : i < as.length := by rw [← hlen2]; exact (List.getElem?_eq_some_iff.mp hi).1
    exact (hv i u _ hi (List.getElem?_eq_getElem hi2)).2.2
  have hlo : (out.map backV).length ≤ sizeLine := by
    rw [List.length_map, h2.perm.length_eq, ← hvl]
    exact hz
  have q' := q _ (s.heap.objs.size + 1) hpm hsnd (I.hok.fresh (Nat.le_succ _))
  rw [e1] at q'
  exact ⟨.ref _, upd H (s.heap.objs.size + 1) (.lst (out.map backV)), I.laid (t' := s.toks) (fun _ _ => PyProof.Rows.sortedAll_old) (Nat.le_succ _) ⟨hlo, out, ep, vals_back hrefs, he'⟩, rfl, q'⟩
section
variable {w : Wd} {X : Cx} {env : En} {O : Os} {σ : L2.St} {H H1 H2 H' : Hp} {e a b c : Expr} {es : List Expr} {p pos pos2 : Pos} {d d1 d2 : D} {i j : Int} {ds es' : List D} {x : Str} {k : Nat}
def okPair (K : PySem.W.Frag) (H : Hp) (x : V) (p : Int × List Int) : Prop := ∃ (t b : Addr), x = V.ref t ∧ SqT K H t [.int p.1, .ref b] ∧ SqT K H b (p.2.map V.int)
def okTup (K : PySem.W.Frag) (H : Hp) (x : V) (l : List Int) : Prop := ∃ (t : Addr), x = V.ref t ∧ SqT K H t (l.map V.int) ∧ l ≠ []
theorem cr_sortPairs (hu : X.A.units + 64 < cLine) : CallR X (.builtin "sorted") (rSortG X.K ltPT (okPair X.K)) :=
  cr_sortG tot_PT (okPair X.K) PairIT (fun H x a h => by obtain ⟨t, b, e, _⟩ := h; exact ⟨t, e⟩) (fun pins σ H s x u a I h r => by
    obtain ⟨t, b, rfl, h1, h2⟩ := h
    obtain rfl : u = Value.ref t := r
    obtain ⟨its, r1, p1, _⟩ := I.tuple h1
    obtain ⟨its2, r2, p2, _⟩ := I.tuple h2
    obtain ⟨u1, u2, rfl, ri, rj⟩ := vals2 r1
    obtain ⟨t1, rfl⟩ := ri
    obtain rfl : u2 = Value.ref b := rj
    exact ⟨t, b, t1, its2.toArray, rfl, p1, p2, intsAre_of r2⟩) (fun h u a b h1 h2 => h1.uniq h2) (fun h h' u a x k => x.keeps k) (fun s a vs k h2 hv hk => pair_sortable (by show X.A.units + 1 + 1 < cLine; omega) h2 hv hk)
theorem cr_sortTups : CallR X (.builtin "sorted") (rSortG X.K HT.lexLt (okTup X.K)) :=
  cr_sortG tot_lex (okTup X.K) TupI (fun H x a h => by obtain ⟨t, e, _⟩ := h; exact ⟨t, e⟩) (fun pins σ H s x u a I h r => by
    obtain ⟨t, rfl, h1, hne⟩ := h
    obtain rfl : u = Value.ref t := r
    obtain ⟨its, r1, p1, _⟩ := I.tuple h1
    exact ⟨t, its.toArray, rfl, p1, intsAre_of r1, hne⟩) (fun h u a b h1 h2 => h1.uniq h2) (fun h h' u a x k => x.keeps k) (fun s a vs k h2 hv hk => tup_sortable h2 hv hk)
theorem en_sortG {α : Type} {lt : α → α → Bool} {f : α → D} {ok : Hp → V → α → Prop} {l : List α} (hk : X.K = w.K) (cr : CallR X (.builtin "sorted") (rSortG X.K lt ok)) (hg : Gl X "sorted") (hm : X.mg "sorted" = none) (ha : EL w X a env O (l.map f)) (hok : ∀ H v x, x ∈ l → Rp w.K H v (f x) → ok H v x)
    (he : starEach [a] X.env = (false, eval a X.env) :: starEach [] X.env := by rfl) : EN w X (.Call (.Name "sorted" p) [a] [] pos) env O ((srt lt l).map f) := fun σ H h Q q =>
  re_of (pe_callB cr hg hm (by decide +kernel) (pa_cons pe_c pa_nil he) (by decide) (by decide) he rfl) (ha σ H h _ fun v xs H1 l1 nb e r => by
    have hlen := r.length
    rw [List.length_map] at hlen
    have pt : ∀ z ∈ xs.zip l, Rp w.K (w.G O H1) z.1 (f z.2) := fun z hz => by
      obtain ⟨i, hi⟩ := List.mem_iff_getElem?.mp hz
      rw [List.getElem?_zip_eq_some] at hi
      obtain ⟨v, hv, rv⟩ := r.get (i := i) (d := f z.2) (by rw [List.getElem?_map, hi.2]; rfl)
      rw [hi.1] at hv
      cases hv
      exact rv
    refine ⟨v, xs, l, rfl, .inl (.inl e), hlen, fun z hz => hok H1 _ _ (List.of_mem_zip hz).2 ((pt z hz).mono (mn_le _ _)), fun zs p hp h2 hn => ?_⟩
    have rz : ∀ zs : List (V × α), (∀ z ∈ zs, z ∈ xs.zip l) → RpA w.K (w.G O H1) (zs.map (·.1)) ((zs.map (·.2)).map f) := fun zs => by
      induction zs with
      | nil => exact fun _ => .nil
      | cons z zs ih => exact fun hm => .cons (pt z (hm z (List.mem_cons_self ..))) (ih fun y hy => hm y (List.mem_cons_of_mem _ hy))
    have rr := rz zs fun z hz => hp.mem_iff.mp hz
    rw [h2] at rr
    exact q p _ (l1.1.made hn rr) (l1.mk hn))
abbrev dPT (p : Int × List Int) : D := .tup [.int p.1, tI p.2]
theorem en_sortPairs {l : List (Int × List Int)} (hk : X.K = w.K) (hu : X.A.units + 64 < cLine) (hg : Gl X "sorted") (hm : X.mg "sorted" = none) (ha : EL w X a env O (l.map dPT)) (he : starEach [a] X.env = (false, eval a X.env) :: starEach [] X.env := by rfl) : EN w X (.Call (.Name "sorted" p) [a] [] pos) env O ((srt ltPT l).map dPT) :=
  en_sortG hk (cr_sortPairs hu) hg hm ha (fun H v x _ r => by
    obtain ⟨x1, x2⟩ := x
    cases r with
    | tup h1 r1 =>
      cases r1 with
      | cons ra r2 =>
        cases r2 with
        | cons rb r3 =>
          cases r3
          cases ra
          cases rb with
          | tup h2 r2 =>
            rw [r2.ints] at h2
            exact ⟨_, _, rfl, .inl (.inl h1), .inl (.inl h2)⟩) he
theorem en_sortTups {l : List (List Int)} (hk : X.K = w.K) (hne : ∀ x ∈ l, x ≠ []) (hg : Gl X "sorted") (hm : X.mg "sorted" = none) (ha : EL w X a env O (l.map tI)) (he : starEach [a] X.env = (false, eval a X.env) :: starEach [] X.env := by rfl) : EN w X (.Call (.Name "sorted" p) [a] [] pos) env O ((srt HT.lexLt l).map tI) :=
  en_sortG hk cr_sortTups hg hm ha (fun H v x hx r => by
    cases r with
    | tup h1 r1 =>
      rw [r1.ints] at h1
      exact ⟨_, rfl, .inl (.inl h1), hne x hx⟩) he
end
end Mp
end
section
set_option Elab.async false
set_option linter.all false
set_option maxRecDepth 100000
set_option maxHeartbeats 4000000
/-! Mp12: zip of two and three, of lists and tuples in any mix; enumerate of lists and tuples. -/
namespace Mp
open PySem PySem.Spec PyProof.Rows L2

/-- a list (true) or a tuple (false), as it is read -/
def SqB (b : Bool) (K : PySem.W.Frag) (H : Hp) (a : Addr) (xs : List V) : Prop := match b with
  | true => SqL K H a xs
  | false => SqT K H a xs
def ItB (b : Bool) (h : Heap) (it a : Addr) (i : Nat) : Prop := match b with
  | true => h.IsListIter it a i
  | false => h.IsTupleIter it a i
def IsB (b : Bool) (h : Heap) (a : Addr) (items : Array Value) : Prop := match b with
  | true => h.IsList a items
  | false => h.IsTuple a items
def itObj (b : Bool) (a : Addr) : Obj := match b with
  | true => { cls := .type "list_iterator", data := .fields #[.ref a, .int 0 0] }
  | false => { cls := .type "tuple_iterator", data := .fields #[.ref a, .int 0 0] }
section
variable {b : Bool} {h h' : Heap} {it a : Addr} {i : Nat} {items : Array Value}
theorem itB_new (e : h.get? it = some (itObj b a)) : ItB b h it a 0 := by
  cases b with
  | true => exact ⟨_, e, rfl, rfl⟩
  | false => exact ⟨_, e, rfl, rfl⟩
theorem ItB.obj (x : ItB b h it a i) : ∃ o, h.get? it = some o ∧ ∀ v, o.data ≠ .cell v := by
  cases b with
  | true => obtain ⟨o, ho, _, hd⟩ := x; exact ⟨o, ho, fun v q => by rw [hd] at q; cases q⟩
  | false => obtain ⟨o, ho, _, hd⟩ := x; exact ⟨o, ho, fun v q => by rw [hd] at q; cases q⟩
theorem ItB.at' (x : ItB b h it a i) (k : ∀ o, h.get? it = some o → h'.get? it = some o) : ItB b h' it a i := by
  cases b with
  | true => exact Heap.IsListIter.at x k
  | false => exact Heap.IsTupleIter.at x k
theorem IsB.lt (x : IsB b h a items) : a < h.objs.size := by
  cases b with
  | true => obtain ⟨o, ho, _⟩ := x; exact Heap.lt_size ho
  | false => obtain ⟨o, ho, _⟩ := x; exact Heap.lt_size ho
theorem drawB {prog : Program} {w : World} {A : Around} (b : Bool) (hh : A.handled = none) (it a : Addr) (hne : a ≠ it) (items : Array Value) :
    Draws prog w A it [it, a] items.size (fun i v => items[i]? = some v) (fun i h => ItB b h it a i ∧ IsB b h a items) := by
  cases b with
  | true => exact .list hh it a hne items
  | false => exact .tuple hh it a hne items
theorem beginB (b : Bool) (a : Addr) (items : Array Value) : Begins (.ref a) (itObj b a) fun h => IsB b h a items := by
  cases b with
  | true => exact begins_list a items
  | false => exact begins_tuple a items
end
theorem Inv.sqB {X : Cx} {pins : List (Addr × Obj)} {σ : L2.St} {H : Hp} {s : Shared} {b : Bool} {a : Addr} {xs : List V} (I : L2.Inv X pins σ H s) (h : SqB b X.K H a xs) : ∃ its : List Value, Vals xs its ∧ IsB b s.heap a its.toArray := by
  cases b with
  | true => obtain ⟨its, rv, p, _⟩ := I.list h; exact ⟨its, rv, p.isList⟩
  | false => obtain ⟨its, rv, p, _⟩ := I.tuple h; exact ⟨its, rv, p⟩
theorem Inv.sqB_inj {X : Cx} {pins : List (Addr × Obj)} {σ : L2.St} {H : Hp} {s : Shared} {b : Bool} {a : Addr} {xs ys : List V} (I : L2.Inv X pins σ H s) (h : SqB b X.K H a xs) (h' : SqB b X.K H a ys) : xs = ys := by
  cases b with
  | true => exact I.list_inj h h'
  | false => exact I.tuple_inj h h'

/-! ### zip (printed by tools/zip.py) -/
theorem Vals.split2 {x1 x2 : V} {us : List Value} (h : Vals [x1, x2] us) : ∃ v1 v2, us = [v1, v2] ∧ L2.RelV x1 v1 ∧ L2.RelV x2 v2 := by
  cases h with | cons a h => cases h with | cons b h => cases h; exact ⟨_, _, rfl, a, b⟩
theorem Vals.split3 {x1 x2 x3 : V} {us : List Value} (h : Vals [x1, x2, x3] us) : ∃ v1 v2 v3, us = [v1, v2, v3] ∧ L2.RelV x1 v1 ∧ L2.RelV x2 v2 ∧ L2.RelV x3 v3 := by
  cases h with | cons a h => cases h with | cons b h => cases h with | cons c h => cases h; exact ⟨_, _, _, rfl, a, b, c⟩
def Itz2 (b1 b2 : Bool) (K : PySem.W.Frag) (a1 a2 : Addr) : It :=
  ⟨fun i H => ∃ (l1 l2 : List V) (x1 x2 : V), SqB b1 K H a1 l1 ∧ SqB b2 K H a2 l2 ∧ l1[i]? = some x1 ∧ l2[i]? = some x2,
    fun i H v H' => ∃ (T : Addr) (x1 x2 : V), v = .ref T ∧ H T = none ∧ H' = upd H T (.tup [x1, x2]) ∧ (∀ l, SqB b1 K H a1 l → l[i]? = some x1) ∧ (∀ l, SqB b2 K H a2 l → l[i]? = some x2),
    fun i H => ∃ (l1 l2 : List V), SqB b1 K H a1 l1 ∧ SqB b2 K H a2 l2 ∧ i ≤ l1.length ∧ i ≤ l2.length ∧ (i = l1.length ∨ i = l2.length)⟩
theorem turn_zip2 {P : Program} {w : World} {K : PySem.W.Frag} {elts : List Expr} {kk : Nat} {tpos : Pos} {b1 b2 : Bool} {a1 a2 z TI TO i1 i2 : Addr} (S : ZipSep2 z TI TO i1 i2 [i1, a1] [i2, a2]) (n1 : a1 ≠ i1) (n2 : a2 ≠ i2) :
    Turn P w K (.Tuple elts kk tpos) (Itz2 b1 b2 K a1 a2) [z, TI, TO, i1, i2] z (fun i h => IsZip h z TI TO .none ∧ IsTupOf2 h TI (.ref i1) (.ref i2) ∧ (∃ x1 x2, IsTupOf2 h TO x1 x2) ∧ ItB b1 h i1 a1 i ∧ ItB b2 h i2 a2 i) where
  mem := by simp
  obj := fun i h st c hc => by
    obtain ⟨hz, hTI, ⟨y1, y2, hTO⟩, h1, h2⟩ := st
    have e' : c = z ∨ c = TI ∨ c = TO ∨ c = i1 ∨ c = i2 := by simpa using hc
    rcases e' with q | q | q | q | q
    · rw [q]; exact ⟨_, hz, fun v q => nomatch q⟩
    · rw [q]; exact ⟨_, hTI, fun v q => nomatch q⟩
    · rw [q]; exact ⟨_, hTO, fun v q => nomatch q⟩
    · rw [q]; exact h1.obj
    · rw [q]; exact h2.obj
  keep := fun i h h' st k => by
    obtain ⟨hz, hTI, ⟨y1, y2, hTO⟩, h1, h2⟩ := st
    exact ⟨k z (by simp) _ hz, k TI (by simp) _ hTI, ⟨y1, y2, k TO (by simp) _ hTO⟩, h1.at' fun o q => k i1 (by simp) o q, h2.at' fun o q => k i2 (by simp) o q⟩
  item := by
    intro X hP hw hK hc i pins s σ H E I hf st hg
    subst hP hw hK
    obtain ⟨hz, hTI, ⟨y1, y2, hTO⟩, h1, h2⟩ := st
    obtain ⟨l1, l2, x1, x2, q1, q2, e1, e2⟩ := hg
    obtain ⟨t1, rv1, p1⟩ := Inv.sqB I q1
    obtain ⟨u1, hu1, ru1⟩ := rv1.get e1
    obtain ⟨t2, rv2, p2⟩ := Inv.sqB I q2
    obtain ⟨u2, hu2, ru2⟩ := rv2.get e2
    have hzl : z < s.heap.objs.size := Heap.lt_size hz
    have hh : X.A.in1.handled = none := I.ok.hd hc
    refine wpAny_pyNext_zipD2_item S (drawB b1 hh i1 a1 n1 t1.toArray) (drawB b2 hh i2 a2 n2 t2.toArray) hz hTI hTO ⟨h1, p1⟩ ⟨h2, p2⟩ (by simpa using (List.getElem?_eq_some_iff.mp hu1).1) (by simpa using (List.getElem?_eq_some_iff.mp hu2).1) fun w1 w2 h' tk g1 g2 z' TO' k1 k2 hT hsz hk => ?_
    obtain rfl : u1 = w1 := by have z := hu1; simp at g1; rw [g1] at z; exact (Option.some.inj z).symm
    obtain rfl : u2 = w2 := by have z := hu2; simp at g2; rw [g2] at z; exact (Option.some.inj z).symm
    refine ⟨_, rfl, wpAny_letOwnedTupleGo_zip (s := { s with heap := h', toks := tk }) z' fun h'' z'' sb => ?_⟩
    have hT2 : h''.get? s.heap.objs.size = some { cls := .type "tuple", data := .seq #[u1, u2] } := (sb.2 _ (Nat.ne_of_gt hzl)).trans hT
    have new : ObjOk X.prog X.w (upd H s.heap.objs.size (.tup [x1, x2])) h'' s.heap.objs.size (.tup [x1, x2]) :=
      ⟨by show 2 ≤ sizeLine; decide, [u1, u2], .cons ru1 (.cons ru2 .nil), ⟨_, hT2, rfl, _, rfl⟩⟩
    have I1 : L2.Inv X pins σ (upd H s.heap.objs.size (.tup [x1, x2])) { s with heap := h'', toks := tk } :=
      I.turnedNew (t' := tk) (ch := [z, TI, TO, i1, i2]) (fun c o hb q => (sb.2 c (fun q' => hb (by simp [q']))).trans (hk c o (fun q' => hb (by simp [q'])) (fun q' => hb (by simp [q'])) (fun q' => hb (by simp [q'])) (fun q' => hb (by simp [q'])) q)) hf (Nat.le_refl _) new
    have ne : ∀ {c : Addr} {o : Obj}, s.heap.get? c = some o → s.heap.objs.size ≠ c := fun e => Nat.ne_of_gt (Heap.lt_size e)
    refine ⟨.ref s.heap.objs.size, _, I1, rfl, ⟨_, x1, x2, rfl, I.hok.fresh (Nat.le_refl _), rfl, fun l hl => by rw [Inv.sqB_inj I hl q1]; exact e1, fun l hl => by rw [Inv.sqB_inj I hl q2]; exact e2⟩, ⟨z'', ?_, ⟨u1, u2, ?_⟩, k1.1.at' fun o q => (sb.2 _ S.zi1.symm).trans q, k2.1.at' fun o q => (sb.2 _ S.zi2.symm).trans q⟩, fun c hcm => ?_⟩
    · exact (sb.2 _ S.TIz).trans (hk _ _ S.TIz S.TITO S.TIi1 S.TIi2 hTI)
    · exact (sb.2 _ S.TOz).trans TO'
    · have hlt : c < s.heap.objs.size := by
        have e' : c = z ∨ c = TI ∨ c = TO ∨ c = i1 ∨ c = i2 := by simpa using hcm
        rcases e' with q | q | q | q | q
        · rw [q]; exact Heap.lt_size hz
        · rw [q]; exact Heap.lt_size hTI
        · rw [q]; exact Heap.lt_size hTO
        · rw [q]; obtain ⟨_, e, _⟩ := h1.obj; exact Heap.lt_size e
        · rw [q]; obtain ⟨_, e, _⟩ := h2.obj; exact Heap.lt_size e
      rw [upd_ne (Nat.ne_of_lt hlt)]
      exact (hf c hcm).1
  done := by
    intro X hP hw hK hc i pins s σ H E I hf st hg
    subst hP hw hK
    obtain ⟨hz, hTI, ⟨y1, y2, hTO⟩, h1, h2⟩ := st
    obtain ⟨l1, l2, q1, q2, m1, m2, hend⟩ := hg
    obtain ⟨t1, rv1, p1⟩ := Inv.sqB I q1
    have v1 := rv1.length
    obtain ⟨t2, rv2, p2⟩ := Inv.sqB I q2
    have v2 := rv2.length
    have hh : X.A.in1.handled = none := I.ok.hd hc
    exact wpAny_pyNext_zipD2_end S (drawB b1 hh i1 a1 n1 t1.toArray) (drawB b2 hh i2 a2 n2 t2.toArray) hz hTI hTO ⟨h1, p1⟩ ⟨h2, p2⟩ (by simp; omega) (by simp; omega) (by simp; omega) fun h' tk hk => ⟨rfl, I.turnedL (t' := tk) (ch := [z, TI, TO, i1, i2]) (fun c o hb q =>
      hk c o (fun q' => hb (by simp [q'])) (fun q' => hb (by simp [q'])) (fun q' => hb (by simp [q'])) (fun q' => hb (by simp [q'])) q) hf⟩
  self := fun A i s Q E st h => wpAny_pyIter_zip st.1 h
def iZip2 (b1 b2 : Bool) (K : PySem.W.Frag) (ta : TA) : TI := fun σ H R => ta σ H fun vs H1 => ∃ a1 a2 l1 l2, vs = [.ref a1, .ref a2] ∧ SqB b1 K H1 a1 l1 ∧ SqB b2 K H1 a2 l2 ∧ R (Itz2 b1 b2 K a1 a2) H1
theorem pi_zip2 {X : Cx} {e1 e2 : Expr} {ta : TA} {p pos tpos : Pos} {elts : List Expr} {kk : Nat} {b1 b2 : Bool} (hg : Gl X "zip") (hm : X.mg "zip" = none) (ha : PA X [e1, e2] ta)
    (hs : starEach [e1, e2] X.env = (false, eval e1 X.env) :: starEach [e2] X.env := by rfl) (hpl : (backTo pos (starEach [e2] X.env)).any (·.1) = false := by rfl) :
    PI X (.Tuple elts kk tpos) (.Call (.Name "zip" p) [e1, e2] [] pos) (iZip2 b1 b2 X.K ta) := by
  refine ⟨fun pins s σ H R I h => ?_⟩
  refine Call_ (ld_blt I hg hm PyProof.Rows.boot_zip (PyProof.Rows.callWith_type1 (thn (ha.run pos pins s σ H _ I h) fun us s1 ⟨vs, H1, I1, r1, q1⟩ => ?_) hs hpl))
  obtain ⟨a1, a2, l1, l2, ex, q1, q2, q⟩ := q1
  subst ex
  obtain ⟨v1, v2, rfl, r11, r12⟩ := Vals.split2 r1
  cases r11
  obtain ⟨t1, rv1, p1⟩ := Inv.sqB I1 q1
  cases r12
  obtain ⟨t2, rv2, p2⟩ := Inv.sqB I1 q2
  refine zip_begins2 (beginB b1 a1 t1.toArray) (beginB b2 a2 t2.toArray) p1 p2 fun h' hz hTI hTO o1 o2 hsz hk => wpAny_pyIter_zip hz ?_
  have I2 : L2.Inv X pins σ H1 { s1 with heap := h' } := I1.kept (t' := s1.toks) hk
  have sep := zip_sep2 (N := s1.heap.objs.size) (fp1 := [a1]) (fp2 := [a2]) (fun b hb => by rw [List.mem_singleton.mp hb]; exact p1.lt) (fun b hb => by rw [List.mem_singleton.mp hb]; exact p2.lt)
  refine ⟨s1.heap.objs.size + 4, [s1.heap.objs.size + 4, s1.heap.objs.size + 2, s1.heap.objs.size + 3, s1.heap.objs.size, s1.heap.objs.size + 1], _, _, H1, rfl, I2, turn_zip2 sep (Nat.ne_of_lt (Nat.lt_of_lt_of_le p1.lt (by exact Nat.le_refl _))) (Nat.ne_of_lt (Nat.lt_of_lt_of_le p2.lt (by exact Nat.le_add_right _ _))), ⟨hz, hTI, ⟨_, _, hTO⟩, itB_new o1, itB_new o2⟩, fun c hcm => ?_, q⟩
  have e' : c = s1.heap.objs.size + 4 ∨ c = s1.heap.objs.size + 2 ∨ c = s1.heap.objs.size + 3 ∨ c = s1.heap.objs.size ∨ c = s1.heap.objs.size + 1 := by simpa using hcm
  have hle : s1.heap.objs.size ≤ c := by
    rcases e' with z | z | z | z | z <;> rw [z] <;> first | exact Nat.le_refl _ | exact Nat.le_add_right _ _
  exact I1.fpOk hle (I1.hok.fresh hle)
def Itz3 (b1 b2 b3 : Bool) (K : PySem.W.Frag) (a1 a2 a3 : Addr) : It :=
  ⟨fun i H => ∃ (l1 l2 l3 : List V) (x1 x2 x3 : V), SqB b1 K H a1 l1 ∧ SqB b2 K H a2 l2 ∧ SqB b3 K H a3 l3 ∧ l1[i]? = some x1 ∧ l2[i]? = some x2 ∧ l3[i]? = some x3,
    fun i H v H' => ∃ (T : Addr) (x1 x2 x3 : V), v = .ref T ∧ H T = none ∧ H' = upd H T (.tup [x1, x2, x3]) ∧ (∀ l, SqB b1 K H a1 l → l[i]? = some x1) ∧ (∀ l, SqB b2 K H a2 l → l[i]? = some x2) ∧ (∀ l, SqB b3 K H a3 l → l[i]? = some x3),
    fun i H => ∃ (l1 l2 l3 : List V), SqB b1 K H a1 l1 ∧ SqB b2 K H a2 l2 ∧ SqB b3 K H a3 l3 ∧ i ≤ l1.length ∧ i ≤ l2.length ∧ i ≤ l3.length ∧ (i = l1.length ∨ i = l2.length ∨ i = l3.length)⟩
theorem turn_zip3 {P : Program} {w : World} {K : PySem.W.Frag} {elts : List Expr} {kk : Nat} {tpos : Pos} {b1 b2 b3 : Bool} {a1 a2 a3 z TI TO i1 i2 i3 : Addr} (S : ZipSep3 z TI TO i1 i2 i3 [i1, a1] [i2, a2] [i3, a3]) (n1 : a1 ≠ i1) (n2 : a2 ≠ i2) (n3 : a3 ≠ i3) :
    Turn P w K (.Tuple elts kk tpos) (Itz3 b1 b2 b3 K a1 a2 a3) [z, TI, TO, i1, i2, i3] z (fun i h => IsZip h z TI TO .none ∧ IsTupOf3 h TI (.ref i1) (.ref i2) (.ref i3) ∧ (∃ x1 x2 x3, IsTupOf3 h TO x1 x2 x3) ∧ ItB b1 h i1 a1 i ∧ ItB b2 h i2 a2 i ∧ ItB b3 h i3 a3 i) where
  mem := by simp
  obj := fun i h st c hc => by
    obtain ⟨hz, hTI, ⟨y1, y2, y3, hTO⟩, h1, h2, h3⟩ := st
    have e' : c = z ∨ c = TI ∨ c = TO ∨ c = i1 ∨ c = i2 ∨ c = i3 := by simpa using hc
    rcases e' with q | q | q | q | q | q
    · rw [q]; exact ⟨_, hz, fun v q => nomatch q⟩
    · rw [q]; exact ⟨_, hTI, fun v q => nomatch q⟩
    · rw [q]; exact ⟨_, hTO, fun v q => nomatch q⟩
    · rw [q]; exact h1.obj
    · rw [q]; exact h2.obj
    · rw [q]; exact h3.obj
  keep := fun i h h' st k => by
    obtain ⟨hz, hTI, ⟨y1, y2, y3, hTO⟩, h1, h2, h3⟩ := st
    exact ⟨k z (by simp) _ hz, k TI (by simp) _ hTI, ⟨y1, y2, y3, k TO (by simp) _ hTO⟩, h1.at' fun o q => k i1 (by simp) o q, h2.at' fun o q => k i2 (by simp) o q, h3.at' fun o q => k i3 (by simp) o q⟩
  item := by
    intro X hP hw hK hc i pins s σ H E I hf st hg
    subst hP hw hK
    obtain ⟨hz, hTI, ⟨y1, y2, y3, hTO⟩, h1, h2, h3⟩ := st
    obtain ⟨l1, l2, l3, x1, x2, x3, q1, q2, q3, e1, e2, e3⟩ := hg
    obtain ⟨t1, rv1, p1⟩ := Inv.sqB I q1
    obtain ⟨u1, hu1, ru1⟩ := rv1.get e1
    obtain ⟨t2, rv2, p2⟩ := Inv.sqB I q2
    obtain ⟨u2, hu2, ru2⟩ := rv2.get e2
    obtain ⟨t3, rv3, p3⟩ := Inv.sqB I q3
    obtain ⟨u3, hu3, ru3⟩ := rv3.get e3
    have hzl : z < s.heap.objs.size := Heap.lt_size hz
    have hh : X.A.in1.handled = none := I.ok.hd hc
    refine wpAny_pyNext_zipD3_item S (drawB b1 hh i1 a1 n1 t1.toArray) (drawB b2 hh i2 a2 n2 t2.toArray) (drawB b3 hh i3 a3 n3 t3.toArray) hz hTI hTO ⟨h1, p1⟩ ⟨h2, p2⟩ ⟨h3, p3⟩ (by simpa using (List.getElem?_eq_some_iff.mp hu1).1) (by simpa using (List.getElem?_eq_some_iff.mp hu2).1) (by simpa using (List.getElem?_eq_some_iff.mp hu3).1) fun w1 w2 w3 h' tk g1 g2 g3 z' TO' k1 k2 k3 hT hsz hk => ?_
    obtain rfl : u1 = w1 := by have z := hu1; simp at g1; rw [g1] at z; exact (Option.some.inj z).symm
    obtain rfl : u2 = w2 := by have z := hu2; simp at g2; rw [g2] at z; exact (Option.some.inj z).symm
    obtain rfl : u3 = w3 := by have z := hu3; simp at g3; rw [g3] at z; exact (Option.some.inj z).symm
    refine ⟨_, rfl, wpAny_letOwnedTupleGo_zip (s := { s with heap := h', toks := tk }) z' fun h'' z'' sb => ?_⟩
    have hT2 : h''.get? s.heap.objs.size = some { cls := .type "tuple", data := .seq #[u1, u2, u3] } := (sb.2 _ (Nat.ne_of_gt hzl)).trans hT
    have new : ObjOk X.prog X.w (upd H s.heap.objs.size (.tup [x1, x2, x3])) h'' s.heap.objs.size (.tup [x1, x2, x3]) :=
      ⟨by show 3 ≤ sizeLine; decide, [u1, u2, u3], .cons ru1 (.cons ru2 (.cons ru3 .nil)), ⟨_, hT2, rfl, _, rfl⟩⟩
    have I1 : L2.Inv X pins σ (upd H s.heap.objs.size (.tup [x1, x2, x3])) { s with heap := h'', toks := tk } :=
      I.turnedNew (t' := tk) (ch := [z, TI, TO, i1, i2, i3]) (fun c o hb q => (sb.2 c (fun q' => hb (by simp [q']))).trans (hk c o (fun q' => hb (by simp [q'])) (fun q' => hb (by simp [q'])) (fun q' => hb (by simp [q'])) (fun q' => hb (by simp [q'])) (fun q' => hb (by simp [q'])) q)) hf (Nat.le_refl _) new
    have ne : ∀ {c : Addr} {o : Obj}, s.heap.get? c = some o → s.heap.objs.size ≠ c := fun e => Nat.ne_of_gt (Heap.lt_size e)
    refine ⟨.ref s.heap.objs.size, _, I1, rfl, ⟨_, x1, x2, x3, rfl, I.hok.fresh (Nat.le_refl _), rfl, fun l hl => by rw [Inv.sqB_inj I hl q1]; exact e1, fun l hl => by rw [Inv.sqB_inj I hl q2]; exact e2, fun l hl => by rw [Inv.sqB_inj I hl q3]; exact e3⟩, ⟨z'', ?_, ⟨u1, u2, u3, ?_⟩, k1.1.at' fun o q => (sb.2 _ S.zi1.symm).trans q, k2.1.at' fun o q => (sb.2 _ S.zi2.symm).trans q, k3.1.at' fun o q => (sb.2 _ S.zi3.symm).trans q⟩, fun c hcm => ?_⟩
    · exact (sb.2 _ S.TIz).trans (hk _ _ S.TIz S.TITO S.TIi1 S.TIi2 S.TIi3 hTI)
    · exact (sb.2 _ S.TOz).trans TO'
    · have hlt : c < s.heap.objs.size := by
        have e' : c = z ∨ c = TI ∨ c = TO ∨ c = i1 ∨ c = i2 ∨ c = i3 := by simpa using hcm
        rcases e' with q | q | q | q | q | q
        · rw [q]; exact Heap.lt_size hz
        · rw [q]; exact Heap.lt_size hTI
        · rw [q]; exact Heap.lt_size hTO
        · rw [q]; obtain ⟨_, e, _⟩ := h1.obj; exact Heap.lt_size e
        · rw [q]; obtain ⟨_, e, _⟩ := h2.obj; exact Heap.lt_size e
        · rw [q]; obtain ⟨_, e, _⟩ := h3.obj; exact Heap.lt_size e
      rw [upd_ne (Nat.ne_of_lt hlt)]
      exact (hf c hcm).1
  done := by
    intro X hP hw hK hc i pins s σ H E I hf st hg
    subst hP hw hK
    obtain ⟨hz, hTI, ⟨y1, y2, y3, hTO⟩, h1, h2, h3⟩ := st
    obtain ⟨l1, l2, l3, q1, q2, q3, m1, m2, m3, hend⟩ := hg
    obtain ⟨t1, rv1, p1⟩ := Inv.sqB I q1
    have v1 := rv1.length
    obtain ⟨t2, rv2, p2⟩ := Inv.sqB I q2
    have v2 := rv2.length
    obtain ⟨t3, rv3, p3⟩ := Inv.sqB I q3
    have v3 := rv3.length
    have hh : X.A.in1.handled = none := I.ok.hd hc
    exact wpAny_pyNext_zipD3_end S (drawB b1 hh i1 a1 n1 t1.toArray) (drawB b2 hh i2 a2 n2 t2.toArray) (drawB b3 hh i3 a3 n3 t3.toArray) hz hTI hTO ⟨h1, p1⟩ ⟨h2, p2⟩ ⟨h3, p3⟩ (by simp; omega) (by simp; omega) (by simp; omega) (by simp; omega) fun h' tk hk => ⟨rfl, I.turnedL (t' := tk) (ch := [z, TI, TO, i1, i2, i3]) (fun c o hb q =>
      hk c o (fun q' => hb (by simp [q'])) (fun q' => hb (by simp [q'])) (fun q' => hb (by simp [q'])) (fun q' => hb (by simp [q'])) (fun q' => hb (by simp [q'])) q) hf⟩
  self := fun A i s Q E st h => wpAny_pyIter_zip st.1 h
def iZip3 (b1 b2 b3 : Bool) (K : PySem.W.Frag) (ta : TA) : TI := fun σ H R => ta σ H fun vs H1 => ∃ a1 a2 a3 l1 l2 l3, vs = [.ref a1, .ref a2, .ref a3] ∧ SqB b1 K H1 a1 l1 ∧ SqB b2 K H1 a2 l2 ∧ SqB b3 K H1 a3 l3 ∧ R (Itz3 b1 b2 b3 K a1 a2 a3) H1
theorem pi_zip3 {X : Cx} {e1 e2 e3 : Expr} {ta : TA} {p pos tpos : Pos} {elts : List Expr} {kk : Nat} {b1 b2 b3 : Bool} (hg : Gl X "zip") (hm : X.mg "zip" = none) (ha : PA X [e1, e2, e3] ta)
    (hs : starEach [e1, e2, e3] X.env = (false, eval e1 X.env) :: starEach [e2, e3] X.env := by rfl) (hpl : (backTo pos (starEach [e2, e3] X.env)).any (·.1) = false := by rfl) :
    PI X (.Tuple elts kk tpos) (.Call (.Name "zip" p) [e1, e2, e3] [] pos) (iZip3 b1 b2 b3 X.K ta) := by
  refine ⟨fun pins s σ H R I h => ?_⟩
  refine Call_ (ld_blt I hg hm PyProof.Rows.boot_zip (PyProof.Rows.callWith_type1 (thn (ha.run pos pins s σ H _ I h) fun us s1 ⟨vs, H1, I1, r1, q1⟩ => ?_) hs hpl))
  obtain ⟨a1, a2, a3, l1, l2, l3, ex, q1, q2, q3, q⟩ := q1
  subst ex
  obtain ⟨v1, v2, v3, rfl, r11, r12, r13⟩ := Vals.split3 r1
  cases r11
  obtain ⟨t1, rv1, p1⟩ := Inv.sqB I1 q1
  cases r12
  obtain ⟨t2, rv2, p2⟩ := Inv.sqB I1 q2
  cases r13
  obtain ⟨t3, rv3, p3⟩ := Inv.sqB I1 q3
  refine zip_begins3 (beginB b1 a1 t1.toArray) (beginB b2 a2 t2.toArray) (beginB b3 a3 t3.toArray) p1 p2 p3 fun h' hz hTI hTO o1 o2 o3 hsz hk => wpAny_pyIter_zip hz ?_
  have I2 : L2.Inv X pins σ H1 { s1 with heap := h' } := I1.kept (t' := s1.toks) hk
  have sep := zip_sep3 (N := s1.heap.objs.size) (fp1 := [a1]) (fp2 := [a2]) (fp3 := [a3]) (fun b hb => by rw [List.mem_singleton.mp hb]; exact p1.lt) (fun b hb => by rw [List.mem_singleton.mp hb]; exact p2.lt) (fun b hb => by rw [List.mem_singleton.mp hb]; exact p3.lt)
  refine ⟨s1.heap.objs.size + 5, [s1.heap.objs.size + 5, s1.heap.objs.size + 3, s1.heap.objs.size + 4, s1.heap.objs.size, s1.heap.objs.size + 1, s1.heap.objs.size + 2], _, _, H1, rfl, I2, turn_zip3 sep (Nat.ne_of_lt (Nat.lt_of_lt_of_le p1.lt (by exact Nat.le_refl _))) (Nat.ne_of_lt (Nat.lt_of_lt_of_le p2.lt (by exact Nat.le_add_right _ _))) (Nat.ne_of_lt (Nat.lt_of_lt_of_le p3.lt (by exact Nat.le_add_right _ _))), ⟨hz, hTI, ⟨_, _, _, hTO⟩, itB_new o1, itB_new o2, itB_new o3⟩, fun c hcm => ?_, q⟩
  have e' : c = s1.heap.objs.size + 5 ∨ c = s1.heap.objs.size + 3 ∨ c = s1.heap.objs.size + 4 ∨ c = s1.heap.objs.size ∨ c = s1.heap.objs.size + 1 ∨ c = s1.heap.objs.size + 2 := by simpa using hcm
  have hle : s1.heap.objs.size ≤ c := by
    rcases e' with z | z | z | z | z | z <;> rw [z] <;> first | exact Nat.le_refl _ | exact Nat.le_add_right _ _
  exact I1.fpOk hle (I1.hok.fresh hle)

/-! ### what is zipped, as data -/
def sqD (b : Bool) (ds : List D) : D := match b with
  | true => .lst ds
  | false => .tup ds
def SqG (b : Bool) (K : PySem.W.Frag) (G : Hp) (a : Addr) (xs : List V) : Prop := match b with
  | true => G a = some (.lst xs)
  | false => G a = some (.tup xs)
theorem SqG.mono {b : Bool} {K : PySem.W.Frag} {G G' : Hp} {a : Addr} {xs : List V} (h : SqG b K G a xs) (e : Ex G G') : SqG b K G' a xs := by
  cases b with
  | true => exact e _ _ h
  | false => exact ex_e e h
theorem SqG.sq {b : Bool} {K : PySem.W.Frag} {G : Hp} {a : Addr} {xs : List V} (h : SqG b K G a xs) : SqB b K G a xs := by
  cases b with
  | true => exact .inl (.inl h)
  | false => exact .inl (.inl h)
theorem rp_sq {b : Bool} {K : PySem.W.Frag} {G : Hp} {v : V} {ds : List D} (h : Rp K G v (sqD b ds)) : ∃ a xs, v = .ref a ∧ SqG b K G a xs ∧ RpA K G xs ds := by
  cases b with
  | true => cases h with | lst h1 r => exact ⟨_, _, rfl, h1, r⟩
  | false => cases h with | tup h1 r => exact ⟨_, _, rfl, h1, r⟩
section
variable {w : Wd} {X : Cx} {env : En} {O : Os} {σ : L2.St} {H H1 H2 H' : Hp} {e a b c : Expr} {es : List Expr} {p pos pos2 : Pos} {d d1 d2 : D} {i j : Int} {ds es' fs : List D} {x : Str} {k : Nat} {tg iter : Expr}
theorem iv_zip2 (b1 b2 : Bool) {nm tp : Pos} {elts : List Expr} {kk : Nat} (hk : X.K = w.K) (hg : Gl X "zip") (hm : X.mg "zip" = none) (ha : EV w X a env O (sqD b1 ds)) (hb : EV w X b env O (sqD b2 es'))
    (h1 : starEach [a, b] X.env = (false, eval a X.env) :: starEach [b] X.env := by rfl) (h2 : starEach [b] X.env = (false, eval b X.env) :: starEach [] X.env := by rfl) (hpl : (backTo pos (starEach [b] X.env)).any (·.1) = false := by rfl) :
    IV w X (.Tuple elts kk tp) (.Call (.Name "zip" nm) [a, b] [] pos) env O ((ds.zip es').map fun z => .tup [z.1, z.2]) := ⟨_, pi_zip2 (b1 := b1) (b2 := b2) hg hm (pa_cons pe_c (pa_cons pe_c pa_nil h2) h1) h1 hpl, fun σ H h R q => ha σ H h _ fun v H1 l1 r1 => hb σ H1 l1.1 _ fun u H2 l2 r2 => by
  obtain ⟨a1, xs, rfl, ea, ra⟩ := rp_sq (r1.mono l2.ex)
  obtain ⟨a2, ys, rfl, eb, rb⟩ := rp_sq r2
  refine ⟨a1, a2, xs, ys, rfl, (ea.mono (mn_le _ _)).sq |> (by rw [hk]; exact ·), (eb.mono (mn_le _ _)).sq |> (by rw [hk]; exact ·), ?_⟩
  have hl1 := ra.length
  have hl2 := rb.length
  refine q _ (fun H => SqB b1 X.K H a1 xs ∧ SqB b2 X.K H a2 ys) (fun i H v H' => ∃ (T : Addr) (x1 x2 : V), v = .ref T ∧ H T = none ∧ H' = upd H T (.tup [x1, x2]) ∧ xs[i]? = some x1 ∧ ys[i]? = some x2) H2 ⟨fun G => (SqG b1 w.K G a1 xs ∧ RpA w.K G xs ds) ∧ SqG b2 w.K G a2 ys ∧ RpA w.K G ys es', fun G G' e r => ⟨⟨r.1.1.mono e, r.1.2.mono e⟩, r.2.1.mono e, r.2.2.mono e⟩⟩ (l1.trans l2) ⟨⟨ea, ra⟩, eb, rb⟩
    ⟨fun i H hi g => ?_, fun H g => ?_, fun i H v H' hi g y => ?_⟩ (fun G H2 e r => ?_) fun G i H3 x H4 hi e r y => ?_
  · rw [List.length_map, List.length_zip] at hi
    exact ⟨xs, ys, _, _, g.1, g.2, List.getElem?_eq_getElem (by omega), List.getElem?_eq_getElem (by omega)⟩
  · rw [List.length_map, List.length_zip]
    exact ⟨xs, ys, g.1, g.2, by omega, by omega, by omega⟩
  · obtain ⟨T, x1, x2, h1, h2, h3, h4, h5⟩ := y
    exact ⟨T, x1, x2, h1, h2, h3, h4 _ g.1, h5 _ g.2⟩
  · rw [hk]
    exact ⟨(r.1.1.mono e).sq, (r.2.1.mono e).sq⟩
  · obtain ⟨T, x1, x2, hx, hT, hH, f1, f2⟩ := y
    obtain ⟨d1, hd1, rd1⟩ := r.1.2.getV f1
    obtain ⟨d2, hd2, rd2⟩ := r.2.2.getV f2
    refine ⟨.tup [d1, d2], ?_, .inr ⟨T, [x1, x2], [d1, d2], hx, hT, hH, .cons rd1 (.one rd2), rfl⟩⟩
    have hz : (ds.zip es')[i]? = some (d1, d2) := by
      rw [List.getElem?_zip_eq_some]
      exact ⟨hd1, hd2⟩
    rw [List.getElem?_map, hz]
    rfl⟩
theorem iv_zip3 (b1 b2 b3 : Bool) {nm tp : Pos} {elts : List Expr} {kk : Nat} (hk : X.K = w.K) (hg : Gl X "zip") (hm : X.mg "zip" = none) (ha : EV w X a env O (sqD b1 ds)) (hb : EV w X b env O (sqD b2 es')) (hc : EV w X c env O (sqD b3 fs))
    (h1 : starEach [a, b, c] X.env = (false, eval a X.env) :: starEach [b, c] X.env := by rfl) (h2 : starEach [b, c] X.env = (false, eval b X.env) :: starEach [c] X.env := by rfl) (h3 : starEach [c] X.env = (false, eval c X.env) :: starEach [] X.env := by rfl) (hpl : (backTo pos (starEach [b, c] X.env)).any (·.1) = false := by rfl) :
    IV w X (.Tuple elts kk tp) (.Call (.Name "zip" nm) [a, b, c] [] pos) env O ((ds.zip (es'.zip fs)).map fun z => .tup [z.1, z.2.1, z.2.2]) := ⟨_, pi_zip3 (b1 := b1) (b2 := b2) (b3 := b3) hg hm (pa_cons pe_c (pa_cons pe_c (pa_cons pe_c pa_nil h3) h2) h1) h1 hpl, fun σ H h R q => ha σ H h _ fun v H1 l1 r1 => hb σ H1 l1.1 _ fun u H2 l2 r2 => hc σ H2 l2.1 _ fun t H3 l3 r3 => by
  obtain ⟨a1, xs, rfl, ea, ra⟩ := rp_sq ((r1.mono l2.ex).mono l3.ex)
  obtain ⟨a2, ys, rfl, eb, rb⟩ := rp_sq (r2.mono l3.ex)
  obtain ⟨a3, zs, rfl, ec, rc⟩ := rp_sq r3
  refine ⟨a1, a2, a3, xs, ys, zs, rfl, (ea.mono (mn_le _ _)).sq |> (by rw [hk]; exact ·), (eb.mono (mn_le _ _)).sq |> (by rw [hk]; exact ·), (ec.mono (mn_le _ _)).sq |> (by rw [hk]; exact ·), ?_⟩
  have hl1 := ra.length
  have hl2 := rb.length
  have hl3 := rc.length
  refine q _ (fun H => SqB b1 X.K H a1 xs ∧ SqB b2 X.K H a2 ys ∧ SqB b3 X.K H a3 zs) (fun i H v H' => ∃ (T : Addr) (x1 x2 x3 : V), v = .ref T ∧ H T = none ∧ H' = upd H T (.tup [x1, x2, x3]) ∧ xs[i]? = some x1 ∧ ys[i]? = some x2 ∧ zs[i]? = some x3) H3 ⟨fun G => (SqG b1 w.K G a1 xs ∧ RpA w.K G xs ds) ∧ (SqG b2 w.K G a2 ys ∧ RpA w.K G ys es') ∧ (SqG b3 w.K G a3 zs ∧ RpA w.K G zs fs), fun G G' e r => ⟨⟨r.1.1.mono e, r.1.2.mono e⟩, ⟨r.2.1.1.mono e, r.2.1.2.mono e⟩, r.2.2.1.mono e, r.2.2.2.mono e⟩⟩ ((l1.trans l2).trans l3) ⟨⟨ea, ra⟩, ⟨eb, rb⟩, ec, rc⟩
    ⟨fun i H hi g => ?_, fun H g => ?_, fun i H v H' hi g y => ?_⟩ (fun G H2 e r => ?_) fun G i H3 x H4 hi e r y => ?_
  · rw [List.length_map, List.length_zip, List.length_zip] at hi
    exact ⟨xs, ys, zs, _, _, _, g.1, g.2.1, g.2.2, List.getElem?_eq_getElem (by omega), List.getElem?_eq_getElem (by omega), List.getElem?_eq_getElem (by omega)⟩
  · rw [List.length_map, List.length_zip, List.length_zip]
    exact ⟨xs, ys, zs, g.1, g.2.1, g.2.2, by omega, by omega, by omega, by omega⟩
  · obtain ⟨T, x1, x2, x3, h1, h2, h3, h4, h5, h6⟩ := y
    exact ⟨T, x1, x2, x3, h1, h2, h3, h4 _ g.1, h5 _ g.2.1, h6 _ g.2.2⟩
  · rw [hk]
    exact ⟨(r.1.1.mono e).sq, (r.2.1.1.mono e).sq, (r.2.2.1.mono e).sq⟩
  · obtain ⟨T, x1, x2, x3, hx, hT, hH, f1, f2, f3⟩ := y
    obtain ⟨d1, hd1, rd1⟩ := r.1.2.getV f1
    obtain ⟨d2, hd2, rd2⟩ := r.2.1.2.getV f2
    obtain ⟨d3, hd3, rd3⟩ := r.2.2.2.getV f3
    refine ⟨.tup [d1, d2, d3], ?_, .inr ⟨T, [x1, x2, x3], [d1, d2, d3], hx, hT, hH, .cons rd1 (.cons rd2 (.one rd3)), rfl⟩⟩
    have hz : (ds.zip (es'.zip fs))[i]? = some (d1, d2, d3) := by
      rw [List.getElem?_zip_eq_some]
      exact ⟨hd1, by rw [List.getElem?_zip_eq_some]; exact ⟨hd2, hd3⟩⟩
    rw [List.getElem?_map, hz]
    rfl⟩
/-- what a for walks, a comprehension walks -/
theorem ic_of (h : IV w X tg iter env O ds) : IC w X tg iter env O ds := by
  obtain ⟨wi, pi, hw⟩ := h
  refine ⟨wi, pi, fun σ H h R q => hw σ H h R fun J Gd Y H1 P l hP wk kg ky => ?_⟩
  have kp : ∀ H2 : Hp, (∀ b o, b ∉ w.B → H1 b = some o → H2 b = some o) → Ex (w.G O H1) H2 := fun H2 k b o hb => by
    have hb' : b ∉ own O ++ w.A0 := fun z => by
      rw [show w.G O H1 b = none from mn_in z] at hb; cases hb
    rw [show w.G O H1 b = H1 b from mn_out hb'] at hb
    exact k b o (fun z => hb' (List.mem_append_right _ (w.bs b z))) hb
  exact q J Gd Y H1 l wk (fun H2 k => kg _ H2 (kp H2 k) hP) fun i H2 x H3 hi k y => ky _ i H2 x H3 hi (kp H2 k) hP y
end
end Mp
end
section
set_option Elab.async false
set_option linter.all false
set_option maxRecDepth 100000
set_option maxHeartbeats 4000000
/-! Mp13: enumerate of lists and tuples; slices with a step. -/
namespace Mp
open PySem PySem.Spec PyProof.Rows L2
section
open Sem (wp)
theorem meets_enum1 {v : Value} {o : Obj} {H : Heap → Prop} (B : Begins v o H) :
    Meets (Builtin.«enumerate.__new__» ⟨[.type "enumerate", v], []⟩) (fun _ R s => H s.heap ∧
      R (.ok (.ret (.ref (s.heap.push o).objs.size))) { s with heap := (s.heap.push o).push { cls := .type "enumerate", data := .fields #[.none, .bool false, .ref s.heap.objs.size, rawInt 0, .none, .none] } }) :=
  .of_wp fun prog w A R s h => by
    obtain ⟨hp, g, d, tk, os⟩ := s; obtain ⟨h1, h⟩ := h
    have hsub := sub_enumerate
    have q1 : ∀ {A' : Around} {E : Value → Shared → Prop} {Q : Value → Shared → Prop}, Q (.ref hp.objs.size) ⟨hp.push o, g, d, tk, os⟩ → wpAny (model prog w) A' (pyIter v) Q E ⟨hp, g, d, tk, os⟩ :=
      fun q => B.iter prog w _ _ ⟨hp, g, d, tk, os⟩ _ h1 q
    wp_walk using q1
    refine wpAny_stack_any fun st => wpAny_pure ?_
    split
    · rename_i c _ _ _ _ _
      cases (c == Value.type "enumerate")
      · wp_walk using q1
        exact ⟨_, rfl, h⟩
      · wp_walk using q1
        exact ⟨_, rfl, h⟩
    · wp_walk using q1
      exact ⟨_, rfl, h⟩
end
section
variable {prog : Program} {w : World} {A : Around} {E : Value → Shared → Prop} {s : Shared}
theorem enum1_begins {v : Value} {o : Obj} {H : Heap → Prop} {Q : Value → Shared → Prop} (B : Begins v o H) (h1 : H s.heap)
    (h : ∀ h', IsEnum h' (s.heap.objs.size + 1) s.heap.objs.size 0 .none → h'.get? s.heap.objs.size = some o → h'.objs.size = s.heap.objs.size + 2 →
      (∀ b o, s.heap.get? b = some o → h'.get? b = some o) → Q (.ref (s.heap.objs.size + 1)) { s with heap := h' }) :
    wpAny (model prog w) A (call (.type "enumerate") [v]) Q E s := by
  refine callType_new F.called_enumerate (by decide) (F.typeCall_enumerate_1 _) (F.newCall_enumerate_1 _) (fun obj => F.args_object_init_2 obj _) F.entry_enumerate_new
    (meets_enum1 B) ⟨h1, ?_⟩
  have hz : (s.heap.push o).objs.size = s.heap.objs.size + 1 := Heap.size_push ..
  show _ ∧ _
  rw [hz]
  have he : IsEnum ((s.heap.push o).push { cls := .type "enumerate", data := .fields #[.none, .bool false, .ref s.heap.objs.size, rawInt 0, .none, .none] }) (s.heap.objs.size + 1) s.heap.objs.size 0 .none := by
    have := Heap.get?_push_size (s.heap.push o) (o := { cls := .type "enumerate", data := .fields #[.none, .bool false, .ref s.heap.objs.size, rawInt 0, .none, .none] }) rfl
    rw [hz] at this; exact this
  refine ⟨⟨_, he, rfl⟩, h _ he (Heap.get?_push_of_some _ (Heap.get?_push_size _ B.free)) (by rw [Heap.size_push, hz]) fun b o x => Heap.get?_push_of_some _ (Heap.get?_push_of_some _ x)⟩
end
/-- the items at a, each in a new pair behind its index -/
def IteB (b1 : Bool) (K : PySem.W.Frag) (a : Addr) : It :=
  ⟨fun i H => ∃ (xs : List V) (x : V), SqB b1 K H a xs ∧ xs[i]? = some x, fun i H v H' => ∃ (T : Addr) (x : V), v = .ref T ∧ H T = none ∧ H' = upd H T (.tup [.int (i : Nat), x]) ∧ ∀ xs, SqB b1 K H a xs → xs[i]? = some x, fun i H => ∃ xs : List V, SqB b1 K H a xs ∧ i = xs.length⟩
theorem turn_enumB {P : Program} {w : World} {K : PySem.W.Frag} {elts : List Expr} {kk : Nat} {tpos : Pos} {b1 : Bool} {a e it : Addr} (n1 : a ≠ it) (n2 : a ≠ e) :
    Turn P w K (.Tuple elts kk tpos) (IteB b1 K a) [e, it] e (fun i h => (∃ old, IsEnum h e it ((i : Nat) : Int) old) ∧ ItB b1 h it a i ∧ e ≠ it) where
  mem := by simp
  obj := fun i h st b hb => by
    obtain ⟨⟨old, he⟩, hi, _⟩ := st
    have e' : b = e ∨ b = it := by simpa using hb
    rcases e' with z | z
    · rw [z]; exact ⟨_, he, fun v q => nomatch q⟩
    · rw [z]; exact hi.obj
  keep := fun i h h' st k => let ⟨⟨old, he⟩, hi, hne⟩ := st; ⟨⟨old, k e (by simp) _ he⟩, hi.at' fun o q => k it (by simp) o q, hne⟩
  item := by
    intro X hP hw hK hc i pins s σ H E I hf st hg
    subst hP hw hK
    obtain ⟨⟨old, he⟩, hit, hne⟩ := st
    obtain ⟨xs, x, hq, hx⟩ := hg
    obtain ⟨its, rv, p⟩ := Inv.sqB I hq
    obtain ⟨u, hu, ru⟩ := rv.get hx
    have hel : e < s.heap.objs.size := Heap.lt_size he
    have hil : it < s.heap.objs.size := by obtain ⟨_, q, _⟩ := hit.obj; exact Heap.lt_size q
    have hh : X.A.in1.handled = none := I.ok.hd hc
    refine wpAny_pyNext_enum_itemD (drawB b1 hh it a n1 its.toArray) he ⟨hit, p⟩ (by simpa using (List.getElem?_eq_some_iff.mp hu).1) hne (by simp [hne, n2.symm]) fun y h' tk hy ho hst hT hsz hk => ?_
    obtain rfl : u = y := by simp at hy; rw [hu] at hy; exact Option.some.inj hy
    refine ⟨_, rfl, wpAny_letOwnedTupleGo_enum (s := { s with heap := h', toks := tk + 1 }) ho fun h'' he' sb => ?_⟩
    have hT2 : h''.get? s.heap.objs.size = some { cls := .type "tuple", data := .seq #[.int i tk, u] } := (sb.2 _ (Nat.ne_of_gt hel)).trans hT
    have new : ObjOk X.prog X.w (upd H s.heap.objs.size (.tup [.int (i : Nat), x])) h'' s.heap.objs.size (.tup [.int (i : Nat), x]) :=
      ⟨by show 2 ≤ sizeLine; decide, [.int i tk, u], .cons ⟨_, rfl⟩ (.cons ru .nil), ⟨_, hT2, rfl, _, rfl⟩⟩
    have I1 : L2.Inv X pins σ (upd H s.heap.objs.size (.tup [.int (i : Nat), x])) { s with heap := h'', toks := tk + 1 } :=
      I.turnedNew (ch := [e, it]) (fun b ob hb q => (sb.2 b (fun z => hb (by simp [z]))).trans (hk b ob (fun z => hb (by simp [z])) (fun z => hb (by simp [z])) q)) hf (Nat.le_refl _) new
    refine ⟨.ref s.heap.objs.size, _, I1, rfl, ⟨_, x, rfl, I.hok.fresh (Nat.le_refl _), rfl, fun ys hy => by rw [Inv.sqB_inj I hy hq]; exact hx⟩, ⟨⟨u, ?_⟩, hst.1.at' fun o q => (sb.2 it (Ne.symm hne)).trans q, hne⟩, fun b hb => ?_⟩
    · have e1 : ((i + 1 : Nat) : Int) = (i : Int) + 1 := by omega
      rw [e1]; exact he'
    · have hb' : b < s.heap.objs.size := by
        have e' : b = e ∨ b = it := by simpa using hb
        rcases e' with z | z
        · rw [z]; exact hel
        · rw [z]; exact hil
      rw [upd_ne (Nat.ne_of_lt hb')]
      exact (hf b hb).1
  done := by
    intro X hP hw hK hc i pins s σ H E I hf st hg
    subst hP hw hK
    obtain ⟨⟨old, he⟩, hit, hne⟩ := st
    obtain ⟨xs, hq, hx⟩ := hg
    obtain ⟨its, rv, p⟩ := Inv.sqB I hq
    obtain ⟨f0, f1, f2, f3, f4, f5⟩ := hf it (by simp)
    have hl := rv.length
    have hh : X.A.in1.handled = none := I.ok.hd hc
    have en : i = its.toArray.size := by simp; omega
    rw [en] at hit
    exact wpAny_pyNext_enum_endD (drawB b1 hh it a n1 its.toArray) he ⟨hit, p⟩ fun h' eb => ⟨rfl, I.turned (t' := s.toks) (fun b o hb q => eb b o hb q) f0 f1 f3 f4 f5⟩
  self := fun A i s Q E st h => let ⟨⟨_, he⟩, _⟩ := st; wpAny_pyIter_enum he h
def iEnumB (b1 : Bool) (K : PySem.W.Frag) (ta : TA) : TI := fun σ H R => ta σ H fun vs H1 => ∃ a xs, vs = [.ref a] ∧ SqB b1 K H1 a xs ∧ R (IteB b1 K a) H1
theorem pi_enumB {X : Cx} {e : Expr} {ta : TA} {p pos tpos : Pos} {elts : List Expr} {kk : Nat} (b1 : Bool) (hg : Gl X "enumerate") (hm : X.mg "enumerate" = none) (ha : PA X [e] ta) (hs : starEach [e] X.env = [(false, eval e X.env)] := by rfl) :
    PI X (.Tuple elts kk tpos) (.Call (.Name "enumerate" p) [e] [] pos) (iEnumB b1 X.K ta) := by
  refine ⟨fun pins s σ H R I h => ?_⟩
  refine Call_ (ld_blt I hg hm boot_enumerate (PyProof.Rows.callWith_type1 (thn (ha.run pos pins s σ H _ I h) fun us s1 ⟨vs, H1, I1, r1, q1⟩ => ?_) hs rfl))
  obtain ⟨a, xs, ex, hq, q⟩ := q1
  subst ex
  cases r1 with
  | cons r rr =>
    cases rr
    cases r
    obtain ⟨its, rv, p'⟩ := Inv.sqB I1 hq
    refine enum1_begins (beginB b1 a its.toArray) p' fun h' he hit hsz hk => wpAny_pyIter_enum he ?_
    have I2 : L2.Inv X pins σ H1 { s1 with heap := h' } := I1.kept (t' := s1.toks) hk
    have hlt := p'.lt
    refine ⟨s1.heap.objs.size + 1, [s1.heap.objs.size + 1, s1.heap.objs.size], _, _, H1, rfl, I2, turn_enumB (b1 := b1) (a := a) (e := s1.heap.objs.size + 1) (it := s1.heap.objs.size) (Nat.ne_of_lt hlt) (Nat.ne_of_lt (Nat.lt_succ_of_lt hlt)), ⟨⟨.none, he⟩, itB_new hit, Nat.succ_ne_self _⟩, fun b hb => ?_, q⟩
    have e' : b = s1.heap.objs.size + 1 ∨ b = s1.heap.objs.size := by simpa using hb
    have hle : s1.heap.objs.size ≤ b := by
      rcases e' with z | z
      · rw [z]; exact Nat.le_add_right _ _
      · rw [z]; exact Nat.le_refl _
    exact I1.fpOk hle (I1.hok.fresh hle)
section
variable {w : Wd} {X : Cx} {env : En} {O : Os} {σ : L2.St} {H H1 H2 H' : Hp} {e a b c : Expr} {es : List Expr} {p pos pos2 : Pos} {d d1 d2 : D} {i j : Int} {ds es' fs : List D} {x : Str} {k : Nat} {tg iter : Expr}
/-- the index and the item -/
def enumD (ds : List D) : List D := ds.zipIdx.map fun z => .tup [.int (z.2 : Nat), z.1]
theorem enumD_get {i : Nat} {d : D} (h : ds[i]? = some d) : (enumD ds)[i]? = some (.tup [.int (i : Nat), d]) := by
  unfold enumD
  rw [List.getElem?_map, List.getElem?_zipIdx, h]
  simp
theorem enumD_len : (enumD ds).length = ds.length := by simp [enumD]
theorem iv_enum (b1 : Bool) {nm tp : Pos} {elts : List Expr} {kk : Nat} (hk : X.K = w.K) (hg : Gl X "enumerate") (hm : X.mg "enumerate" = none) (ha : EV w X a env O (sqD b1 ds)) (hs : starEach [a] X.env = [(false, eval a X.env)] := by rfl) :
    IV w X (.Tuple elts kk tp) (.Call (.Name "enumerate" nm) [a] [] pos) env O (enumD ds) := ⟨_, pi_enumB b1 hg hm (pa_cons pe_c pa_nil (by rw [hs]; rfl)) hs, fun σ H h R q => ha σ H h _ fun v H1 l1 r1 => by
  obtain ⟨a1, xs, rfl, ea, ra⟩ := rp_sq r1
  refine ⟨a1, xs, rfl, (ea.mono (mn_le _ _)).sq |> (by rw [hk]; exact ·), ?_⟩
  have hl1 := ra.length
  refine q _ (fun H => SqB b1 X.K H a1 xs) (fun i H v H' => ∃ (T : Addr) (x : V), v = .ref T ∧ H T = none ∧ H' = upd H T (.tup [.int (i : Nat), x]) ∧ xs[i]? = some x) H1 ⟨fun G => SqG b1 w.K G a1 xs ∧ RpA w.K G xs ds, fun G G' e r => ⟨r.1.mono e, r.2.mono e⟩⟩ l1 ⟨ea, ra⟩
    ⟨fun i H hi g => ?_, fun H g => ?_, fun i H v H' hi g y => ?_⟩ (fun G H2 e r => ?_) fun G i H3 x H4 hi e r y => ?_
  · rw [enumD_len] at hi
    exact ⟨xs, _, g, List.getElem?_eq_getElem (by omega)⟩
  · rw [enumD_len]
    exact ⟨xs, g, by omega⟩
  · obtain ⟨T, x1, h1, h2, h3, h4⟩ := y
    exact ⟨T, x1, h1, h2, h3, h4 _ g⟩
  · rw [hk]
    exact (r.1.mono e).sq
  · obtain ⟨T, x1, hx, hT, hH, f1⟩ := y
    obtain ⟨d1, hd1, rd1⟩ := r.2.getV f1
    exact ⟨.tup [.int (i : Nat), d1], enumD_get hd1, .inr ⟨T, [.int (i : Nat), x1], [.int (i : Nat), d1], hx, hT, hH, .cons (.v rfl) (.one rd1), rfl⟩⟩⟩
end
end Mp
end
section
set_option Elab.async false
set_option linter.all false
set_option maxRecDepth 100000
set_option maxHeartbeats 4000000
/-! Mp14: t[::c]. -/
namespace Mp
open PySem PySem.Spec PyProof.Rows L2 HT
/-- where xs[::c] begins, and how many it takes -/
def stLo (n : Nat) (c : Int) : Int := (Builtin.Slice.sliceAdjust none none c (n : Int)).1
def stK (n : Nat) (c : Int) : Nat := Builtin.Slice.slicePlaces (Builtin.Slice.sliceAdjust none none c (n : Int)).1 (Builtin.Slice.sliceAdjust none none c (n : Int)).2 c
def pickS {α : Type} (xs : List α) (c : Int) : List α := (List.range (stK xs.length c)).filterMap fun (m : Nat) => xs[(stLo xs.length c + (m : Int) * c).toNat]?
section
variable {prog : Program} {w : World} {A : Around} {E : Value → Shared → Prop} {s : Shared}
theorem sliceApplied_step {sl : Addr} {c : Int} {t : Tok} {n : Nat} {Q : Int × Int × Nat → Shared → Prop} (hs : s.heap.IsSliceOf sl .none .none (.int c t)) (hc : c ≠ 0)
    (h : Q (stLo n c, c, stK n c) s) : wpAny (model prog w) A (Builtin.Slice.sliceApplied (.ref sl) (pure (n : Int))) Q E s := by
  obtain ⟨os, hos, hcs, hds⟩ := id hs
  unfold Builtin.Slice.sliceApplied Builtin.Slice.sliceFields
  refine wpAny_bind (wpAny_bind (wpAny_field hos hds (x := .none) rfl (wpAny_bind (wpAny_field hos hds (x := .none) rfl (wpAny_bind (wpAny_field hos hds (x := .int c t) rfl (wpAny_pure ?_)))))))
  refine wpAny_bind (slicePart_int ?_)
  show wpAny _ _ (if (c == 0) = true then _ else _) _ _ s
  rw [if_neg (by simpa using hc)]
  refine wpAny_bind (slicePart_none (wpAny_bind (slicePart_none (wpAny_bind (wpAny_pure ?_)))))
  exact wpAny_pure h
theorem getItem_tuple_step {t sl : Addr} {items : Array Value} {c : Int} {tk : Tok} {Q : Value → Shared → Prop} (ht : IsTup s.heap t items) (hs : s.heap.IsSliceOf sl .none .none (.int c tk)) (hc : c ≠ 0) (hc1 : c ≠ 1)
    (h : Q (.ref s.heap.objs.size) { s with heap := s.heap.push { cls := .type "tuple", data := .seq (pickS items.toList c).toArray } })
    (hsz : (pickS items.toList c).length ≤ sizeLine) : wpAny (model prog w) A (getItem (.ref t) (.ref sl)) Q E s := by
  have htake : sizeOk (.seq (pickS items.toList c).toArray) := by
    show (pickS items.toList c).toArray.size ≤ sizeLine
    rw [List.size_toArray]
    exact hsz
  obtain ⟨os, hos, hcs, hds⟩ := id hs
  have hTs : s.TypeIs (.ref sl) "slice" := ⟨os, hos, hcs⟩
  unfold getItem
  try with_reducible refine wpAny_holding ?_
  first | refine wpAny_bind (wpAny_pure ?_) | skip
  refine wpAny_bind (wpAny_sequenceKey ht.typeIs (by decide) ?_)
  refine wpAny_bind (wpAny_callSpecial?_slot (name := Str.ofString "__getitem__") ht.typeIs PyProof.Rows.slot_tuple_getitem
    (wpAny_call_entry PyProof.Rows.slot_tuple_getitem ht.typeIs entry_tuple_getitem ?_ (args_tuple_getitem _ _)))
  show wpAny _ _ (Builtin.Tuple.tupleItemsOf (.ref t) >>= _) _ _ s
  refine wpAny_bind (tupleItemsOf_ ht ?_)
  refine wpAny_bind (wpAny_typeOf hTs ?_)
  rw [if_pos (by decide)]
  refine wpAny_bind (sliceApplied_step hs hc ?_)
  have hno : ¬ ((stLo items.size c == 0 && c == 1 && stK items.size c == items.size) = true) := by
    intro q
    rw [Bool.and_eq_true, Bool.and_eq_true] at q
    exact hc1 (eq_of_beq q.1.2)
  show wpAny _ _ (if (stLo items.size c == 0 && c == 1 && stK items.size c == items.size) = true then _ else _) _ _ s
  rw [if_neg hno]
  have e : ((List.range (stK items.size c)).filterMap fun (m : Nat) => items[(stLo items.size c + (m : Int) * c).toNat]?) = pickS items.toList c := by
    unfold pickS
    rw [Array.length_toList]
    congr 1
    funext m
    rw [Array.getElem?_toList]
  rw [e]
  first
    | exact wpAny_bind (m := Builtin.Tuple.tupleExact _) (wpAny_newObj_type (wpAny_pure ⟨_, rfl, wpAny_pure h⟩) htake)
    | exact wpAny_bind (m := Builtin.Tuple.tupleExact _) (wpAny_newObj_type (wpAny_bind (wpAny_pure (wpAny_pure ⟨_, rfl, wpAny_pure h⟩))) htake)
    | exact wpAny_bind (wpAny_bind (m := Builtin.Tuple.tupleExact _) (wpAny_newObj_type (wpAny_pure (wpAny_pure ⟨_, rfl, wpAny_pure h⟩)) htake))
    | exact wpAny_bind (wpAny_bind (m := Builtin.Tuple.tupleExact _) (wpAny_newObj_type (wpAny_pure ⟨_, rfl, wpAny_pure h⟩) htake))
end
theorem Vals.pick {vs : List V} {us : List Value} (h : Vals vs us) : ∀ (ks : List Nat), Vals (ks.filterMap fun m => vs[m]?) (ks.filterMap fun m => us[m]?)
  | [] => .nil
  | k :: ks => by
    rw [List.filterMap_cons, List.filterMap_cons]
    cases e : vs[k]? with
    | none =>
      have : us[k]? = none := by
        rw [List.getElem?_eq_none_iff] at e ⊢
        rw [← h.length]; exact e
      rw [this]
      exact Vals.pick h ks
    | some v =>
      obtain ⟨u, hu, ru⟩ := h.get e
      rw [hu]
      exact .cons ru (Vals.pick h ks)
theorem pickS_map {α β : Type} (f : α → β) (xs : List α) (c : Int) : pickS (xs.map f) c = (pickS xs c).map f := by
  unfold pickS
  rw [List.length_map, List.map_filterMap]
  congr 1
  funext m
  rw [List.getElem?_map]
theorem pick_eq {α : Type} (xs : List α) (c : Int) : pickS xs c = ((List.range (stK xs.length c)).map fun (m : Nat) => (stLo xs.length c + (m : Int) * c).toNat).filterMap fun m => xs[m]? := by
  unfold pickS
  rw [List.filterMap_map]
  rfl
theorem RpA.pick {K : PySem.W.Frag} {G : Hp} {vs : List V} {ds : List D} (h : RpA K G vs ds) : ∀ (ks : List Nat), RpA K G (ks.filterMap fun m => vs[m]?) (ks.filterMap fun m => ds[m]?)
  | [] => .nil
  | k :: ks => by
    rw [List.filterMap_cons, List.filterMap_cons]
    cases e : vs[k]? with
    | none =>
      have : ds[k]? = none := by
        rw [List.getElem?_eq_none_iff] at e ⊢
        rw [← h.length]; exact e
      rw [this]
      exact RpA.pick h ks
    | some v =>
      obtain ⟨d, hd, rd⟩ := h.getV e
      rw [hd]
      exact .cons rd (RpA.pick h ks)
theorem RpA.pickS {K : PySem.W.Frag} {G : Hp} {vs : List V} {ds : List D} (h : RpA K G vs ds) (c : Int) : RpA K G (Mp.pickS vs c) (Mp.pickS ds c) := by
  rw [pick_eq, pick_eq, h.length]
  exact h.pick _
/-- t[::c] -/
theorem pe_step {X : Cx} {e : Expr} {te : TE} {c : Int} {j : Nat} {p2 p3 pos : Pos} (he : PE X e te) (hc : c ≠ 0) (hc1 : c ≠ 1) :
    PE X (.Subscript e (.Slice none none (some (.Constant (.int c) j p3)) p2) pos) (fun σ H Q => te σ H fun x H1 => ∃ a xs, x = .ref a ∧ SqT X.K H1 a xs ∧ (pickS xs c).length ≤ sizeLine ∧ ∀ p, H1 p = none → Q (.ref p) (upd H1 p (.tup (pickS xs c)))) := by
  refine ⟨fun pins s σ H Q I h => ?_⟩
  refine Subscript_ (thn (he.run pins s σ H _ I h) fun v s1 ⟨x, H1, I1, r1, q1⟩ => ?_)
  obtain ⟨a, xs, rfl, hq, hz, q⟩ := q1
  refine wpAny_Slice (thn (po_none.run pins s1 σ H1 (fun o H2 => o = none ∧ H2 = H1) I1 ⟨rfl, rfl⟩) fun vl s2 ⟨l, H2, I2, pl, e2⟩ => thn (po_none.run pins s2 σ H2 (fun o H3 => o = none ∧ H3 = H2) I2 ⟨rfl, rfl⟩) fun vu s3 ⟨u, H3, I3, pu, e3⟩ => thn ((po_some (pe_int (i := c) (j := j) (pos := p3))).run pins s3 σ H3 (fun o H4 => o = some c ∧ H4 = H3) I3 ⟨c, rfl, rfl, rfl⟩) fun vs s4 ⟨o, H4, I4, ps, e4⟩ => ?_)
  obtain ⟨rfl, rfl⟩ := e2
  obtain ⟨rfl, rfl⟩ := e3
  obtain ⟨rfl, rfl⟩ := e4
  cases pl
  cases pu
  cases ps with
  | int i t =>
    cases r1
    have I5 : L2.Inv X pins σ H4 { s4 with heap := s4.heap.push { cls := .type "slice", data := .fields #[.none, .none, .int c t] } } := I4.kept (t' := s4.toks) fun b ob q => Heap.get?_push_of_some _ q
    obtain ⟨its, r, ht, hzz⟩ := I5.tuple hq
    have hpk : Vals (pickS xs c) (pickS its c) := by
      rw [pick_eq, pick_eq, r.length]
      exact Vals.pick r _
    have hg : wpAny (model X.prog X.w) X.A (getItem (.ref a) (.ref s4.heap.objs.size)) (EP X pins σ Q) X.xe { s4 with heap := s4.heap.push { cls := .type "slice", data := .fields #[.none, .none, .int c t] } } := by
      refine getItem_tuple_step ht (Heap.IsSliceOf.new ..) hc hc1 ?_ (by rw [← hpk.length]; exact hz)
      refine ⟨.ref _, _, I5.laid (t' := s4.toks) (o := .tup (pickS xs c)) (fun b ob q => Heap.get?_push_of_some _ q) (Nat.le_refl _) ?_, rfl, q _ (I5.hok.fresh (Nat.le_refl _))⟩
      exact ⟨hz, _, hpk, IsTup.new _ _⟩
    show wpAny (model X.prog X.w) X.A (subscriptTail e (.Slice none none (some (.Constant (.int c) j p3)) p2) (.ref a) (.ref s4.heap.objs.size)) (EP X pins σ Q) X.xe { s4 with heap := s4.heap.push { cls := .type "slice", data := .fields #[.none, .none, .int c t] } }
    exact tail_any (ops := [.ref a, .ref s4.heap.objs.size]) ht.typeIs PyProof.Rows.slot_tuple_getitem.lookup hg (by with_unfolding_all rfl)
section
variable {w : Wd} {X : Cx} {env : En} {O : Os} {σ : L2.St} {H H1 H2 H' : Hp} {e a b : Expr} {es : List Expr} {p pos pos2 : Pos} {d d1 d2 : D} {i j : Int} {ds es' fs : List D} {x : Str} {k : Nat} {tg iter : Expr}
theorem ev_stepU {c : Int} {j : Nat} {p3 : Pos} (hk : X.K = w.K) (ha : EU w X a env O ds) (hc : c ≠ 0) (hc1 : c ≠ 1) (hz : (pickS ds c).length ≤ sizeLine) : EV w X (.Subscript a (.Slice none none (some (.Constant (.int c) j p3)) pos2) pos) env O (.tup (pickS ds c)) := fun σ H h Q q =>
  re_of (pe_step pe_c hc hc1) (ha σ H h _ fun v xs H1 l1 e1 r1 => by
    have rp := r1.pickS c
    exact ⟨v, xs, rfl, by rw [hk]; exact ex_t (mn_le _ _) e1, by rw [rp.length]; exact hz, fun t ht => q _ _ (l1.trans (Lv.new l1.1 ht)) (Lv.newT l1.1 ht rp)⟩)
end
end Mp
end
section
set_option Elab.async false
set_option linter.all false
set_option maxRecDepth 100000
set_option maxHeartbeats 4000000
/-! Mp15: dicts with tuple keys. -/
namespace Mp
open PySem PySem.Spec PyProof.Rows L2
abbrev dK (k : L2.Key) : D := .v (kV k)
/-- a tuple of ints as a key -/
abbrev kI (l : List Int) : List L2.Key := l.map Sum.inl
theorem kI_d (l : List Int) : (kI l).map dK = iL l := by simp [kI, dK, iL, kV]
theorem flat_kV (k : L2.Key) : flat (kV k) = true := by cases k <;> rfl
theorem RpA.keys {K : PySem.W.Frag} {G : Hp} {vs : List V} {ks : List L2.Key} (h : RpA K G vs (ks.map dK)) : vs = ks.map kV := by
  rw [show ks.map dK = (ks.map kV).map D.v by simp] at h
  exact h.flats
theorem RpA.of_keys {K : PySem.W.Frag} {G : Hp} (ks : List L2.Key) : RpA K G (ks.map kV) (ks.map dK) := by
  rw [show ks.map dK = (ks.map kV).map D.v by simp]
  exact .of_flats (by rw [List.all_eq_true]; intro x hx; obtain ⟨k, _, rfl⟩ := List.mem_map.mp hx; exact flat_kV k)
theorem rp_key {K : PySem.W.Frag} {G : Hp} {v : V} {ks : List L2.Key} (h : Rp K G v (.tup (ks.map dK))) : ∃ b, v = .ref b ∧ G b = some (.tup (ks.map kV)) := by
  cases h with
  | tup h1 r =>
    rw [r.keys] at h1
    exact ⟨_, rfl, h1⟩
/-- it comes to a new object of one's own -/
def EO (w : Wd) (X : Cx) (e : Expr) (env : En) (O : Os) (c : Oc) : Prop := ∀ σ H, Sd w env O σ H → ∀ Q : VK, (∀ p H', Sd w env (O ++ [(p, c)]) σ H' → (∀ b o, b ∉ w.B → H b = some o → H' b = some o) → Q (.ref p) H') → RE X e σ H Q
section
variable {w : Wd} {X : Cx} {env : En} {O : Os} {σ : L2.St} {H H1 H2 H' : Hp} {e a b c : Expr} {es : List Expr} {p pos pos2 : Pos} {d d1 d2 : D} {i j : Int} {ds es' : List D} {x : Str} {k : Nat} {Dn : Ends} {st : Stmt} {ss rest body orelse : List Stmt} {tg iter : Expr} {kvs : List (List L2.Key × V)} {ks : List L2.Key} {v : V} {oc : Oc}
theorem EN.o (h : EN w X e env O ds) : EO w X e env O (.l ds) := h
theorem eo_dict : EO w X (.Dict [] [] pos) env O (.t []) := fun σ H h Q q =>
  re_of pe_dnewT fun p hp => q p _ (h.newE (c := .t []) hp upd_same).1 fun b o _ e => Ex.new hp b o e
/-- d[k], d data -/
theorem ev_dget (hu : X.A.units + 64 < cLine) (ha : EV w X a env O (.dT kvs)) (hb : EV w X b env O (.tup (ks.map dK))) (hv : valV kvs ks = some v) (hf : flat v = true) (hs : NoSl b := by intro _ _; rfl) : EV w X (.Subscript a b pos) env O (.v v) := fun σ H h Q q =>
  re_of (pe_dget (by omega) pe_c pe_c hs) (ha σ H h _ fun x H1 l1 r1 => hb σ H1 l1.1 _ fun y H2 l2 r2 => by
    cases r1 with
    | dT h1 =>
      obtain ⟨t, rfl, ht⟩ := rp_key r2
      exact ⟨_, v, rfl, .inr ⟨kvs, ks, t, ex_rd (mn_le _ _) (ex_rd l2.ex h1), rfl, mn_le _ _ _ _ ht, hv.symm⟩, q _ H2 (l1.trans l2) (.v hf)⟩)
/-- d[k], d one's own (locked or not) -/
theorem ev_dgetO (n m : Nat) {y : Str} {py : Pos} {q' : Addr} (hu : X.A.units + 64 < cLine) (hi : env.s[n]? = some (.a q')) (hk : O[m]? = some (q', .t kvs) ∨ ∃ od, O[m]? = some (q', .z od kvs)) (hb : EV w X b env O (.tup (ks.map dK))) (hv : valV kvs ks = some v) (hf : flat v = true) (hs : NoSl b := by intro _ _; rfl)
    (hN : X.N[n]? = some y := by rfl) (hvs : Vis X.env.scope y := by first | exact Or.inl rfl | exact Or.inr (Or.inl rfl) | exact Or.inr (Or.inr rfl)) (hd : (y == ("__debug__" : Str)) = false := by decide) (hcd : (y == ("__classdict__" : Str)) = false := by decide) : EV w X (.Subscript (.Name y py) b pos) env O (.v v) := fun σ H h Q q =>
  re_of (pe_dget (by omega) (pe_var hN hvs hd hcd) pe_c hs) ⟨.ref q', h.adr n q' hi, hb σ H h _ fun y H2 l2 r2 => by
    obtain ⟨t, rfl, ht⟩ := rp_key r2
    have rd : Rd H2 q' (.dT kvs) := by
      rcases hk with hk | ⟨od, hk⟩
      · exact .inl (l2.1.get hk)
      · exact .inr ⟨od, l2.1.get hk⟩
    exact ⟨_, v, rfl, .inr ⟨kvs, ks, t, rd, rfl, mn_le _ _ _ _ ht, hv.symm⟩, q _ H2 l2 (.v hf)⟩⟩
/-- d[k] = v -/
theorem ws_dput (n m : Nat) {y : Str} {py sp : Pos} {q' : Addr} (hu : X.A.units + 64 < cLine) (hi : env.s[n]? = some (.a q')) (hk : O[m]? = some (q', .t kvs)) (h : EV w X e env O (.v v)) (hb : EV w X b env O (.tup (ks.map dK))) (hl : kvs.length < sizeLine) (q : WPS w X env (O.set m (q', .t (putK kvs ks v))) rest Dn)
    (hN : X.N[n]? = some y := by rfl) (hvs : Vis X.env.scope y := by first | exact Or.inl rfl | exact Or.inr (Or.inl rfl) | exact Or.inr (Or.inr rfl)) (hd : (y == ("__debug__" : Str)) = false := by decide) (hcd : (y == ("__classdict__" : Str)) = false := by decide)
    (hs : swapsWith e (some (.Subscript (.Name y py) b sp)) pos.line X.env = pure false := by rfl) : WPS w X env O (.Assign [.Subscript (.Name y py) b sp] e pos :: rest) Dn :=
  ws_cons (ps_dput (by omega) (pe_var hN hvs hd hcd) pe_c pe_c hs) fun σ H hs => by
    refine h σ H hs _ fun x H1 l1 r1 => ⟨.ref q', l1.1.adr n q' hi, hb σ H1 l1.1 _ fun y H2 l2 r2 => ?_⟩
    obtain ⟨t, rfl, ht⟩ := rp_key r2
    rw [rp_v r1]
    exact ⟨q', _, rfl, .inr ⟨kvs, ks, t, l2.1.get hk, rfl, mn_le _ _ _ _ ht, hl, rfl⟩, q σ _ (l2.1.write (c := .t (putK kvs ks v)) hk upd_same).1⟩
/-- d[k] += e -/
theorem ws_daug (n m : Nat) {y : Str} {py sp : Pos} {q' : Addr} (hu : X.A.units + 64 < cLine) (hi : env.s[n]? = some (.a q')) (hk : O[m]? = some (q', .t kvs)) (hb : EV w X b env O (.tup (ks.map dK))) (hv : valV kvs ks = some (.int i)) (h : EV w X e env O (.int j)) (hl : kvs.length < sizeLine) (q : WPS w X env (O.set m (q', .t (putK kvs ks (.int (i + j))))) rest Dn)
    (hN : X.N[n]? = some y := by rfl) (hvs : Vis X.env.scope y := by first | exact Or.inl rfl | exact Or.inr (Or.inl rfl) | exact Or.inr (Or.inr rfl)) (hd : (y == ("__debug__" : Str)) = false := by decide) (hcd : (y == ("__classdict__" : Str)) = false := by decide)
    (ha : ∀ ov iv new, augStore b ov iv new = (do holding [new, ov, iv] (setItem ov iv new); release [new, ov, iv] []; pure Flow.next) := by intros; rfl) : WPS w X env O (.AugAssign (.Subscript (.Name y py) b sp) .Add e pos :: rest) Dn :=
  ws_cons (ps_daug (by omega) (pe_var hN hvs hd hcd) pe_c pe_c ip_add ha) fun σ H hs => by
    refine ⟨.ref q', hs.adr n q' hi, hb σ H hs _ fun y H1 l1 r1 => ?_⟩
    obtain ⟨t, rfl, ht⟩ := rp_key r1
    refine ⟨q', .int i, rfl, .inr ⟨kvs, ks, t, .inl (l1.1.get hk), rfl, mn_le _ _ _ _ ht, hv.symm⟩, h σ H1 l1.1 _ fun z H2 l2 r2 => ⟨i, j, rfl, rp_int r2, ?_⟩⟩
    exact ⟨_, .inr ⟨kvs, ks, t, l2.1.get hk, rfl, mn_le _ _ _ _ (l2.ex _ _ ht), hl, rfl⟩, q σ _ (l2.1.write (c := .t (putK kvs ks (.int (i + j)))) hk upd_same).1⟩
/-- x = e, a new object of one's own -/
theorem ws_newO (i : Nat) {y : Str} {py : Pos} (hN : X.N.Nodup) (h : EO w X e env O oc) (q : ∀ p, WPS w X (env.put i (.a p)) (O ++ [(p, oc)]) rest Dn) (hi : X.N[i]? = some y := by rfl) (hx : Loc X.env.scope y := by first | exact .inl rfl | exact .inr rfl) (hs : swapsWith e (some (.Name y py)) pos.line X.env = pure false := by rfl)
    (hf : X.fn y = true ∨ X.env.scope.names.lookup y = some .local := by first | exact .inl rfl | exact .inr rfl) : WPS w X env O (.Assign [.Name y py] e pos :: rest) Dn :=
  ws_cons (ps_set hN hi hx pe_c hs hf) fun σ H hs => h σ H hs _ fun p H' h' _ => q p _ H' (h'.setA i)
/-! ### promises of new objects -/
/-- a def that makes of data a new object, and changes nothing -/
def PN (K : PySem.W.Frag) (R : List D → Oc → Prop) : Sp := fun vs H Q _ => ∃ (A : List Addr) (ds : List D) (c : Oc), RpA K (mn A H) vs ds ∧ R ds c ∧ (∀ a ∈ A, NT (H a)) ∧ ∀ p H', Ex H H' → H p = none → OcOk K (mn (p :: A) H') H' p c → Q (.ref p) H'
/-- the end of such a def -/
def RetN (w : Wd) (Dn : Ends) (c : Oc) : Prop := ∀ p H', (∀ b o, b ∉ w.B → w.H0 b = some o → H' b = some o) → (∀ b ∈ w.A0, NT (H' b)) → w.J H' → w.H0 p = none → OcOk w.K (mn (p :: w.A0) H') H' p c → Dn.rt (.ref p) H'
theorem OcOk.mono {K : PySem.W.Frag} {G G' H : Hp} {p : Addr} {c : Oc} (h : OcOk K G H p c) (e : Ex G G') : OcOk K G' H p c := by
  cases c with
  | l ds => obtain ⟨xs, e1, r⟩ := h; exact ⟨xs, e1, r.mono e⟩
  | t kvs => exact h
  | z od kvs => exact h
theorem Sd.retN (h : Sd w env O σ H) {q' : Addr} (hk : O[k]? = some (q', oc)) : OcOk w.K (mn (q' :: w.A0) H) H q' oc :=
  (h.get hk).mono (mn_sub (fun b hb => by
    rcases List.mem_cons.mp hb with z | z
    · subst z; exact List.mem_append_left _ (h.mem hk)
    · exact List.mem_append_right _ z) H)
theorem ws_retN (i k : Nat) {y : Str} {q' : Addr} {py : Pos} (hi : env.s[i]? = some (.a q')) (hk : O[k]? = some (q', oc)) (q : RetN w Dn oc) (hN : X.N[i]? = some y := by rfl) (hv : Vis X.env.scope y := by first | exact Or.inl rfl | exact Or.inr (Or.inl rfl) | exact Or.inr (Or.inr rfl)) (hd : (y == ("__debug__" : Str)) = false := by decide)
    (hcd : (y == ("__classdict__" : Str)) = false := by decide) : WPS w X env O (.Return (some (.Name y py)) pos :: rest) Dn := ws_cons (ps_ret (pe_var hN hv hd hcd)) fun σ H hs => ⟨_, hs.adr i q' hi, q _ H hs.ex hs.bt hs.j (hs.fr q' (hs.mem hk)) (hs.retN hk)⟩
theorem ws_retE (h : EO w X e env O oc) (q : RetN w Dn oc) : WPS w X env O (.Return (some e) pos :: rest) Dn := ws_cons (ps_ret pe_c) fun σ H hs => h σ H hs _ fun p H' h' ex => q p H' h'.ex h'.bt h'.j (h'.fr p (h'.mem (k := O.length) last_ix)) (h'.retN (k := O.length) last_ix)
/-- an object that a call has made is taken for one's own -/
theorem Sd.adopt (h : Sd w env O σ H) {q' : Addr} {o : HO} (e : Ex H H') (hn : H q' = none) (hq : H' q' = some o) (hc : OcOk w.K (mn (q' :: (own O ++ w.A0)) H') H' q' oc) : Sd w env (O ++ [(q', oc)]) σ H' := by
  have e1 : Ex H (fun b => if b = q' then none else H' b) := fun b u hb => by
    have : b ≠ q' := fun z => by rw [z, hn] at hb; cases hb
    show (if b = q' then none else H' b) = some u
    rw [if_neg this]
    exact e b u hb
  have h1 := (h.grow e1).1
  have eq : upd (fun b => if b = q' then none else H' b) q' o = H' := by
    funext b
    by_cases z : b = q'
    · subst z; rw [upd_same, hq]
    · rw [upd_ne z]; simp [z]
  have h2 := h1.newE (p := q') (o := o) (c := oc) (by show (if q' = q' then none else H' q') = none; rw [if_pos rfl]) (by
    rw [eq]
    have eG : w.G O (fun b => if b = q' then none else H' b) = mn (q' :: (own O ++ w.A0)) H' := by
      funext b
      by_cases z : b = q'
      · subst z
        rw [mn_in (List.mem_cons_self ..)]
        show mn _ _ b = none
        unfold mn
        split
        · rfl
        · simp
      · show mn (own O ++ w.A0) _ b = _
        unfold mn
        by_cases y : b ∈ own O ++ w.A0
        · rw [if_pos y, if_pos (List.mem_cons_of_mem _ y)]
        · rw [if_neg y, if_neg (fun q => by rcases List.mem_cons.mp q with q | q; exact z q; exact y q)]
          simp [z]
    rw [eG]
    exact hc)
  rw [eq] at h2
  exact h2.1
theorem eo_call {R : List D → Oc → Prop} (F : Def X.prog X.w X.K X.mg X.base x k (PN w.K R)) (hr : Room k X.A) (hg : Gl X x) (ha : AV w X (e :: es) env O ds) (hR : R ds oc) (hdb : (x == ("__debug__" : Str)) = false := by decide)
    (he : starEach (e :: es) X.env = (false, eval e X.env) :: starEach es X.env := by rfl) (hpl : (backTo pos (starEach es X.env)).any (·.1) = false := by rfl) : EO w X (.Call (.Name x p) (e :: es) [] pos) env O oc := fun σ H h Q q => by
  obtain ⟨f, fd, ps, F, hm, hk, hb⟩ := F
  refine re_of (pe_call F hr hg hm hk hb .nil pass0 pa_c hdb he hpl) (ha σ H h _ fun vs H1 l1 r1 => ?_)
  rw [List.append_nil]
  refine ⟨own O ++ w.A0, ds, oc, r1, hR, fun b hb => l1.1.there hb, fun p H2 e2 hn hc => ?_⟩
  have ho : ∃ o, H2 p = some o := by
    cases oc with
    | l ds => obtain ⟨xs, e, _⟩ := hc; exact ⟨_, e⟩
    | t kvs => exact ⟨_, hc⟩
    | z od kvs => exact ⟨_, hc⟩
  obtain ⟨o, ho⟩ := ho
  exact q p H2 (l1.1.adopt e2 hn ho hc) fun b o hb he => e2 b o (l1.2 b o hb he)
end
/-! a loop over the keys of a dict of one's own, that is locked meanwhile -/
section
variable {w : Wd} {X : Cx} {env : En} {O : Os} {σ : L2.St} {H H1 H2 H' : Hp} {e a b c : Expr} {es : List Expr} {p pos pos2 : Pos} {d d1 d2 : D} {i j : Int} {ds es' : List D} {x : Str} {k : Nat} {Dn : Ends} {st : Stmt} {ss rest body orelse : List Stmt} {tg iter : Expr} {kvs : List (List L2.Key × V)} {ks : List L2.Key} {v : V} {oc : Oc}
theorem rp_keyT {w : Wd} {env : En} {O : Os} {σ : L2.St} {H : Hp} (s : Sd w env O σ H) {q : Addr} {ks : List L2.Key} (h : H q = some (.tup (ks.map kV))) : Rp w.K (w.G O H) (.ref q) (.tup (ks.map dK)) :=
  .tup (by
    show mn (own O ++ w.A0) H q = _
    rw [mn_out fun z => (s.there z).2 _ h]
    exact h) (.of_keys ks)
theorem ws_forD {g : TG} {f : D → En → En} (n m : Nat) {y : Str} {py : Pos} {q' : Addr} (I : Nat → En) (Oi : Obj → Nat → Os) (hc : X.calm = true) (hi : env.s[n]? = some (.a q')) (hk : O[m]? = some (q', .t kvs)) (hg : PG X tg g) (hb : ∀ z ∈ kvs, BnS w g (.tup (z.1.map dK)) (f (.tup (z.1.map dK))))
    (hO : ∀ od i, i ≤ kvs.length → (Oi od i)[m]? = some (q', .z od kvs))
    (h0 : ∀ od σ H, Sd w env (O.set m (q', .z od kvs)) σ H → Sd w (I 0) (Oi od 0) σ H)
    (hs : ∀ od i z, kvs[i]? = some z → ∀ Dn' : Ends, Dn'.nx = Sd w (I (i + 1)) (Oi od (i + 1)) → WPS w X (f (.tup (z.1.map dK)) (I i)) (Oi od i) body Dn')
    (hd : ∀ od, WPS w X (I kvs.length) ((Oi od kvs.length).set m (q', .t kvs)) rest Dn) (hN : X.N[n]? = some y := by rfl) (hvs : Vis X.env.scope y := by first | exact Or.inl rfl | exact Or.inr (Or.inl rfl) | exact Or.inr (Or.inr rfl)) (hdd : (y == ("__debug__" : Str)) = false := by decide) (hcd : (y == ("__classdict__" : Str)) = false := by decide)
    (hsf : ∀ x, foldedSetIterable (.Name y py) X.env x = pure x := by intro _; rfl) (hp : PassesOwn (model X.prog X.w) X.A X.env X.xe := by exact PassesOwn.never) : WPS w X env O (.For tg (.Name y py) body [] pos :: rest) Dn := by
  refine ws_cons (ps_lock (ps_for hp hc (pi_keys (pe_var hN hvs hdd hcd)) hg pss_c hsf)) fun σ H hs0 => ?_
  refine ⟨q', .dT kvs, hs0.get hk, trivial, fun od => ?_⟩
  have w1 := (hs0.write (c := .z od kvs) (o := .frz od (.dT kvs)) hk upd_same).1
  have s0 := h0 od _ _ w1
  refine ⟨.ref q', w1.adr n q' hi, q', od, rfl, .inr ⟨kvs, upd_same, ?_⟩⟩
  refine for_it walk_keysT (fun i => Sd w (I i) (Oi od i)) s0 ?_ ?_ ?_
  · exact fun i σ H hi z => z.get (hO od i hi)
  · intro i x σ H2 H3 hlt z y
    obtain ⟨rfl, k, v, q, hkv, rfl, hq⟩ := y
    have r := rp_keyT z hq
    refine hb (k, v) (List.mem_of_getElem? hkv) _ _ σ H3 _ z r _ fun σ2 s2 => ?_
    exact hs od i (k, v) hkv _ rfl σ2 H3 s2
  · intro σ H z
    have hz := hO od kvs.length (Nat.le_refl _)
    refine ⟨z.get hz, ?_⟩
    exact hd od σ _ (z.write (c := .t kvs) (o := .dT kvs) hz upd_same).1
end
section
variable {P : Program} {wl : World} {K : PySem.W.Frag} {mg : Str → Option Value} {base : Heap}
theorem def_new {x : Str} {st : Stmt} {f : Addr} {fd : FuncData} {N ps : List Str} {R : List D → Oc → Prop} {k : Nat} (F : Fun K x x st f fd) (g : mg x = some (.ref f)) (S : FnScope N ps (defScope st)) (b : Binds K fd ps [])
    (hl : ∀ ds d, R ds d → ds.length = ps.length) (hN : ps.length ≤ N.length)
    (body : ∀ (cdv : Value) (A : Around) (outer : List Env) (s : Shared) (H : Hp) (E : XK) (L : List Addr) (Dn : Ends) (ds : List D) (d : Oc), Room k (BX P wl K mg base N x st f cdv A outer s H E).A → R ds d → RetN (pw K L H) Dn d →
      WPS (pw K L H) (BX P wl K mg base N x st f cdv A outer s H E) ⟨sl0 N.length ds, []⟩ [] (defBody st) Dn) : Def P wl K mg base x (k + 1) (PN K R) := by
  refine ⟨f, fd, ps, F.ok S (fun vs H Q E h => ?_) (fun cdv A outer s H vs Q E hr h => ?_), g, F.kp, b⟩
  · obtain ⟨A, ds, d, r, hR, _⟩ := h
    rw [r.length, hl ds d hR]
  · obtain ⟨L, ds, d, r, hR, ht, q⟩ := h
    refine ⟨_, pss_c, body cdv A outer s H E L { nx := fun _ H' => Q .non H', rt := Q } ds d hr hR (fun p H' ex bt _ hn hc => q p H' (fun b o e => ex b o (by simp [pw]) e) hn hc) _ H (sd_start r ht (by rw [hl ds d hR]; exact hN))⟩
end
end Mp
end
section
set_option Elab.async false
set_option linter.all false
set_option maxRecDepth 100000
set_option maxHeartbeats 4000000
/-! Mp16: dict comprehensions whose keys are tuples. -/
namespace Mp
open PySem PySem.Spec PyProof.Rows L2
theorem d_dictSetT {X : Cx} {pins : List (Addr × Obj)} {σ : L2.St} {H : Hp} {s : Shared} {E : Value → Shared → Prop} {Dd b : Addr} {kvs : List (List L2.Key × V)} {k : List L2.Key} {v : V} {r : Value} {Q : Unit → Shared → Prop} (hu : X.A.units + 1 < cLine) (I : L2.Inv X pins σ H s) (hD : H Dd = some (.dT kvs)) (hb : H b = some (.tup (k.map kV))) (hz : kvs.length < sizeLine)
    (rv : L2.RelV v r) (h : ∀ s', L2.Inv X pins σ (upd H Dd (.dT (putK kvs k v))) s' → Q () s') : wpAny (model X.prog X.w) X.A (dictSet Dd (.ref b) r) Q E s := by
  obtain ⟨z, hd, xs, rel, dd⟩ := dt_of I.hok hD
  have hz' : xs.length ≤ sizeLine := by rw [← Paired.length rel]; exact z
  have hl : (putK kvs k v).length ≤ sizeLine := by have := length_putK kvs k v; omega
  refine wpAny_dictSet_heap (hsz := hz') (show X.A.units < cLine by omega) (key_of I.hok hb) dd fun h' dd' hs => h _ ?_
  obtain ⟨q, es, ep, hq, h2, h3, h4, _, h5⟩ := dd'
  refine d_write I (by rw [hD]; exact True.intro) hs ⟨q, hq⟩ ⟨hl, hd, _, (rel.put k hb rv).keeps fun c ys ec => ?_, q, es, ep, hq, h2, h3, h4, h5⟩
  rw [upd_ne (ne_of ec hD (fun z => nomatch z))]
  exact ec
section
variable {X : Cx}
/-- {k: v for target in iter}, the keys tuples: D the new dict -/
def tDcT (wi : TI) (g : TG) (tk tv : TE) (vs : List Nat) : TE := fun σ H Q => wi σ H fun J H1 => ∀ D, H1 D = none → ∃ W : Nat → Nat → Hp → Prop, (∃ m, W 0 m (upd H1 D (.dT []))) ∧ ∀ i m H, W i m H →
  (J.stop i H ∧ Q (.ref D) H) ∨ (J.go i H ∧ ∃ Nx : Hp → Prop, (∀ H', Nx H' → ∃ m', m' < m ∧ W (i + 1) m' H') ∧ ∀ x H', J.yld i H x H' → g x (L2.wipe σ vs) H' fun σ2 H2 => L2.wipe σ2 vs = L2.wipe σ vs ∧
    tk σ2 H2 fun y H4 => tv σ2 H4 fun z H5 => ∃ kvs k b, y = .ref b ∧ H5 b = some (.tup (k.map kV)) ∧ H5 D = some (.dT kvs) ∧ kvs.length < sizeLine ∧ Nx (upd H5 D (.dT (putK kvs k z))))
theorem pe_dcT {kx vx tg iter : Expr} {scope : Scope} {own : List (Str × Nat)} {pos : Pos} {wi : TI} {g : TG} {tk tv : TE} (hu : X.A.units + 1 < cLine) (hc : X.calm = true) (hN : X.N.Nodup) (hi : PI X tg iter wi) (ok : BlkOk X.N X.env.scope scope own)
    (hg : ∀ (s : Shared) (H : Hp) (C : Addr) (cl : List (Str × Addr)) (fp : List Addr), PG (X.blk s H scope (compEnvC scope cl C X.env) fp) tg g)
    (hk : ∀ (s : Shared) (H : Hp) (C : Addr) (cl : List (Str × Addr)) (fp : List Addr), PE (X.blk s H scope (compEnvC scope cl C X.env) fp) kx tk)
    (he : ∀ (s : Shared) (H : Hp) (C : Addr) (cl : List (Str × Addr)) (fp : List Addr), PE (X.blk s H scope (compEnvC scope cl C X.env) fp) vx tv) (hs : ∀ x, foldedSetIterable iter X.env x = pure x := by intro _; rfl) :
    PE X (.DictComp kx vx [⟨tg, iter, [], 0⟩] scope pos) (tDcT wi g tk tv (own.map (·.2))) := by
  refine ⟨fun pins s σ H Q I h => ?_⟩
  rw [arm_eval_DictComp]
  have hfree : ∀ y ∈ scope.names, y.2 = .free → ∃ c, X.env.cells.lookup y.1 = some c := fun y hy e => by
    rcases ok.free y hy e with k | k
    · exact I.ok.has _ (.inl k)
    · exact I.ok.has _ (.inr k)
  refine wpAny_comprehension_free (use := none) rfl hs (closure_ok hfree) ok.kind (fun y hy e => by rw [ok.uniq y hy, e])
    (thn (hi.run pins s σ H _ I h) fun xv s1 hx => thn hx fun itv s2 h2 => ?_)
  obtain ⟨it, fp, tn, J, H2, e, I2, T, st2, f2, q⟩ := h2
  subst e
  refine wpAny_newObj_type (newEnv_comp ?_)
  generalize hD : s2.heap.objs.size = Dd
  have hDn : H2 Dd = none := I2.hok.fresh (Nat.le_of_eq hD)
  obtain ⟨W, ⟨m0, w0⟩, turn⟩ := q Dd hDn
  generalize hs3 : ({ s2 with heap := s2.heap.push { cls := .type "dict", data := .dict #[] } } : Shared) = s3
  have I3 : L2.Inv X pins σ (upd H2 Dd (.dT [])) s3 := by
    rw [← hs3]
    refine I2.laid (t' := s2.toks) (fun b o e => Heap.get?_push_of_some _ e) (Nat.le_of_eq hD) ?_
    rw [← hD]
    exact dt_empty s2.heap I2.big
  have h3 : s3.heap = s2.heap.push { cls := .type "dict", data := .dict #[] } := by rw [← hs3]
  have sz : ∀ b ∈ fp, b < s2.heap.objs.size := fun b hb => by
    obtain ⟨o, e, _⟩ := T.obj _ _ st2 b hb
    exact Heap.lt_size e
  have f3 : ∀ b ∈ fp, FpOk X pins (upd H2 Dd (.dT [])) b ∧ b < s3.heap.objs.size := fun b hb => by
    have hlt := sz b hb
    refine ⟨⟨?_, (f2 b hb).2⟩, by rw [h3, Heap.size_push]; exact Nat.lt_succ_of_lt hlt⟩
    rw [upd_ne (by rw [← hD]; exact Nat.ne_of_lt hlt)]
    exact (f2 b hb).1
  have st3 : tn 0 s3.heap := T.keep _ _ _ st2 fun b _ o e => by rw [h3]; exact Heap.get?_push_of_some _ e
  have I4 := block_start I3 ok hN f3
  have pg := hg s3 (upd H2 Dd (.dT [])) s3.heap.objs.size (cellsFrom (s3.heap.objs.size + 1) scope.names (cloFrom X.env.cells scope.names [])) fp
  have pk := hk s3 (upd H2 Dd (.dT [])) s3.heap.objs.size (cellsFrom (s3.heap.objs.size + 1) scope.names (cloFrom X.env.cells scope.names [])) fp
  have pe := he s3 (upd H2 Dd (.dT [])) s3.heap.objs.size (cellsFrom (s3.heap.objs.size + 1) scope.names (cloFrom X.env.cells scope.names [])) fp
  show codeAny _ _ (.compStart (.DictComp kx vx [⟨tg, iter, [], 0⟩] scope pos) 0 (.ref it) (.ref Dd) (compEnvC scope (cellsFrom (s3.heap.objs.size + 1) scope.names (cloFrom X.env.cells scope.names [])) s3.heap.objs.size X.env)) (compPost (model X.prog X.w) X.A X.xe none _ (.ref Dd) s3.heap.objs.size) { s3 with heap := pushCells (s3.heap.push { cls := .type "dict", data := .dict #[] }) scope.names }
  have nfp : ∀ b ∈ fp, (upd H2 Dd (.dT [])) b = none := fun b hb => (f3 b hb).1.1
  generalize hce : compEnvC scope (cellsFrom (s3.heap.objs.size + 1) scope.names (cloFrom X.env.cells scope.names [])) s3.heap.objs.size X.env = ce at I4 pg pk pe ⊢
  have cL : ce.locals = s3.heap.objs.size := by subst hce; rfl
  generalize hH3 : upd H2 Dd (.dT []) = H3 at I3 I4 pg pk pe w0 nfp f3
  generalize hs4 : ({ s3 with heap := pushCells (s3.heap.push { cls := .type "dict", data := .dict #[] }) scope.names } : Shared) = s4 at I4 ⊢
  have st4 : tn 0 s4.heap := T.keep _ _ _ st3 fun b _ o e => by rw [← hs4]; exact pushCells_keeps _ _ _ _ (Heap.get?_push_of_some _ e)
  have stat : ∀ {σ' : L2.St} {H' : Hp} {s' : Shared}, L2.Inv (X.blk s3 H3 scope ce fp) [] σ' H' s' → (∀ b ∈ fp, H' b = none) → ∀ b ∈ fp, FpOk (X.blk s3 H3 scope ce fp) [] H' b := fun {σ' H' s'} I' hn b hb =>
    ⟨hn b hb, (I'.ok.exf b hb).1, I'.ok.exfs b hb, .inl hb, fun x c e => (I'.ok.exf b hb).2 x c e, fun p hp => absurd (show p ∈ ([] : List (Addr × Obj)) ++ [] from hp) (by simp)⟩
  have loop : codeAny (model X.prog X.w) X.A (.compLoop (.DictComp kx vx [⟨tg, iter, [], 0⟩] scope pos) 0 (.ref it) (.ref Dd) ce) (compPost (model X.prog X.w) X.A X.xe none (EP X pins σ Q) (.ref Dd) s3.heap.objs.size) s4 := by
    refine compLoop_anyD (fun n s' => ∃ i H', L2.Inv (X.blk s3 H3 scope ce fp) [] (L2.wipe σ (own.map (·.2))) H' s' ∧ tn i s'.heap ∧ (∀ b ∈ fp, H' b = none) ∧ W i n H') ?_ m0 ⟨0, H3, I4, st4, nfp, w0⟩
    rintro n s5 ⟨i, H5, I5, st5, n5, w5⟩
    rcases turn i n H5 w5 with ⟨stop, qq⟩ | ⟨go, Nx, hNx, step⟩
    · have td := T.done (X.blk s3 H3 scope ce fp) rfl rfl rfl hc i [] s5 _ H5 (fun _ _ => False) I5 (stat I5 n5) st5 stop
      refine thnF td fun r s6 ⟨hr, I6⟩ => ?_
      subst hr
      have I7 : L2.Inv X pins σ H5 s6 := I3.call' (ch := fp) I6.os I6.base I6.hok I6.bare fun b hb => ⟨(f3 b hb).1.2.2.2.1, (f3 b hb).1.2.1, (f3 b hb).1.2.2.2.2.1, (f3 b hb).1.2.2.2.2.2⟩
      have nC : H5 s3.heap.objs.size = none := by
        have z : H5 ce.locals = none := I6.free
        rw [cL] at z
        exact z
      obtain ⟨m, hn, _⟩ := I6.loc
      have hn : s6.heap.Ns ce.locals m := hn
      rw [cL] at hn
      obtain ⟨f0, f1, f2, f3', f4, f5⟩ := I3.fpOk (Nat.le_refl _) nC
      exact ⟨m, hn, fun h'' sb => ⟨.ref Dd, H5, I7.turned (t' := s6.toks) (fun b o hb e => (sb.2 b hb).trans e) f0 f1 f3' f4 f5, rfl, qq⟩⟩
    · have ti := T.item (X.blk s3 H3 scope ce fp) rfl rfl rfl hc i [] s5 _ H5 (fun _ _ => False) I5 (stat I5 n5) st5 go
      refine thnF ti fun r s6 ⟨u, hr, h6⟩ => ?_
      subst hr
      refine thnF h6 fun _ s7 ⟨x, H7, I7, r7, y7, st7, n7⟩ => ?_
      have I7' := I7.pinned (stat I7 n7) (T.obj _ _ st7)
      refine thnF (pg.run _ s7 _ H7 x u _ I7' r7 (step x H7 y7)) fun _ s8 ⟨σ8, H8, I8, hw8, q8⟩ => ?_
      refine thnF ((pts_nil (X := X.blk s3 H3 scope ce fp)).run _ s8 σ8 H8 (fun b H9 => b = true ∧ H9 = H8) I8 ⟨rfl, rfl⟩) fun b s9 ⟨H9, I9, hb9, e9⟩ => ?_
      subst hb9 e9
      have fin : ∀ {s' : Shared} {H' : Hp}, L2.Inv (X.blk s3 H3 scope ce fp) ([] ++ pinsAt fp s7.heap) σ8 H' s' → Nx H' → ∃ m, m < n ∧ ∃ i H', L2.Inv (X.blk s3 H3 scope ce fp) [] (L2.wipe σ (own.map (·.2))) H' s' ∧ tn i s'.heap ∧ (∀ b ∈ fp, H' b = none) ∧ W i m H' := fun {s' H'} I' nx => by
        obtain ⟨m', hm, w'⟩ := hNx H' nx
        have pin' : ∀ b ∈ fp, ∀ o, s7.heap.get? b = some o → s'.heap.get? b = some o ∧ H' b = none := fun b hb o e =>
          let z := I'.pin (b, o) (List.mem_append_right _ (List.mem_append_right _ (mem_pinsAt hb e)))
          ⟨z.1, z.2.1⟩
        have hl : (L2.wipe σ (own.map (·.2))).length = σ8.length := by rw [← hw8, wipe_length]
        refine ⟨m', hm, i + 1, H', (I'.unpinned (pins := [])).weak hl (fun j v e => ?_), T.keep _ _ _ st7 fun b hb o e => (pin' b hb o e).1, fun b hb => ?_, w'⟩
        · rw [← hw8] at e
          exact (wipe_some e).1
        · obtain ⟨o, e, _⟩ := T.obj _ _ st7 b hb
          exact (pin' b hb o e).2
      simp only [if_true]
      refine thnF (pk.run _ s9 σ8 H9 _ I9 q8) fun z s10 ⟨yk, H10, I10, r10, q10⟩ => ?_
      refine thnF (pe.run _ s10 σ8 H10 _ I10 q10) fun z2 s11 ⟨yv, H11, I11, r11, kvs, k, b, ek, hb11, hD11, hz11, nx⟩ => ?_
      subst ek
      obtain rfl : z = Value.ref b := r10
      exact d_dictSetT (X := X.blk s3 H3 scope ce fp) hu I11 hD11 hb11 hz11 r11 fun s12 I12 => fin I12 nx
  exact codeAny_compStart_dict loop (T.self X.A 0 _ _ _ st4 loop)
end
section
variable {w : Wd} {X : Cx} {env : En} {O : Os} {σ : L2.St} {H H1 H2 H' : Hp} {p pos pos2 : Pos} {kx vx tg iter : Expr} {scope : Scope}
/-- the pairs of a dict comprehension -/
def dcL {α : Type} (kf : α → List L2.Key) (vf : α → V) (xs : List α) : List (List L2.Key × V) := xs.foldl (fun acc x => putK acc (kf x) (vf x)) []
theorem dcL_len {α : Type} (kf : α → List L2.Key) (vf : α → V) : ∀ (xs : List α) (acc : List (List L2.Key × V)), (xs.foldl (fun acc x => putK acc (kf x) (vf x)) acc).length ≤ acc.length + xs.length
  | [], acc => by simp
  | x :: xs, acc => by
    have h1 := dcL_len kf vf xs (putK acc (kf x) (vf x))
    have h2 := length_putK acc (kf x) (vf x)
    simp only [List.foldl_cons, List.length_cons]
    omega
theorem eo_dc (j : Nat) {α : Type} {f : α → D} {kf : α → List L2.Key} {vf : α → V} {xs : List α} {y : Str} {py : Pos} (hu : X.A.units + 64 < cLine) (hc : X.calm = true) (hN : X.N.Nodup) (hi : IC w X (.Name y py) iter env O (xs.map f)) (ok : BlkOk X.N X.env.scope scope [(y, j)]) (hz : xs.length < sizeLine)
    (hg : ∀ (s : Shared) (H : Hp) (C : Addr) (cl : List (Str × Addr)) (fp : List Addr), PG (X.blk s H scope (compEnvC scope cl C X.env) fp) (.Name y py) (gName j))
    (hkx : ∀ x ∈ xs, ∀ q acc s H0 C cl fp, EV w (X.blk s H0 scope (compEnvC scope cl C X.env) fp) kx (env.put j (.d (f x))) (O ++ [(q, .t acc)]) (.tup ((kf x).map dK)))
    (hvx : ∀ x ∈ xs, ∀ q acc s H0 C cl fp, EV w (X.blk s H0 scope (compEnvC scope cl C X.env) fp) vx (env.put j (.d (f x))) (O ++ [(q, .t acc)]) (.v (vf x)))
    (hs : ∀ x, foldedSetIterable iter X.env x = pure x := by intro _; rfl) : EO w X (.DictComp kx vx [⟨.Name y py, iter, [], 0⟩] scope pos) env O (.t (dcL kf vf xs)) := fun σ H h Q q => by
  obtain ⟨wi, pi, hw⟩ := hi
  refine re_of (pe_dcT (tk := REb X scope kx) (tv := REb X scope vx) (by omega) hc hN pi ok hg (fun s H C cl fp => pe_cb s H C cl fp) (fun s H C cl fp => pe_cb s H C cl fp) hs) ?_
  refine hw σ H h _ fun J Gd Y H1 l1 wk kg ky Dn hD => ?_
  refine ⟨fun i m H2 => m = xs.length - i ∧ i ≤ xs.length ∧ (∀ b o, b ∉ w.B → H1 b = some o → H2 b = some o) ∧ Sd w env (O ++ [(Dn, .t (dcL kf vf (xs.take i)))]) σ H2 ∧ Ex (w.G O H1) (w.G (O ++ [(Dn, .t (dcL kf vf (xs.take i)))]) H2), ⟨_, rfl, Nat.zero_le _, fun b o _ e => Ex.new hD b o e, ?_⟩, ?_⟩
  · have z := l1.1.newE (c := .t []) (o := .dT []) hD upd_same
    refine ⟨z.1, ?_⟩
    show Ex (w.G O H1) (w.G (O ++ [(Dn, Oc.t [])]) (upd H1 Dn (HO.dT [])))
    rw [z.2]
    exact Same.refl _
  · rintro i m H2 ⟨rfl, hle, k2, s2, ex2⟩
    by_cases hlt : i < xs.length
    · have hlt2 : i < (xs.map f).length := by simpa using hlt
      refine .inr ⟨wk.goes i H2 hlt2 (kg H2 k2), fun H9 => i + 1 ≤ xs.length ∧ (∀ b o, b ∉ w.B → H1 b = some o → H9 b = some o) ∧ Sd w env (O ++ [(Dn, .t (dcL kf vf (xs.take (i + 1))))]) σ H9 ∧ Ex (w.G O H1) (w.G (O ++ [(Dn, .t (dcL kf vf (xs.take (i + 1))))]) H9), fun H9 h9 => ⟨xs.length - (i + 1), by omega, rfl, h9⟩, fun x H3 y => ?_⟩
      obtain ⟨d, hd, yy⟩ := ky i H2 x H3 hlt2 k2 (wk.yields i H2 x H3 hlt2 (kg H2 k2) y)
      have hxs : xs[i]? = some xs[i] := List.getElem?_eq_getElem hlt
      have hd' : d = f xs[i] := by
        rw [List.getElem?_map, hxs] at hd
        exact (Option.some.inj hd).symm
      have hmem : xs[i] ∈ xs := List.getElem_mem hlt
      have step : ∃ _ : Lv w env (O ++ [(Dn, .t (dcL kf vf (xs.take i)))]) σ H2 H3, Rp w.K (w.G (O ++ [(Dn, .t (dcL kf vf (xs.take i)))]) H3) x (f xs[i]) ∧ (∀ b o, b ∉ w.B → H1 b = some o → H3 b = some o) := by
        rw [← hd']
        rcases yy with ⟨e3, rr⟩ | ⟨T, ys, es, rfl, hT, e3, ry, rfl⟩
        · subst e3
          exact ⟨.refl s2, rr.mono ex2, k2⟩
        · subst e3
          exact ⟨Lv.new s2 hT, Lv.newT s2 hT (ry.mono ex2), fun b o hb e => Ex.new hT b o (k2 b o hb e)⟩
      obtain ⟨l3, r3, k3⟩ := step
      refine bnd_name j (f xs[i]) env _ σ H3 x l3.1 r3 _ fun σ2 s4 hw2 => ⟨hw2, ?_⟩
      have nb : Dn ∉ w.B := fun z => s2.disj (p := Dn) (by simp [own]) (w.bs _ z)
      show REb X scope kx σ2 H3 _
      intro s H0 C cl fp
      refine hkx xs[i] hmem _ _ s H0 C cl fp σ2 H3 s4 _ fun yk H4 l4 r4 => ?_
      obtain ⟨b, rfl, hb4⟩ := rp_key r4
      show REb X scope vx σ2 H4 _
      intro s' H0' C' cl' fp'
      refine hvx xs[i] hmem _ _ s' H0' C' cl' fp' σ2 H4 l4.1 _ fun yv H5 l5 r5 => ?_
      rw [rp_v r5]
      have hb5 : H5 b = some (.tup ((kf xs[i]).map kV)) := mn_le _ _ _ _ (l5.ex _ _ hb4)
      have eD : H5 Dn = some (.dT (dcL kf vf (xs.take i))) := l5.1.get (k := O.length) last_ix
      have zl : (dcL kf vf (xs.take i)).length < sizeLine := by
        have h1 := dcL_len kf vf (xs.take i) []
        have h2 : (xs.take i).length ≤ xs.length := by rw [List.length_take]; omega
        simp only [List.length_nil, Nat.zero_add] at h1
        exact Nat.lt_of_le_of_lt (Nat.le_trans h1 h2) hz
      have kk : ∀ b o, b ∉ w.B → H1 b = some o → H5 b = some o := fun b o hb e => l5.2 b o hb (l4.2 b o hb (k3 b o hb e))
      have z := s2.growB (H' := H5) (fun b o hb e => l5.2 b o hb (l4.2 b o hb (l3.2 b o hb e))) (fun b hb => l5.1.bt b (w.bs b hb)) l5.1.j
      refine ⟨_, kf xs[i], b, rfl, hb5, eD, zl, by omega, fun b o hb e => ?_, ?_⟩
      · have hne : b ≠ Dn := fun q' => by rw [q', hD] at e; cases e
        rw [upd_ne hne]
        exact kk b o hb e
      · have tk : xs.take (i + 1) = xs.take i ++ [xs[i]] := by rw [List.take_add_one, hxs]; rfl
        have ed : dcL kf vf (xs.take (i + 1)) = putK (dcL kf vf (xs.take i)) (kf xs[i]) (vf xs[i]) := by
          rw [tk]
          simp only [dcL, List.foldl_append, List.foldl_cons, List.foldl_nil]
        have wr := z.1.write (k := O.length) (c := .t (dcL kf vf (xs.take (i + 1)))) (o := .dT (putK (dcL kf vf (xs.take i)) (kf xs[i]) (vf xs[i]))) last_ix (by rw [ed]; exact upd_same)
        have es : (O ++ [(Dn, Oc.t (dcL kf vf (xs.take i)))]).set O.length (Dn, .t (dcL kf vf (xs.take (i + 1)))) = O ++ [(Dn, .t (dcL kf vf (xs.take (i + 1))))] := by
          rw [List.set_append_right _ _ (Nat.le_refl _), Nat.sub_self]
          rfl
        rw [es] at wr
        refine ⟨wr.1, ?_⟩
        rw [wr.2]
        exact ex2.trans z.2
    · have e : i = xs.length := by omega
      subst e
      have hl : (xs.map f).length = xs.length := by simp
      refine .inl ⟨hl ▸ wk.stops H2 (kg H2 k2), ?_⟩
      rw [List.take_length] at s2
      exact q Dn H2 s2 fun b o hb e => k2 b o hb (l1.2 b o hb e)
end
end Mp
end
section
set_option Elab.async false
set_option linter.all false
set_option maxRecDepth 100000
set_option maxHeartbeats 4000000
/-! Mp17: what is drawn: values that are known by a word alone; the state of the draws. -/
namespace Mp
open PySem PySem.Spec PyProof.Rows L2
/-! ### values known by a word -/
def EX (w : Wd) (X : Cx) (e : Expr) (env : En) (O : Os) (R : D → Prop) : Prop := ∀ σ H, Sd w env O σ H → ∀ Q : VK, (∀ x, R x → ∀ v H', Lv w env O σ H H' → Rp w.K (w.G O H') v x → Q v H') → RE X e σ H Q
def TX (w : Wd) (X : Cx) (e : Expr) (env : En) (O : Os) : Prop := ∀ σ H, Sd w env O σ H → ∀ Q : Bool → Hp → Prop, (∀ b H', Lv w env O σ H H' → Q b H') → RT X e σ H Q
/-- an int of which A holds -/
def Is (A : Int → Prop) : D → Prop := fun x => ∃ i, x = .int i ∧ A i
section
variable {w : Wd} {X : Cx} {env : En} {O : Os} {σ : L2.St} {H H1 H2 H' : Hp} {e a b c : Expr} {es : List Expr} {p pos pos2 : Pos} {d d1 d2 : D} {i j : Int} {ds es' : List D} {x : Str} {k : Nat} {Dn : Ends} {st : Stmt} {ss rest body orelse : List Stmt} {tg iter : Expr} {R R' Ra Rb : D → Prop} {A B : Int → Prop}
theorem EV.ex (h : EV w X e env O d) : EX w X e env O (fun x => x = d) := fun σ H hs Q q => h σ H hs Q fun v H' l r => q d rfl v H' l r
theorem EV.is (h : EV w X e env O (.int i)) : EX w X e env O (Is fun j => j = i) := fun σ H hs Q q => h σ H hs Q fun v H' l r => q _ ⟨i, rfl, rfl⟩ v H' l r
theorem EX.mono (h : EX w X e env O R) (m : ∀ x, R x → R' x) : EX w X e env O R' := fun σ H hs Q q => h σ H hs Q fun x hx => q x (m x hx)
theorem TV.tx {q' : Bool} (h : TV w X e env O q') : TX w X e env O := fun σ H hs Q q => h σ H hs Q fun H' l => q _ H' l
theorem ex_op2 {op : Operator} {r : R2} {f : Int → Int → Int} (ho : OpR X (binaryOp op) r) (ha : EX w X a env O (Is A)) (hb : EX w X b env O (Is B)) (hr : ∀ i j, A i → B j → ∀ H (Q : VK), Q (.int (f i j)) H → r (.int i) (.int j) H Q) : EX w X (.BinOp a op b pos) env O (Is fun z => ∃ i j, A i ∧ B j ∧ z = f i j) := fun σ H h Q q =>
  re_of (pe_op ho pe_c pe_c) (ha σ H h _ fun x hx v H1 l1 r1 => hb σ H1 l1.1 _ fun y hy u H2 l2 r2 => by
    obtain ⟨i, rfl, hi⟩ := hx
    obtain ⟨j, rfl, hj⟩ := hy
    rw [rp_int r1, rp_int r2]
    exact hr i j hi hj H2 Q (q _ ⟨_, rfl, i, j, hi, hj, rfl⟩ _ H2 (l1.trans l2) (.v rfl)))
theorem ex_add (ha : EX w X a env O (Is A)) (hb : EX w X b env O (Is B)) : EX w X (.BinOp a .Add b pos) env O (Is fun z => ∃ i j, A i ∧ B j ∧ z = i + j) := ex_op2 op_add ha hb fun i j _ _ H Q q => ⟨i, j, rfl, rfl, q⟩
theorem ex_sub (ha : EX w X a env O (Is A)) (hb : EX w X b env O (Is B)) : EX w X (.BinOp a .Sub b pos) env O (Is fun z => ∃ i j, A i ∧ B j ∧ z = i - j) := ex_op2 op_sub ha hb fun i j _ _ H Q q => ⟨i, j, rfl, rfl, q⟩
theorem ex_mul (ha : EX w X a env O (Is A)) (hb : EX w X b env O (Is B)) (hc : ∀ i j, A i → B j → CMul i j) : EX w X (.BinOp a .Mult b pos) env O (Is fun z => ∃ i j, A i ∧ B j ∧ z = i * j) := ex_op2 op_mul ha hb fun i j hi hj H Q q => ⟨i, j, rfl, rfl, hc i j hi hj, q⟩
theorem ex_mod (ha : EX w X a env O (Is A)) (hb : EX w X b env O (Is B)) (hc : ∀ j, B j → j ≠ 0) : EX w X (.BinOp a .Mod b pos) env O (Is fun z => ∃ i j, A i ∧ B j ∧ z = i.fmod j) := ex_op2 op_modN ha hb fun i j hi hj H Q q => ⟨i, j, rfl, rfl, hc j hj, q⟩
theorem ex_fdiv (ha : EX w X a env O (Is A)) (hb : EX w X b env O (Is B)) (hc : ∀ i j, A i → B j → CDivN i j) : EX w X (.BinOp a .FloorDiv b pos) env O (Is fun z => ∃ i j, A i ∧ B j ∧ z = i.fdiv j) := ex_op2 op_fdivN ha hb fun i j hi hj H Q q => ⟨i, j, rfl, rfl, hc i j hi hj, q⟩
theorem ex_pow (ha : EX w X a env O (Is A)) (hb : EX w X b env O (Is B)) (hc : ∀ i j, A i → B j → CPow i j) : EX w X (.BinOp a .Pow b pos) env O (Is fun z => ∃ i j, A i ∧ B j ∧ z = i ^ j.toNat) := ex_op2 op_pow ha hb fun i j hi hj H Q q => ⟨i, j, rfl, rfl, hc i j hi hj, q⟩
theorem tx_eq (ha : EX w X a env O (Is A)) (hb : EX w X b env O (Is B)) : TX w X (.Compare a [.Eq] [b] pos) env O := fun σ H h Q q =>
  rt_of (pt_cmpR op_eq pe_c pe_c (nomark _)) (ha σ H h _ fun x hx v H1 l1 r1 => hb σ H1 l1.1 _ fun y hy u H2 l2 r2 => by
    obtain ⟨i, rfl, hi⟩ := hx
    obtain ⟨j, rfl, hj⟩ := hy
    rw [rp_int r1, rp_int r2]
    exact ⟨rfl, _, rfl, q _ H2 (l1.trans l2)⟩)
theorem ex_if (h : TX w X c env O) (h1 : EX w X a env O R) (h2 : EX w X b env O R) : EX w X (.IfExp c a b pos) env O R := fun σ H hs Q q =>
  re_of (pe_ifExp pt_c pe_c pe_c) (h σ H hs _ fun p H' l => by
    cases p with
    | true => exact h1 σ H' l.1 Q fun x hx v H2 l2 r2 => q x hx v H2 (l.trans l2) r2
    | false => exact h2 σ H' l.1 Q fun x hx v H2 l2 r2 => q x hx v H2 (l.trans l2) r2)
/-- int(e), e an int -/
theorem ex_intC (hg : Gl X "int") (hm : X.mg "int" = none) (ha : EX w X a env O (Is A)) (he : starEach [a] X.env = (false, eval a X.env) :: starEach [] X.env := by rfl) : EX w X (.Call (.Name "int" p) [a] [] pos) env O (Is A) := fun σ H h Q q =>
  re_of (pe_callTy call_int1 hg hm (by decide +kernel) (pa_cons pe_c pa_nil he) (by decide) (by decide) he rfl) (ha σ H h _ fun x hx v H1 l r => by
    obtain ⟨i, rfl, hi⟩ := hx
    rw [rp_int r]
    exact .inl ⟨i, rfl, q _ ⟨i, rfl, hi⟩ _ H1 l (.v rfl)⟩)
theorem ex_absC (hg : Gl X "abs") (hm : X.mg "abs" = none) (ha : EX w X a env O (Is A)) (he : starEach [a] X.env = (false, eval a X.env) :: starEach [] X.env := by rfl) : EX w X (.Call (.Name "abs" p) [a] [] pos) env O (Is fun z => ∃ i, A i ∧ z = (i.natAbs : Int)) := fun σ H h Q q =>
  re_of (pe_callB call_abs hg hm (by decide +kernel) (pa_cons pe_c pa_nil he) (by decide) (by decide) he rfl) (ha σ H h _ fun x hx v H1 l r => by
    obtain ⟨i, rfl, hi⟩ := hx
    refine ⟨i, by rw [rp_int r], ?_⟩
    rw [show (if i < 0 then -i else i) = (i.natAbs : Int) by split <;> omega]
    exact q _ ⟨_, rfl, i, hi, rfl⟩ _ H1 l (.v rfl))
/-- xs[e] -/
theorem ex_ixL (ha : EL w X a env O ds) (hb : EX w X b env O (Is A)) (hi : ∀ i, A i → ∃ x, atI ds i = some x) (hs : PlainIx b := by exact fun _ _ => rfl) : EX w X (.Subscript a b pos) env O (fun x => ∃ i, A i ∧ atI ds i = some x) := fun σ H h Q q =>
  re_of (pe_ix ix_list pe_c pe_c hs) (ha σ H h _ fun v xs H1 l1 nb e1 r1 => hb σ H1 l1.1 _ fun x hx u H2 l2 r2 => by
    obtain ⟨i, rfl, hAi⟩ := hx
    rw [rp_int r2]
    obtain ⟨z, hz⟩ := hi i hAi
    obtain ⟨y, hy, ry⟩ := r1.atI hz
    exact ⟨v, xs, i, y, rfl, rfl, .inl (.inl (l2.2 v _ nb e1)), hy, q z ⟨i, hAi, hz⟩ y H2 (l1.trans l2) (ry.mono l2.ex)⟩)
/-! ### statements -/
theorem ws_retX (h : EX w X e env O R) (q : ∀ x, R x → Ret w Dn x) : WPS w X env O (.Return (some e) pos :: rest) Dn := ws_cons (ps_ret pe_c) fun σ H hs => h σ H hs _ fun x hx v H' l r => q x hx v H' l.1.ex l.1.bt l.1.j (l.1.ret r)
theorem ws_setX (i : Nat) {y : Str} {py : Pos} (hN : X.N.Nodup) (h : EX w X e env O R) (q : ∀ x, R x → WPS w X (env.put i (.d x)) O rest Dn) (hi : X.N[i]? = some y := by rfl) (hx : Loc X.env.scope y := by first | exact .inl rfl | exact .inr rfl) (hs : swapsWith e (some (.Name y py)) pos.line X.env = pure false := by rfl)
    (hf : X.fn y = true ∨ X.env.scope.names.lookup y = some .local := by first | exact .inl rfl | exact .inr rfl) : WPS w X env O (.Assign [.Name y py] e pos :: rest) Dn :=
  ws_cons (ps_set hN hi hx pe_c hs hf) fun σ H hs => h σ H hs _ fun x hx v H' l r => q x hx _ H' (l.1.set i r)
theorem ws_parX (i j : Nat) {y z : Str} {py pz pt pt2 : Pos} {kt k2 : Nat} (hc : X.calm = true) (hN : X.N.Nodup) (hij : i ≠ j) (ha : EX w X a env O Ra) (hb : EX w X b env O Rb) (q : ∀ x y, Ra x → Rb y → WPS w X ((env.put i (.d x)).put j (.d y)) O rest Dn) (hi : X.N[i]? = some y := by rfl) (hj : X.N[j]? = some z := by rfl)
    (hy : X.env.scope.names.lookup y = some .local := by rfl) (hz : X.env.scope.names.lookup z = some .local := by rfl) (h1 : starEach [a, b] X.env = (false, eval a X.env) :: starEach [b] X.env := by rfl) (h2 : starEach [b] X.env = (false, eval b X.env) :: starEach [] X.env := by rfl)
    (hw : swappedStores [.Tuple [.Name y py, .Name z pz] kt pt] (.Tuple [a, b] k2 pt2) X.env = pure (some [y, z]) := by rfl) (hs : swapsWithSole [.Tuple [.Name y py, .Name z pz] kt pt] (.Tuple [a, b] k2 pt2) pos.line X.env = pure false := by rfl) :
    WPS w X env O (.Assign [.Tuple [.Name y py, .Name z pz] kt pt] (.Tuple [a, b] k2 pt2) pos :: rest) Dn :=
  ws_cons (ps_par hc hN hi hj hij hy hz (pa_cons pe_c (pa_cons pe_c pa_nil h2) h1) hw hs) fun σ H hs => ha σ H hs _ fun x hx v H1 l1 r1 => hb σ H1 l1.1 _ fun y hy u H2 l2 r2 => ⟨v, u, rfl, q x y hx hy _ H2 ((l2.1.set i (r1.mono l2.ex)).set j r2)⟩
/-- an if of which nothing is known -/
theorem ws_ifX (h : TX w X c env O) (J : En) (OJ : Os) (h1 : WPS w X env O body { Dn with nx := Sd w J OJ }) (h2 : WPS w X env O orelse { Dn with nx := Sd w J OJ }) (hr : WPS w X J OJ rest Dn) : WPS w X env O (.If c body orelse pos :: rest) Dn :=
  ws_cons (ps_if pt_c (PSs.nxmono pss_c) (PSs.nxmono pss_c)) fun σ H hs => h σ H hs _ fun p H' l => by
    cases p with
    | true => exact ⟨_, h1 σ H' l.1, fun σ2 H2 s2 => hr σ2 H2 s2⟩
    | false => exact ⟨_, h2 σ H' l.1, fun σ2 H2 s2 => hr σ2 H2 s2⟩
theorem ws_appX (n m : Nat) {y : Str} {py ap cp : Pos} {q' : Addr} (hi : env.s[n]? = some (.a q')) (hk : O[m]? = some (q', .l ds)) (h : EX w X e env O R) (hz : ds.length < sizeLine) (q : ∀ d, R d → WPS w X env (O.set m (q', .l (ds ++ [d]))) rest Dn) (hN : X.N[n]? = some y := by rfl) (hv : Vis X.env.scope y := by first | exact Or.inl rfl | exact Or.inr (Or.inl rfl) | exact Or.inr (Or.inr rfl)) (hd : (y == ("__debug__" : Str)) = false := by decide)
    (hcd : (y == ("__classdict__" : Str)) = false := by decide) (he : starEach [e] X.env = (false, eval e X.env) :: starEach [] X.env := by rfl) (hbase : attributeBase (.Name y py) "append" X.env (eval (.Name y py) X.env) = eval (.Name y py) X.env := by rfl)
    (hfew : ((backTo cp (starEach [e] X.env)).all (fun x => !x.1) && (backToKw cp (keywordEach [] X.env)).all (fun x => x.1.isSome) && decide (([e] : List Expr).length + ([] : List Keyword).length + (if ([] : List Keyword).isEmpty then 0 else 1) < 30)) = true := by rfl)
    (hline : (ap.endLine == cp.line) = true := by rfl) (hsw : swapsWith (.Call (.Attribute (.Name y py) "append" ap) [e] [] cp) none pos.line X.env = pure false := by rfl) :
    WPS w X env O (.Expr (.Call (.Attribute (.Name y py) "append" ap) [e] [] cp) pos :: rest) Dn :=
  ws_cons (ps_expr (pe_bm PySem.F.plainAttrs_list PySem.F.slot_list_append PySem.F.type_list_append mt_append (pe_var hN hv hd hcd) (pa_cons pe_c pa_nil he) hbase hfew hline he rfl) hsw) fun σ H hs => by
    refine ⟨.ref q', hs.adr n q' hi, ?_⟩
    obtain ⟨xs, e1, r1⟩ := hs.get hk
    refine ⟨.inl ⟨rfl, _, .inl (.inl e1)⟩, ?_⟩
    refine h σ H hs _ fun x hx v H1 l1 rv => ?_
    obtain ⟨ys, e2, r2⟩ := l1.1.get hk
    refine ⟨q', ys, v, rfl, rfl, e2, by rw [r2.length]; exact hz, ?_⟩
    exact q x hx σ _ (l1.1.write (c := .l (ds ++ [x])) (o := .lst (ys ++ [v])) hk ⟨_, upd_same, r2.app (.one rv)⟩).1
/-- found[e] += e2, ints -/
theorem ws_augIX (n m : Nat) {y : Str} {py sp : Pos} {q' : Addr} (hi : env.s[n]? = some (.a q')) (hk : O[m]? = some (q', .l ds)) (hx : EX w X b env O (Is A)) (h : EV w X e env O (.int j)) (ht : ∀ i, A i → ∃ (t : Nat) (i' : Int), i = (t : Int) ∧ ds[t]? = some (.int i')) (q : ∀ (t : Nat) (i' : Int), A (t : Int) → ds[t]? = some (.int i') → WPS w X env (O.set m (q', .l (ds.set t (.int (i' + j))))) rest Dn)
    (hN : X.N[n]? = some y := by rfl) (hv : Vis X.env.scope y := by first | exact Or.inl rfl | exact Or.inr (Or.inl rfl) | exact Or.inr (Or.inr rfl)) (hd : (y == ("__debug__" : Str)) = false := by decide) (hcd : (y == ("__classdict__" : Str)) = false := by decide)
    (ha : ∀ ov iv new, augStore b ov iv new = (do holding [new, ov, iv] (setItem ov iv new); release [new, ov, iv] []; pure Flow.next) := by intros; rfl) : WPS w X env O (.AugAssign (.Subscript (.Name y py) b sp) .Add e pos :: rest) Dn :=
  ws_cons (st := .AugAssign (.Subscript (.Name y py) b sp) .Add e pos) (ps_augS (pe_var hN hv hd hcd) pe_c pget_list pe_c ip_add set_list ha) fun σ H hs => by
    refine ⟨.ref q', hs.adr n q' hi, hx σ H hs _ fun x hxx u H1 l1 r1 => ?_⟩
    obtain ⟨i, rfl, hA⟩ := hxx
    obtain ⟨t, i', rfl, htl⟩ := ht i hA
    obtain ⟨ys, e1, ry⟩ := l1.1.get hk
    obtain ⟨v, hv', rv⟩ := ry.get htl
    refine ⟨q', ys, (t : Int), v, rfl, rp_int r1, .inl (.inl e1), atI_nat hv', ?_⟩
    refine h σ H1 l1.1 _ fun z H2 l2 r2 => ⟨i', j, rp_int rv, rp_int r2, ?_⟩
    obtain ⟨zs, e2, rz⟩ := l2.1.get hk
    refine ⟨q', zs, (t : Int), t, rfl, rp_int r1, e2, ixN_of rfl (by rw [rz.length]; exact (List.getElem?_eq_some_iff.mp htl).1), ?_⟩
    exact q t i' hA htl σ _ (l2.1.write (c := .l (ds.set t (.int (i' + j)))) (o := .lst (zs.set t (.int (i' + j)))) hk ⟨_, upd_same, rz.set t (.v rfl)⟩).1
/-- for over a range that is drawn -/
theorem ws_forRX {g : TG} {nm : Pos} {f : D → En → En} (I : Int → Nat → En) (Pv : Int → Gh → Nat → L2.St → Hp → Prop) (hc : X.calm = true) (hgr : Gl X "range") (hmr : X.mg "range" = none) (ha : EX w X a env O (Is A)) (hA : ∀ i, A i → -(2 ^ 62) ≤ i ∧ i < 2 ^ 62) (hg : PG X tg g) (hb : ∀ d, BnS w g d (f d))
    (h0 : ∀ n, A n → ∀ gh σ H, Sd w (env.tell gh) O σ H → Pv n gh 0 σ H) (hsd : ∀ n, A n → ∀ gh i σ H, Pv n gh i σ H → ∃ (env' : En) (O' : Os), Sd w (env'.tell gh) O' σ H)
    (hs : ∀ n, A n → ∀ gh (i : Nat), (i : Int) < n → ∀ σ H, Pv n gh i σ H → ∃ (env' : En) (O' : Os), Sd w (env'.tell gh) O' σ H ∧ WPS w X (f (.int i) (env'.tell gh)) O' body { Dn with nx := Pv n gh (i + 1), ct := Pv n gh (i + 1), bk := RS X rest Dn })
    (hd : ∀ n, A n → ∀ gh σ H, Pv n gh n.toNat σ H → RS X rest Dn σ H) (hse : starEach [a] X.env = [(false, eval a X.env)] := by rfl) (hsf : ∀ x, foldedSetIterable (.Call (.Name "range" nm) [a] [] pos2) X.env x = pure x := by intro _; rfl) (hp : PassesOwn (model X.prog X.w) X.A X.env X.xe := by exact PassesOwn.never) : WPS w X env O (.For tg (.Call (.Name "range" nm) [a] [] pos2) body [] pos :: rest) Dn := by
  refine ws_cons (ps_for hp hc (pi_range1 hgr hmr (pa_cons pe_c pa_nil (by rw [hse]; rfl)) hse) hg pss_c hsf) fun σ H hs0 => ?_
  refine ha σ H hs0 _ fun x hx v H1 l1 r1 => ?_
  obtain ⟨n, rfl, hAn⟩ := hx
  refine ⟨n, by rw [rp_int r1], (hA n hAn).1, (hA n hAn).2, ?_⟩
  let gh : Gh := ⟨fun _ => True, fun _ _ _ h => h⟩
  refine for_it (n := n.toNat) walk_range (Pv n gh) (h0 n hAn gh σ H1 (l1.1.tell gh trivial)) (fun _ _ _ _ _ => trivial) ?_ ?_
  · intro i x σ H2 H3 hlt z y
    obtain ⟨e3, ex⟩ := y
    subst e3
    obtain ⟨env', O', s, run⟩ := hs n hAn gh i (by omega) σ H3 z
    have e0 : x = .int (i : Int) := by rw [ex]; simp
    rw [e0]
    exact hb (.int i) _ O' σ H3 _ s (.v rfl) _ fun σ2 s2 => run σ2 H3 s2
  · exact fun σ H z => hd n hAn gh σ H z
end
end Mp
end
section
set_option Elab.async false
set_option linter.all false
set_option maxRecDepth 100000
set_option maxHeartbeats 4000000
/-! Mp18: the state of the draws: a dict (large, rest, cells, turn) at d, the list of large ones at l, the cells at c. -/
namespace Mp
open PySem PySem.Spec PyProof.Rows L2
def drK (l c : Addr) (r t : Int) : List (L2.Key × V) := [(.inr "large", .ref l), (.inr "rest", .int r), (.inr "cells", .ref c), (.inr "turn", .int t)]
def Drw (d l c : Addr) (H : Hp) : Prop := ∃ (r t : Int) (ns : List Int), H d = some (.dK (drK l c r t)) ∧ H l = some (.lst (ns.map V.int))
/-- d, l may change as draws do; c stands -/
structure IsDr (w : Wd) (d l c : Addr) (cs : List Int) : Prop where
  b : w.B = [d, l]
  j : w.J = Drw d l c
  ca : c ∈ w.A0
  da : d ∈ w.A0
  la : l ∈ w.A0
  hc : w.H0 c = some (.lst (cs.map V.int))
  cd : c ≠ d
  cl : c ≠ l
  dl : d ≠ l
def dw (K : PySem.W.Frag) (A : List Addr) (H : Hp) (d l c : Addr) (hd : d ∈ A) (hl : l ∈ A) : Wd where
  K := K
  A0 := A
  H0 := H
  B := [d, l]
  J := Drw d l c
  bs := fun b hb => by
    have : b = d ∨ b = l := by simpa using hb
    rcases this with z | z
    · rw [z]; exact hd
    · rw [z]; exact hl
  js := fun H H' k h => by
    obtain ⟨r, t, ns, h1, h2⟩ := h
    exact ⟨r, t, ns, k d (by simp) _ h1, k l (by simp) _ h2⟩
/-- a def that draws: what it asks of its data, what it makes of them -/
def PD (K : PySem.W.Frag) (P : List D → Prop) (R : List D → D → Prop) : Sp := fun vs H Q _ => ∃ (A : List Addr) (d l c : Addr) (cs : List Int) (vs' : List V) (ds : List D), vs = .ref d :: vs' ∧ RpA K (mn A H) vs' ds ∧ P ds ∧ (∀ a ∈ A, NT (H a)) ∧ (d ∈ A ∧ l ∈ A ∧ c ∈ A) ∧ (d ≠ l ∧ c ≠ d ∧ c ≠ l) ∧ Drw d l c H ∧ H c = some (.lst (cs.map V.int)) ∧
  ∀ v H' x, (∀ b o, b ∉ [d, l] → H b = some o → H' b = some o) → (∀ a ∈ A, NT (H' a)) → Drw d l c H' → R ds x → Rp K (mn A H') v x → Q v H'
section
variable {w : Wd} {X : Cx} {env : En} {O : Os} {σ : L2.St} {H H1 H2 H' : Hp} {e a b : Expr} {es : List Expr} {p pos pos2 : Pos} {i j : Int} {ds es' : List D} {x : Str} {k : Nat} {Dn : Ends} {st : Stmt} {ss rest body orelse : List Stmt} {tg iter : Expr} {R : D → Prop} {A B : Int → Prop} {d l c : Addr} {cs : List Int}
theorem Sd.drw (h : Sd w env O σ H) (D : IsDr w d l c cs) : Drw d l c H := by
  have := h.j
  rw [D.j] at this
  exact this
theorem Sd.cells (h : Sd w env O σ H) (D : IsDr w d l c cs) : H c = some (.lst (cs.map V.int)) := h.ex c _ (by rw [D.b]; simp [D.cd, D.cl]) D.hc
theorem nt_l {H : Hp} {a : Addr} {xs : List V} (h : H a = some (.lst xs)) : NT (H a) := by rw [h]; exact ⟨by simp, by simp⟩
theorem nt_k {H : Hp} {a : Addr} {xs : List (L2.Key × V)} (h : H a = some (.dK xs)) : NT (H a) := by rw [h]; exact ⟨by simp, by simp⟩
theorem Drw.nt {H : Hp} (h : Drw d l c H) : NT (H d) ∧ NT (H l) := by
  obtain ⟨r, t, ns, h1, h2⟩ := h
  exact ⟨nt_k h1, nt_l h2⟩
/-- behind changes of d and l the state is one of the draws again -/
theorem Sd.draw (h : Sd w env O σ H) (D : IsDr w d l c cs) (e : ∀ b o, b ∉ [d, l] → H b = some o → H' b = some o) (j : Drw d l c H') : Lv w env O σ H H' := by
  refine ⟨(h.growB (fun b o hb => e b o (by rw [← D.b]; exact hb)) (fun b hb => ?_) (by rw [D.j]; exact j)).1, fun b o hb => e b o (by rw [← D.b]; exact hb)⟩
  rw [D.b] at hb
  have : b = d ∨ b = l := by simpa using hb
  rcases this with z | z
  · rw [z]; exact j.nt.1
  · rw [z]; exact j.nt.2
theorem ex_callD {P : List D → Prop} {R : List D → D → Prop} {y : Str} {py : Pos} (D : IsDr w d l c cs) (n : Nat) (hi : env.s[n]? = some (.a d)) (F : Def X.prog X.w X.K X.mg X.base x k (PD w.K P R)) (hr : Room k X.A) (hg : Gl X x) (ha : AV w X es env O ds) (hP : P ds)
    (hN : X.N[n]? = some y := by rfl) (hv : Vis X.env.scope y := by first | exact Or.inl rfl | exact Or.inr (Or.inl rfl) | exact Or.inr (Or.inr rfl)) (hd : (y == ("__debug__" : Str)) = false := by decide) (hcd : (y == ("__classdict__" : Str)) = false := by decide)
    (hdb : (x == ("__debug__" : Str)) = false := by decide) (he : starEach (.Name y py :: es) X.env = (false, eval (.Name y py) X.env) :: starEach es X.env := by rfl) (hpl : (backTo pos (starEach es X.env)).any (·.1) = false := by rfl) : EX w X (.Call (.Name x p) (.Name y py :: es) [] pos) env O (R ds) := fun σ H h Q q => by
  obtain ⟨f, fd, ps, F, hm, hk, hb⟩ := F
  refine re_of (pe_call F hr hg hm hk hb .nil pass0 (pa_cons (pe_var hN hv hd hcd) pa_c he) hdb he hpl) ⟨.ref d, h.adr n d hi, ha σ H h _ fun vs H1 l1 r1 => ?_⟩
  show PD w.K P R ((V.ref d :: vs) ++ []) H1 Q E0
  rw [List.append_nil]
  refine ⟨own O ++ w.A0, d, l, c, cs, vs, ds, rfl, r1, hP, fun b hb => l1.1.there hb, ⟨List.mem_append_right _ D.da, List.mem_append_right _ D.la, List.mem_append_right _ D.ca⟩, ⟨D.dl, D.cd, D.cl⟩, l1.1.drw D, l1.1.cells D, fun v H2 x k2 nt j2 hR r2 => ?_⟩
  exact q x hR v H2 (l1.trans (l1.1.draw D k2 j2)) r2
/-- an int of the dict -/
theorem ex_drI {y : Str} {py : Pos} {jj : Nat} {key : Str} (D : IsDr w d l c cs) (n : Nat) (hi : env.s[n]? = some (.a d)) (hu : X.A.units + 64 < cLine) (hkey : ∀ r t, ∃ i, valV (drK l c r t) (.inr key) = some (.int i)) (hN : X.N[n]? = some y := by rfl) (hv : Vis X.env.scope y := by first | exact Or.inl rfl | exact Or.inr (Or.inl rfl) | exact Or.inr (Or.inr rfl)) (hd : (y == ("__debug__" : Str)) = false := by decide) (hcd : (y == ("__classdict__" : Str)) = false := by decide) :
    EX w X (.Subscript (.Name y py) (.Constant (.str key) jj pos2) pos) env O (Is fun _ => True) := fun σ H h Q q => by
  obtain ⟨r, t, ns, h1, h2⟩ := h.drw D
  obtain ⟨i, hv'⟩ := hkey r t
  exact re_of (pe_dget (by omega) (pe_var hN hv hd hcd) pe_str (by intro _ _; rfl)) ⟨.ref d, h.adr n d hi, d, .int i, rfl, .inl ⟨_, .inr key, .inl h1, rfl, hv'.symm⟩, q _ ⟨i, rfl, trivial⟩ _ H (.refl h) (.v rfl)⟩
/-- .. is stored -/
theorem ws_drPut {y : Str} {py sp : Pos} {jj : Nat} {key : Str} (D : IsDr w d l c cs) (n : Nat) (hi : env.s[n]? = some (.a d)) (hu : X.A.units + 64 < cLine) (h : EX w X e env O (Is A)) (hput : ∀ r t i, ∃ r' t', putK (drK l c r t) (.inr key) (.int i) = drK l c r' t') (q : WPS w X env O rest Dn) (hN : X.N[n]? = some y := by rfl) (hv : Vis X.env.scope y := by first | exact Or.inl rfl | exact Or.inr (Or.inl rfl) | exact Or.inr (Or.inr rfl)) (hd : (y == ("__debug__" : Str)) = false := by decide) (hcd : (y == ("__classdict__" : Str)) = false := by decide)
    (hs : swapsWith e (some (.Subscript (.Name y py) (.Constant (.str key) jj pos2) sp)) pos.line X.env = pure false := by rfl) : WPS w X env O (.Assign [.Subscript (.Name y py) (.Constant (.str key) jj pos2) sp] e pos :: rest) Dn :=
  ws_cons (ps_dput (by omega) (pe_var hN hv hd hcd) pe_str pe_c hs) fun σ H hs => by
    refine h σ H hs _ fun x hx v H1 l1 r1 => ⟨.ref d, l1.1.adr n d hi, ?_⟩
    obtain ⟨i, rfl, _⟩ := hx
    rw [rp_int r1]
    obtain ⟨r, t, ns, h1, h2⟩ := l1.1.drw D
    obtain ⟨r', t', hp⟩ := hput r t i
    refine ⟨d, _, rfl, .inl ⟨_, .inr key, h1, rfl, by show 4 < sizeLine; decide, rfl⟩, ?_⟩
    rw [hp]
    refine q σ _ (l1.1.draw D (fun b o hb e => by rw [upd_ne fun z => hb (by simp [z])]; exact e) ⟨r', t', ns, upd_same, ?_⟩).1
    rw [upd_ne D.dl.symm]
    exact h2
/-- draw["large"].pop(0) if draw["large"] != [] else e -/
theorem ex_drPop {y : Str} {py py2 a1 a2 c1 c2 c3 c4 c5 pz : Pos} {j1 j2 j3 : Nat} (D : IsDr w d l c cs) (n : Nat) (hi : env.s[n]? = some (.a d)) (hK : X.K = w.K) (hu : X.A.units + 64 < cLine) (h : EX w X e env O (Is fun _ => True)) (hN : X.N[n]? = some y := by rfl) (hv : Vis X.env.scope y := by first | exact Or.inl rfl | exact Or.inr (Or.inl rfl) | exact Or.inr (Or.inr rfl)) (hd : (y == ("__debug__" : Str)) = false := by decide) (hcd : (y == ("__classdict__" : Str)) = false := by decide)
    (hbase : attributeBase (.Subscript (.Name y py) (.Constant (.str "large") j1 c1) a1) "pop" X.env (eval (.Subscript (.Name y py) (.Constant (.str "large") j1 c1) a1) X.env) = eval (.Subscript (.Name y py) (.Constant (.str "large") j1 c1) a1) X.env := by rfl)
    (hfew : ((backTo c2 (starEach [.Constant (.int 0) j3 c3] X.env)).all (fun x => !x.1) && (backToKw c2 (keywordEach [] X.env)).all (fun x => x.1.isSome) && decide (([.Constant (.int 0) j3 c3] : List Expr).length + ([] : List Keyword).length + (if ([] : List Keyword).isEmpty then 0 else 1) < 30)) = true := by rfl)
    (hline : (a2.endLine == c2.line) = true := by rfl) :
    EX w X (.IfExp (.Compare (.Subscript (.Name y py2) (.Constant (.str "large") j2 c4) c5) [.NotEq] [.List [] pz] pos2) (.Call (.Attribute (.Subscript (.Name y py) (.Constant (.str "large") j1 c1) a1) "pop" a2) [.Constant (.int 0) j3 c3] [] c2) e pos) env O (Is fun _ => True) := fun σ H hs Q q => by
  have hget : ∀ (r t : Int), valV (drK l c r t) (.inr "large") = some (.ref l) := fun r t => rfl
  refine re_of (pe_ifExp (pt_cmpR (op_neD hu) (pe_dget (by omega) (pe_var hN hv hd hcd) pe_str (by intro _ _; rfl)) (pe_lst pa_nil) (nomark _)) (pe_bm PySem.F.plainAttrs_list PySem.F.slot_list_pop PySem.F.type_list_pop mt_popAt (pe_dget (by omega) (pe_var hN hv hd hcd) pe_str (by intro _ _; rfl)) (pa_cons pe_int pa_nil) hbase hfew hline) pe_c) ?_
  obtain ⟨r, t, ns, h1, h2⟩ := hs.drw D
  refine ⟨.ref d, hs.adr n d hi, d, .ref l, rfl, .inl ⟨_, .inr "large", .inl h1, rfl, (hget r t).symm⟩, by show 0 ≤ sizeLine; decide, fun T hT => ?_⟩
  have l2 : Lv w env O σ H (upd H T (.lst [])) := Lv.new hs hT
  have el : (upd H T (.lst [])) l = some (.lst (ns.map V.int)) := by rw [upd_ne (ne_of_none h2 hT)]; exact h2
  have dpI : ∀ m : List Int, DpAll X.K (upd H T (.lst [])) (m.map V.int) (Mp.D.pyA (iL m)) := fun m => by
    have := RpA.dp (K := X.K) (G := upd H T (.lst [])) (RpA.of_ints m) (eqA_nd eqe_int m)
    exact this
  refine ⟨(lI ns).py, (lI []).py, .lst (.inl (.inl el)) (dpI ns), .lst (.inl (.inl upd_same)) (dpI []), eqe_lI.sh (by decide) ns, eqe_lI.sh (by decide) [], ?_⟩
  rw [eqe_lI.eqv ns []]
  refine ⟨_, rfl, ?_⟩
  obtain ⟨r2, t2, ns2, g1, g2⟩ := l2.1.drw D
  have en : ns2 = ns := by
    rw [el] at g2
    have := Option.some.inj g2
    injection this with z
    exact (List.map_inj_right (f := V.int) fun a b h => by injection h).mp z.symm
  subst en
  cases ns2 with
  | nil =>
    refine iteF ?_
    exact h σ _ l2.1 Q fun x hx v H' l r => q x hx v H' (l2.trans l) r
  | cons n0 ns =>
    refine iteT ?_
    refine ⟨.ref d, l2.1.adr n d hi, d, .ref l, rfl, .inl ⟨_, .inr "large", .inl g1, rfl, (hget r2 t2).symm⟩, .inl ⟨rfl, _, .inl (.inl g2)⟩, ?_⟩
    refine ⟨l, _, 0, 0, .int n0, rfl, rfl, g2, by decide, by decide, seqIndex_of (by decide) (by simp only [List.length_map, List.length_cons]; omega), rfl, ?_⟩
    refine q _ ⟨n0, rfl, trivial⟩ _ _ (l2.trans (l2.1.draw D (fun b o hb e => ?_) ⟨r2, t2, ns, ?_, upd_same⟩)) (.v rfl)
    · rw [upd_ne fun z => hb (by simp [z])]; exact e
    · rw [upd_ne D.dl]; exact g1
/-- for over the cells -/
theorem ws_forC {g : TG} {f : D → En → En} {y : Str} {py : Pos} {jj : Nat} {c1 c2 : Pos} (D : IsDr w d l c cs) (n : Nat) (Pv : Nat → L2.St → Hp → Prop) (hc : X.calm = true) (hu : X.A.units + 64 < cLine) (hi : env.s[n]? = some (.a d)) (hg : PG X tg g) (hb : ∀ x, BnS w g x (f x))
    (h0 : ∀ σ H, Sd w env O σ H → Pv 0 σ H) (hsd : ∀ i σ H, Pv i σ H → ∃ (env' : En) (O' : Os), Sd w env' O' σ H)
    (hs : ∀ i v, cs[i]? = some v → ∀ σ H, Pv i σ H → ∃ (env' : En) (O' : Os), Sd w env' O' σ H ∧ WPS w X (f (.int v) env') O' body { Dn with nx := Pv (i + 1), ct := Pv (i + 1), bk := RS X rest Dn })
    (hd : ∀ σ H, Pv cs.length σ H → RS X rest Dn σ H) (hN : X.N[n]? = some y := by rfl) (hv : Vis X.env.scope y := by first | exact Or.inl rfl | exact Or.inr (Or.inl rfl) | exact Or.inr (Or.inr rfl)) (hdd : (y == ("__debug__" : Str)) = false := by decide) (hcd : (y == ("__classdict__" : Str)) = false := by decide)
    (hsf : ∀ x, foldedSetIterable (.Subscript (.Name y py) (.Constant (.str "cells") jj c1) c2) X.env x = pure x := by intro _; rfl) (hp : PassesOwn (model X.prog X.w) X.A X.env X.xe := by exact PassesOwn.never) : WPS w X env O (.For tg (.Subscript (.Name y py) (.Constant (.str "cells") jj c1) c2) body [] pos :: rest) Dn := by
  refine ws_cons (ps_for hp hc (pi_list (pe_dget (by omega) (pe_var hN hv hdd hcd) pe_str (by intro _ _; rfl))) hg pss_c hsf) fun σ H hs0 => ?_
  obtain ⟨r, t, ns, h1, h2⟩ := hs0.drw D
  refine ⟨.ref d, hs0.adr n d hi, d, .ref c, rfl, .inl ⟨_, .inr "cells", .inl h1, rfl, rfl⟩, c, rfl, ⟨_, .inl (.inl (hs0.cells D))⟩, ?_⟩
  have hl : (cs.map V.int).length = cs.length := by simp
  refine for_it (n := cs.length) (hl ▸ walk_list (K := X.K) (a := c) (xs := cs.map V.int)) Pv (h0 σ H hs0) ?_ ?_ ?_
  · intro i σ H _ z
    obtain ⟨env', O', s⟩ := hsd i σ H z
    exact .inl (.inl (s.cells D))
  · intro i x σ H2 H3 hlt z y
    obtain ⟨e3, ex⟩ := y
    subst e3
    rw [List.getElem?_map, List.getElem?_eq_getElem hlt] at ex
    have e0 : x = .int cs[i] := (Option.some.inj ex).symm
    rw [e0]
    obtain ⟨env', O', s, run⟩ := hs i cs[i] (List.getElem?_eq_getElem hlt) σ H3 z
    exact hb _ _ O' σ H3 _ s (.v rfl) _ fun σ2 s2 => run σ2 H3 s2
  · exact fun σ H z => hd σ H z
end
/-- the slots at the start of a def that draws -/
def slX (n : Nat) (d : Addr) (ds : List D) : List Sl := .a d :: (ds.map .d ++ List.replicate (n - (ds.length + 1)) .no)
section
variable {P : Program} {wl : World} {K : PySem.W.Frag} {mg : Str → Option Value} {base : Heap}
theorem sd_startX {A : List Addr} {H : Hp} {N : List Str} {vs : List V} {ds : List D} {d l c : Addr} {hd : d ∈ A} {hl : l ∈ A} (r : RpA K (mn A H) vs ds) (ha : ∀ a ∈ A, NT (H a)) (hn : ds.length + 1 ≤ N.length) (j : Drw d l c H) : Sd (dw K A H d l c hd hl) ⟨slX N.length d ds, []⟩ [] (start N (.ref d :: vs)) H where
  len := by
    have := r.length
    simp only [L2.start, slX, List.length_append, List.length_map, List.length_replicate, List.length_cons]
    omega
  dat := fun i x hi => by
    cases i with
    | zero => simp [slX] at hi
    | succ i =>
      have hi' : (ds.map Sl.d ++ List.replicate (N.length - (ds.length + 1)) Sl.no)[i]? = some (.d x) := by simpa [slX] using hi
      have hlt : i < ds.length := by
        rcases Nat.lt_or_ge i ds.length with h | h
        · exact h
        · rw [List.getElem?_append_right (by simpa using h)] at hi'
          have := List.eq_of_mem_replicate (List.mem_of_getElem? hi')
          cases this
      rw [List.getElem?_append_left (by simpa using hlt), List.getElem?_map, List.getElem?_eq_getElem hlt] at hi'
      have e : ds[i] = x := by
        have := Option.some.inj hi'
        injection this
      obtain ⟨v, e1, r1⟩ := r.get (List.getElem?_eq_getElem hlt)
      rw [e] at r1
      refine ⟨v, ?_, r1⟩
      have hv : i < vs.length := (List.getElem?_eq_some_iff.mp e1).1
      simp only [L2.start, List.map_cons, List.cons_append, List.getElem?_cons_succ]
      rw [List.getElem?_append_left (by simpa using hv), List.getElem?_map, e1]
      rfl
  adr := fun i p hi => by
    cases i with
    | zero =>
      have : d = p := by simpa [slX] using hi
      subst this
      rfl
    | succ i =>
      have hi' : (ds.map Sl.d ++ List.replicate (N.length - (ds.length + 1)) Sl.no)[i]? = some (.a p) := by simpa [slX] using hi
      rcases Nat.lt_or_ge i ds.length with h | h
      · rw [List.getElem?_append_left (by simpa using h), List.getElem?_map, List.getElem?_eq_getElem h] at hi'
        have := Option.some.inj hi'
        cases this
      · rw [List.getElem?_append_right (by simpa using h)] at hi'
        have := List.eq_of_mem_replicate (List.mem_of_getElem? hi')
        cases this
  nd := List.nodup_nil
  fr := fun p hp => by simp at hp
  ok := fun q hq => by simp at hq
  ex := fun b o _ h => h
  tr := fun b hb => (ha b hb).1
  bt := ha
  gh := fun g hg => by simp at hg
  j := j
theorem def_draw {x : Str} {st : Stmt} {f : Addr} {fd : FuncData} {N ps : List Str} {Pre : List D → Prop} {R : List D → D → Prop} {k : Nat} (F : Fun K x x st f fd) (g : mg x = some (.ref f)) (S : FnScope N ps (defScope st)) (b : Binds K fd ps [])
    (hl : ∀ ds, Pre ds → ds.length + 1 = ps.length) (hN : ps.length ≤ N.length)
    (body : ∀ (cdv : Value) (A : Around) (outer : List Env) (s : Shared) (H : Hp) (E : XK) (L : List Addr) (Dn : Ends) (ds : List D) (d l c : Addr) (cs : List Int) (hd : d ∈ L) (hl : l ∈ L), IsDr (dw K L H d l c hd hl) d l c cs → Room k (BX P wl K mg base N x st f cdv A outer s H E).A → Pre ds → (∀ y, R ds y → Ret (dw K L H d l c hd hl) Dn y) → (∀ σ H', Dn.rt .non H' → Dn.nx σ H') →
      WPS (dw K L H d l c hd hl) (BX P wl K mg base N x st f cdv A outer s H E) ⟨slX N.length d ds, []⟩ [] (defBody st) Dn) : Def P wl K mg base x (k + 1) (PD K Pre R) := by
  refine ⟨f, fd, ps, F.ok S (fun vs H Q E h => ?_) (fun cdv A outer s H vs Q E hr h => ?_), g, F.kp, b⟩
  · obtain ⟨A, d, l, c, cs, vs', ds, rfl, r, hP, _⟩ := h
    rw [List.length_cons, r.length, hl ds hP]
  · obtain ⟨L, d, l, c, cs, vs', ds, rfl, r, hP, nt, ⟨hd, hl', hc⟩, ⟨ndl, ncd, ncl⟩, j, hcc, q⟩ := h
    have D : IsDr (dw K L H d l c hd hl') d l c cs := ⟨rfl, rfl, hc, hd, hl', hcc, ncd, ncl, ndl⟩
    refine ⟨_, pss_c, body cdv A outer s H E L { nx := fun _ H' => Q .non H', rt := Q } ds d l c cs hd hl' D hr hP (fun y hR v H' ex bt jj rv => q v H' y (fun b o hb e => ex b o hb e) bt jj hR rv) (fun σ H' h => h) _ H (sd_startX r nt (by rw [hl ds hP]; exact hN) j)⟩
end
end Mp
end
section
set_option Elab.async false
set_option linter.all false
set_option maxRecDepth 100000
set_option maxHeartbeats 4000000
/-! Mp19: how draws begin; comprehensions that draw. -/
namespace Mp
open PySem PySem.Spec PyProof.Rows L2
/-- a script becomes a state of draws -/
def PB (K : PySem.W.Frag) : Sp := fun vs H Q _ => ∃ (a : Addr) (ns : List Int), vs = [.ref a] ∧ SqL K H a (ns.map V.int) ∧ ns.length ≤ 1000 ∧ ∀ (d l c : Addr) (cs : List Int) (H' : Hp), Ex H H' → H d = none → H l = none → H c = none → d ≠ l → c ≠ d → c ≠ l → Drw d l c H' → H' c = some (.lst (cs.map V.int)) → Q (.ref d) H'
section
variable {w : Wd} {X : Cx} {env : En} {O : Os} {σ : L2.St} {H H1 H2 H' : Hp} {e a b : Expr} {es : List Expr} {p pos pos2 : Pos} {i j : Int} {ds es' : List D} {x : Str} {k : Nat} {Dn : Ends} {st : Stmt} {ss rest body orelse : List Stmt} {tg iter elt : Expr} {scope : Scope} {ifs : List Expr}
/-- a list that the written part or the caller holds -/
theorem ic_S {n : Nat} {y : Str} {py : Pos} {a : Addr} {ns : List Int} (hi : env.s[n]? = some (.a a)) (hS : ∀ σ H, Sd w env O σ H → ∀ H', (∀ b o, b ∉ w.B → H b = some o → H' b = some o) → SqL X.K H' a (ns.map V.int)) (hN : X.N[n]? = some y := by rfl) (hv : Vis X.env.scope y := by first | exact Or.inl rfl | exact Or.inr (Or.inl rfl) | exact Or.inr (Or.inr rfl)) (hd : (y == ("__debug__" : Str)) = false := by decide) (hcd : (y == ("__classdict__" : Str)) = false := by decide) :
    IC w X tg (.Name y py) env O (iL ns) := ⟨_, pi_list (pe_var hN hv hd hcd), fun σ H h R q => ⟨.ref a, h.adr n a hi, a, rfl, ⟨_, hS σ H h H fun _ _ _ e => e⟩, by
  have hl : (ns.map V.int).length = (iL ns).length := by simp
  refine q (Itl X.K a) (fun H => SqL X.K H a (ns.map V.int)) (YAt (ns.map V.int)) H (.refl h) (hl ▸ walk_list) (fun H2 k => hS σ H h H2 k) fun i H2 x H3 hi k y => ?_
  obtain ⟨e3, ex⟩ := y
  rw [List.getElem?_map] at ex
  obtain ⟨z, hz, rfl⟩ := Option.map_eq_some_iff.mp ex
  exact ⟨D.int z, by rw [List.getElem?_map, hz]; rfl, .inl ⟨e3, .v rfl⟩⟩⟩⟩
/-! ### comprehensions that draw -/
def LX (w : Wd) (X : Cx) (elt tg iter : Expr) (ifs : List Expr) (scope : Scope) (env : En) (O : Os) (S : List D → Prop) : Prop := ∃ (wi : TI) (g : TG) (tt : TT) (own' : List (Str × Nat)), PI X tg iter wi ∧ BlkOk X.N X.env.scope scope own' ∧
  (∀ (s : Shared) (H : Hp) (C : Addr) (cl : List (Str × Addr)) (fp : List Addr), PG (X.blk s H scope (compEnvC scope cl C X.env) fp) tg g) ∧ (∀ (s : Shared) (H : Hp) (C : Addr) (cl : List (Str × Addr)) (fp : List Addr), PTs (X.blk s H scope (compEnvC scope cl C X.env) fp) ifs tt) ∧
  (∀ x, foldedSetIterable iter X.env x = pure x) ∧ ∀ σ H, Sd w env O σ H → ∀ Q : VK, (∀ ds p H', S ds → Sd w env (O ++ [(p, .l ds)]) σ H' → (∀ b o, b ∉ w.B → H b = some o → H' b = some o) → Q (.ref p) H') → tLc wi g tt (REb X scope elt) (own'.map (·.2)) σ H Q
theorem lx_n (j : Nat) {α : Type} {f : α → D} {R : α → D → Prop} {xs : List α} {y : Str} {py : Pos} (hi : IC w X (.Name y py) iter env O (xs.map f)) (ok : BlkOk X.N X.env.scope scope [(y, j)]) (hz : xs.length < sizeLine)
    (hg : ∀ (s : Shared) (H : Hp) (C : Addr) (cl : List (Str × Addr)) (fp : List Addr), PG (X.blk s H scope (compEnvC scope cl C X.env) fp) (.Name y py) (gName j))
    (he : ∀ x ∈ xs, ∀ q acc s H0 C cl fp, EX w (X.blk s H0 scope (compEnvC scope cl C X.env) fp) elt (env.put j (.d (f x))) (O ++ [(q, .l acc)]) (R x))
    (hs : ∀ x, foldedSetIterable iter X.env x = pure x := by intro _; rfl) : LX w X elt (.Name y py) iter [] scope env O (fun ds => ds.length = xs.length ∧ ∀ (i : Nat) (x : α) (d : D), xs[i]? = some x → ds[i]? = some d → R x d) := by
  obtain ⟨wi, pi, hw⟩ := hi
  refine ⟨wi, gName j, tYes, [(y, j)], pi, ok, hg, fun _ _ _ _ _ => pts_nil, hs, fun σ H h Q q => ?_⟩
  refine hw σ H h _ fun J Gd Y H1 l1 wk kg ky Dn hD => ?_
  refine lc_it wk (fun i H2 => (∀ b o, b ∉ w.B → H1 b = some o → H2 b = some o) ∧ ∃ acc : List D, (acc.length = i ∧ ∀ (k : Nat) (x : α) (d : D), xs[k]? = some x → acc[k]? = some d → R x d) ∧ Sd w env (O ++ [(Dn, .l acc)]) σ H2 ∧ Ex (w.G O H1) (w.G (O ++ [(Dn, .l acc)]) H2)) ⟨fun b o _ e => Ex.new hD b o e, [], ⟨rfl, fun k x d _ h => by simp at h⟩, ?_⟩ (fun i H2 _ z => kg H2 z.1) (fun i x H2 H3 hlt z y => ?_) (fun H2 z => ?_)
  · have z := l1.1.newE (c := .l []) (o := .lst []) hD ⟨[], upd_same, .nil⟩
    exact ⟨z.1, by rw [z.2]; exact Same.refl _⟩
  · obtain ⟨k2, acc, ⟨hal, hac⟩, s2, ex2⟩ := z
    have hlt' : i < xs.length := by simpa using hlt
    obtain ⟨d, hd, yy⟩ := ky i H2 x H3 hlt k2 y
    have hxs : xs[i]? = some xs[i] := List.getElem?_eq_getElem hlt'
    have hd' : d = f xs[i] := by
      rw [List.getElem?_map, hxs] at hd
      exact (Option.some.inj hd).symm
    have hmem : xs[i] ∈ xs := List.getElem_mem hlt'
    have step : ∃ _ : Lv w env (O ++ [(Dn, .l acc)]) σ H2 H3, Rp w.K (w.G (O ++ [(Dn, .l acc)]) H3) x (f xs[i]) ∧ (∀ b o, b ∉ w.B → H1 b = some o → H3 b = some o) := by
      rw [← hd']
      rcases yy with ⟨e3, rr⟩ | ⟨T, ys, es, rfl, hT, e3, ry, rfl⟩
      · subst e3
        exact ⟨.refl s2, rr.mono ex2, k2⟩
      · subst e3
        exact ⟨Lv.new s2 hT, Lv.newT s2 hT (ry.mono ex2), fun b o hb e => Ex.new hT b o (k2 b o hb e)⟩
    obtain ⟨l3, r3, k3⟩ := step
    refine bnd_name j (f xs[i]) env _ σ H3 x l3.1 r3 _ fun σ2 s4 hw2 => ⟨hw2, ?_⟩
    have nb : Dn ∉ w.B := fun z => s2.disj (p := Dn) (by simp [own]) (w.bs _ z)
    show REb X scope elt σ2 H3 _
    intro s H0 C cl fp
    refine he xs[i] hmem _ _ s H0 C cl fp σ2 H3 s4 _ fun yd hyd yv H5 l5 r5 => ?_
    obtain ⟨ac, eacc, racc⟩ := l5.1.get (k := O.length) last_ix
    have z := s2.growB (H' := H5) (fun b o hb e => l5.2 b o hb (l3.2 b o hb e)) (fun b hb => l5.1.bt b (w.bs b hb)) l5.1.j
    have zl : ac.length < sizeLine := by
      rw [racc.length, hal]
      omega
    refine ⟨ac, eacc, zl, fun b o hb e => ?_, acc ++ [yd], ⟨by simp [hal], fun k x d hx hd => ?_⟩, ?_⟩
    · have hne : b ≠ Dn := fun q' => by rw [q', hD] at e; cases e
      rw [upd_ne hne]
      exact l5.2 b o hb (k3 b o hb e)
    · rcases Nat.lt_or_ge k acc.length with hk | hk
      · rw [List.getElem?_append_left hk] at hd
        exact hac k x d hx hd
      · have ek : k = acc.length := by
          have := (List.getElem?_eq_some_iff.mp hd).1
          simp at this
          omega
        subst ek
        rw [List.getElem?_append_right (Nat.le_refl _)] at hd
        simp at hd
        subst hd
        rw [hal, hxs] at hx
        have := Option.some.inj hx
        rw [← this]
        exact hyd
    · have r5' : Rp w.K (w.G (O ++ [(Dn, .l acc)]) H5) yv yd := r5
      have wr := z.1.write (k := O.length) (c := .l (acc ++ [yd])) (o := .lst (ac ++ [yv])) last_ix ⟨_, upd_same, by
        have racc' : RpA w.K (w.G (O ++ [(Dn, .l acc)]) H5) ac acc := racc
        exact racc'.app (.one r5')⟩
      have es : (O ++ [(Dn, Oc.l acc)]).set O.length (Dn, .l (acc ++ [yd])) = O ++ [(Dn, .l (acc ++ [yd]))] := by
        rw [List.set_append_right _ _ (Nat.le_refl _), Nat.sub_self]
        rfl
      rw [es] at wr
      refine ⟨wr.1, ?_⟩
      rw [wr.2]
      exact ex2.trans z.2
  · obtain ⟨k2, acc, ⟨hal, hac⟩, s2, ex2⟩ := z
    exact q acc Dn H2 ⟨by rw [hal]; simp, hac⟩ s2 fun b o hb e => k2 b o hb (l1.2 b o hb e)
theorem ws_lxc (i : Nat) {y : Str} {py : Pos} {S : List D → Prop} (hc : X.calm = true) (hN : X.N.Nodup) (h : LX w X elt tg iter ifs scope env O S) (q : ∀ ds, S ds → WPS w X (env.put i (.d (.lst ds))) O rest Dn) (hy : X.N[i]? = some y := by rfl) (hyl : X.env.scope.names.lookup y = some .local := by rfl)
    (hsw : swapsWith (.ListComp elt [⟨tg, iter, ifs, 0⟩] scope pos) (some (.Name y py)) pos2.line X.env = pure true := by exact sw_true rfl rfl rfl (by decide +kernel)) : WPS w X env O (.Assign [.Name y py] (.ListComp elt [⟨tg, iter, ifs, 0⟩] scope pos) pos2 :: rest) Dn := by
  obtain ⟨wi, g, tt, own', pi, ok, hg, ht, hs', run⟩ := h
  refine ws_cons (ps_setLc (te := REb X scope elt) hc hN hy hyl hsw pi ok hg ht (fun s H C cl fp => pe_cb s H C cl fp) hs') fun σ H hs => ?_
  exact run σ H hs _ fun ds p H' hS h' ex => q ds hS _ H' (h'.thaw.1.set i h'.thaw.2)
theorem ws_lxn (i : Nat) {y : Str} {py : Pos} {S : List D → Prop} (hc : X.calm = true) (hN : X.N.Nodup) (h : LX w X elt tg iter ifs scope env O S) (q : ∀ ds, S ds → WPS w X (env.put i (.d (.lst ds))) O rest Dn) (hi : X.N[i]? = some y := by rfl) (hx : Loc X.env.scope y := by first | exact .inl rfl | exact .inr rfl) (hs : swapsWith (.ListComp elt [⟨tg, iter, ifs, 0⟩] scope pos) (some (.Name y py)) pos2.line X.env = pure false := by rfl)
    (hf : X.fn y = true ∨ X.env.scope.names.lookup y = some .local := by first | exact .inl rfl | exact .inr rfl) : WPS w X env O (.Assign [.Name y py] (.ListComp elt [⟨tg, iter, ifs, 0⟩] scope pos) pos2 :: rest) Dn := by
  obtain ⟨wi, g, tt, own', pi, ok, hg, ht, hs', run⟩ := h
  refine ws_cons (ps_set hN hi hx (pe_lc (te := REb X scope elt) hc hN pi ok hg ht (fun s H C cl fp => pe_cb s H C cl fp) hs') hs hf) fun σ H hs => ?_
  exact run σ H hs _ fun ds p H' hS h' ex => q ds hS _ H' (h'.thaw.1.set i h'.thaw.2)
/-! ### the law begins to draw -/
theorem ws_begin {K : PySem.W.Frag} {H0 : Hp} {n i : Nat} {y z : Str} {py pz p2 : Pos} {a : Addr} {ns : List Int} (hK : X.K = K) (hN : X.N.Nodup) (hi : env.s[n]? = some (.a a)) (hS : SqL K H0 a (ns.map V.int)) (hl : ns.length ≤ 1000) (F : Def X.prog X.w X.K X.mg X.base x k (PB K)) (hr : Room k X.A) (hg : Gl X x)
    (q : ∀ (d l c : Addr) (cs : List Int) (H' : Hp) (hd : d ∈ [d, l, c]) (hl : l ∈ [d, l, c]), IsDr (dw K [d, l, c] H' d l c hd hl) d l c cs → WPS (dw K [d, l, c] H' d l c hd hl) X ⟨(List.replicate env.s.length .no).set i (.a d), []⟩ [] rest Dn)
    (hNi : X.N[n]? = some y := by rfl) (hNz : X.N[i]? = some z := by rfl) (hx : Loc X.env.scope z := by first | exact .inl rfl | exact .inr rfl) (hv : Vis X.env.scope y := by first | exact Or.inl rfl | exact Or.inr (Or.inl rfl) | exact Or.inr (Or.inr rfl)) (hd : (y == ("__debug__" : Str)) = false := by decide) (hcd : (y == ("__classdict__" : Str)) = false := by decide)
    (hdb : (x == ("__debug__" : Str)) = false := by decide) (he : starEach [.Name y py] X.env = (false, eval (.Name y py) X.env) :: starEach [] X.env := by rfl) (hs : swapsWith (.Call (.Name x p) [.Name y py] [] p2) (some (.Name z pz)) pos.line X.env = pure false := by rfl)
    (hf : X.fn z = true ∨ X.env.scope.names.lookup z = some .local := by first | exact .inl rfl | exact .inr rfl) : WPS (pw K [] H0) X env [] (.Assign [.Name z pz] (.Call (.Name x p) [.Name y py] [] p2) pos :: rest) Dn := by
  obtain ⟨f, fd, ps, F, hm, hk, hb⟩ := F
  refine ws_cons (ps_set hN hNz hx (pe_call F hr hg hm hk hb .nil pass0 (pa_cons (pe_var hNi hv hd hcd) pa_nil he) hdb he rfl) hs hf) fun σ H h => ?_
  have eH : Ex H0 H := fun b o e => h.ex b o (by simp [pw]) e
  refine ⟨.ref a, h.adr n a hi, ?_⟩
  refine ⟨a, ns, rfl, ex_l eH hS, hl, fun d l c cs H' e1 hd hl' hc n1 n2 n3 j hcc => ?_⟩
  have hd' : d ∈ [d, l, c] := by simp
  have hll : l ∈ [d, l, c] := by simp
  have nt : ∀ b ∈ [d, l, c], NT (H' b) := fun b hb => by
    have : b = d ∨ b = l ∨ b = c := by simpa using hb
    rcases this with z | z | z
    · rw [z]; exact j.nt.1
    · rw [z]; exact j.nt.2
    · rw [z]; exact nt_l hcc
  refine q d l c cs H' hd' hll ⟨rfl, rfl, by simp [dw], hd', hll, hcc, n2, n3, n1⟩ _ H' ⟨?_, fun m x hm => ?_, fun m p hm => ?_, List.nodup_nil, fun p hp => by simp at hp, fun q hq => by simp at hq, fun b o _ e => e, fun b hb => (nt b hb).1, nt, fun g hg => by simp at hg, j⟩
  · simp [h.len]
  · exfalso
    by_cases z : i = m
    · subst z
      rw [List.getElem?_set] at hm
      simp at hm
    · rw [List.getElem?_set_ne z] at hm
      have := List.eq_of_mem_replicate (List.mem_of_getElem? hm)
      cases this
  · by_cases z : i = m
    · subst z
      have hlt : i < env.s.length := by
        have := (List.getElem?_eq_some_iff.mp hm).1
        simpa using this
      rw [List.getElem?_set_self (by simpa using hlt)] at hm
      cases hm
      exact List.getElem?_set_self (by rw [h.len]; exact hlt)
    · rw [List.getElem?_set_ne z] at hm
      have := List.eq_of_mem_replicate (List.mem_of_getElem? hm)
      cases this
end
end Mp
end
section
set_option Elab.async false
set_option linter.all false
set_option maxRecDepth 100000
set_option maxHeartbeats 4000000
/-! Mp20: small things that all laws use. -/
namespace Mp
open PySem PySem.Spec PyProof.Rows L2
theorem get_map {α β : Type} {f : α → β} {l : List α} {i : Nat} {d : β} (h : (l.map f)[i]? = some d) : ∃ x, l[i]? = some x ∧ d = f x := by
  rw [List.getElem?_map] at h
  obtain ⟨x, h1, h2⟩ := Option.map_eq_some_iff.mp h
  exact ⟨x, h1, h2.symm⟩
theorem sz_of {n : Nat} (h : n ≤ 1000000) : n ≤ sizeLine := Nat.le_trans h (by decide)
theorem sz_lt {n : Nat} (h : n ≤ 1000000) : n < sizeLine := Nat.lt_of_le_of_lt h (by decide)
theorem dr_turn (l c : Addr) : ∀ r t : Int, ∃ i, valV (drK l c r t) (.inr "turn") = some (.int i) := fun r t => ⟨t, rfl⟩
theorem dr_rest (l c : Addr) : ∀ r t : Int, ∃ i, valV (drK l c r t) (.inr "rest") = some (.int i) := fun r t => ⟨r, rfl⟩
theorem dp_turn (l c : Addr) : ∀ r t i : Int, ∃ r' t', putK (drK l c r t) (.inr "turn") (.int i) = drK l c r' t' := fun r t i => ⟨r, i, rfl⟩
theorem dp_rest (l c : Addr) : ∀ r t i : Int, ∃ r' t', putK (drK l c r t) (.inr "rest") (.int i) = drK l c r' t' := fun r t i => ⟨i, t, rfl⟩
theorem fmod_bd {i j : Int} (h : 0 < j) : 0 ≤ i.fmod j ∧ i.fmod j < j := ⟨Int.fmod_nonneg_of_pos i h, Int.fmod_lt_of_pos i h⟩
section
variable {w : Wd} {X : Cx} {env : En} {O : Os} {σ : L2.St} {H H1 H2 H' : Hp} {a b : Expr} {pos : Pos} {d1 : D} {Dn : Ends} {rest : List Stmt} {c1 c2 : Oc}
/-- a, b = e1, e2: two new objects; data and a new object -/
theorem ws_parOO (i j : Nat) {y z : Str} {py pz pt pt2 : Pos} {kt k2 : Nat} (hc : X.calm = true) (hN : X.N.Nodup) (hij : i ≠ j) (ha : EO w X a env O c1) (hb : ∀ p, EO w X b env (O ++ [(p, c1)]) c2) (q : ∀ p q', WPS w X ((env.put i (.a p)).put j (.a q')) ((O ++ [(p, c1)]) ++ [(q', c2)]) rest Dn) (hi : X.N[i]? = some y := by rfl) (hj : X.N[j]? = some z := by rfl)
    (hy : X.env.scope.names.lookup y = some .local := by rfl) (hz : X.env.scope.names.lookup z = some .local := by rfl) (h1 : starEach [a, b] X.env = (false, eval a X.env) :: starEach [b] X.env := by rfl) (h2 : starEach [b] X.env = (false, eval b X.env) :: starEach [] X.env := by rfl)
    (hw : swappedStores [.Tuple [.Name y py, .Name z pz] kt pt] (.Tuple [a, b] k2 pt2) X.env = pure (some [y, z]) := by rfl) (hs : swapsWithSole [.Tuple [.Name y py, .Name z pz] kt pt] (.Tuple [a, b] k2 pt2) pos.line X.env = pure false := by rfl) :
    WPS w X env O (.Assign [.Tuple [.Name y py, .Name z pz] kt pt] (.Tuple [a, b] k2 pt2) pos :: rest) Dn :=
  ws_cons (ps_par hc hN hi hj hij hy hz (pa_cons pe_c (pa_cons pe_c pa_nil h2) h1) hw hs) fun σ H hs => ha σ H hs _ fun p H1 s1 _ => hb p σ H1 s1 _ fun q' H2 s2 _ => ⟨_, _, rfl, q p q' _ H2 ((s2.setA i).setA j)⟩
theorem ws_parVO (i j : Nat) {y z : Str} {py pz pt pt2 : Pos} {kt k2 : Nat} (hc : X.calm = true) (hN : X.N.Nodup) (hij : i ≠ j) (ha : EV w X a env O d1) (hb : ∀ g, EO w X b (env.tell g) O c2) (q : ∀ q', WPS w X ((env.put i (.d d1)).put j (.a q')) (O ++ [(q', c2)]) rest Dn) (hi : X.N[i]? = some y := by rfl) (hj : X.N[j]? = some z := by rfl)
    (hy : X.env.scope.names.lookup y = some .local := by rfl) (hz : X.env.scope.names.lookup z = some .local := by rfl) (h1 : starEach [a, b] X.env = (false, eval a X.env) :: starEach [b] X.env := by rfl) (h2 : starEach [b] X.env = (false, eval b X.env) :: starEach [] X.env := by rfl)
    (hw : swappedStores [.Tuple [.Name y py, .Name z pz] kt pt] (.Tuple [a, b] k2 pt2) X.env = pure (some [y, z]) := by rfl) (hs : swapsWithSole [.Tuple [.Name y py, .Name z pz] kt pt] (.Tuple [a, b] k2 pt2) pos.line X.env = pure false := by rfl) :
    WPS w X env O (.Assign [.Tuple [.Name y py, .Name z pz] kt pt] (.Tuple [a, b] k2 pt2) pos :: rest) Dn :=
  ws_cons (ps_par hc hN hi hj hij hy hz (pa_cons pe_c (pa_cons pe_c pa_nil h2) h1) hw hs) fun σ H hs => ha σ H hs _ fun v H1 l1 r1 => hb ⟨fun G => Rp w.K G v d1, fun G G' e r => r.mono e⟩ σ H1 (l1.1.tell _ r1) _ fun q' H2 s2 _ => ⟨_, _, rfl, by
    have r2 := s2.gh _ (List.mem_cons_self ..)
    exact q q' _ H2 ((s2.hush.set i r2).setA j)⟩
end
section
variable {w : Wd} {X : Cx} {env : En} {O : Os} {a b : Expr} {p pos : Pos}
theorem ev_lenUm {α : Type} {f : α → D} {l : List α} (hk : X.K = w.K) (hg : Gl X "len") (hm : X.mg "len" = none) (ha : EU w X a env O (l.map f)) (he : starEach [a] X.env = (false, eval a X.env) :: starEach [] X.env := by rfl) : EV w X (.Call (.Name "len" p) [a] [] pos) env O (.int (l.length : Int)) := (ev_lenU hk hg hm ha he).to (by rw [List.length_map])
theorem ev_lenLm {α : Type} {f : α → D} {l : List α} (hg : Gl X "len") (hm : X.mg "len" = none) (ha : EL w X a env O (l.map f)) (he : starEach [a] X.env = (false, eval a X.env) :: starEach [] X.env := by rfl) : EV w X (.Call (.Name "len" p) [a] [] pos) env O (.int (l.length : Int)) := (ev_lenL hg hm ha he).to (by rw [List.length_map])
/-- (), [] -/
theorem ev_tup0 {k : Nat} : EV w X (.Tuple [] k pos) env O (tI []) := ev_tup av_nil (sz_of (by simp))
end
theorem un64 {k : Nat} {A : Around} (hr : Room k A) : A.units + 64 < cLine := by have := hr.un; omega
section
variable {w : Wd} {X : Cx} {env : En} {O : Os} {σ : L2.St} {H H1 H2 H' : Hp} {a b : Expr} {pos : Pos} {d1 d2 : D} {Dn : Ends} {rest : List Stmt} {c1 c2 : Oc} {R1' R2' : D → Prop}
/-- a, b = e1, e2 where a name is not a plain local one: through a tuple -/
theorem ws_parOOc (i j : Nat) {y z : Str} {py pz pt pt2 : Pos} {kt k2 : Nat} (hk : X.K = w.K) (ha : EO w X a env O c1) (hb : ∀ p, EO w X b env (O ++ [(p, c1)]) c2) (q : ∀ p q', WPS w X ((env.put i (.a p)).put j (.a q')) ((O ++ [(p, c1)]) ++ [(q', c2)]) rest Dn)
    (hg : PG X (.Tuple [.Name y py, .Name z pz] kt pt) (gTup X.K 2 (gCons (gName i) (gCons (gName j) gNil)))) (h1 : starEach [a, b] X.env = (false, eval a X.env) :: starEach [b] X.env := by rfl) (h2 : starEach [b] X.env = (false, eval b X.env) :: starEach [] X.env := by rfl)
    (hs : swapsWithSole [.Tuple [.Name y py, .Name z pz] kt pt] (.Tuple [a, b] k2 pt2) pos.line X.env = pure false := by rfl) (hw : swappedStores [.Tuple [.Name y py, .Name z pz] kt pt] (.Tuple [a, b] k2 pt2) X.env = pure none := by rfl) :
    WPS w X env O (.Assign [.Tuple [.Name y py, .Name z pz] kt pt] (.Tuple [a, b] k2 pt2) pos :: rest) Dn :=
  ws_cons (ps_asg (pe_tup (pa_cons pe_c (pa_cons pe_c pa_nil h2) h1)) hg hs hw) fun σ H hs => ha σ H hs _ fun p H1 s1 _ => hb p σ H1 s1 _ fun q' H2 s2 _ => ⟨by show 2 ≤ sizeLine; decide, fun T hT =>
    ⟨T, _, rfl, .inl (.inl upd_same), rfl, _, _, rfl, _, _, rfl, rfl, q p q' _ _ (((Lv.new s2 hT).1.setA i).setA j)⟩⟩
theorem ws_parVVc (i j : Nat) {y z : Str} {py pz pt pt2 : Pos} {kt k2 : Nat} (hk : X.K = w.K) (ha : EV w X a env O d1) (hb : EV w X b env O d2) (q : WPS w X ((env.put i (.d d1)).put j (.d d2)) O rest Dn)
    (hg : PG X (.Tuple [.Name y py, .Name z pz] kt pt) (gTup X.K 2 (gCons (gName i) (gCons (gName j) gNil)))) (h1 : starEach [a, b] X.env = (false, eval a X.env) :: starEach [b] X.env := by rfl) (h2 : starEach [b] X.env = (false, eval b X.env) :: starEach [] X.env := by rfl)
    (hs : swapsWithSole [.Tuple [.Name y py, .Name z pz] kt pt] (.Tuple [a, b] k2 pt2) pos.line X.env = pure false := by rfl) (hw : swappedStores [.Tuple [.Name y py, .Name z pz] kt pt] (.Tuple [a, b] k2 pt2) X.env = pure none := by rfl) :
    WPS w X env O (.Assign [.Tuple [.Name y py, .Name z pz] kt pt] (.Tuple [a, b] k2 pt2) pos :: rest) Dn :=
  ws_cons (ps_asg (pe_tup (pa_cons pe_c (pa_cons pe_c pa_nil h2) h1)) hg hs hw) fun σ H hs => ha σ H hs _ fun v H1 l1 r1 => hb σ H1 l1.1 _ fun u H2 l2 r2 => ⟨by show 2 ≤ sizeLine; decide, fun T hT =>
    have l3 := Lv.new (o := .tup [v, u]) l2.1 hT
    ⟨T, _, rfl, .inl (.inl upd_same), rfl, _, _, rfl, _, _, rfl, rfl, q _ _ ((l3.1.set i (r1.mono (l2.trans l3).ex)).set j (r2.mono l3.ex))⟩⟩
theorem ws_parXXc (i j : Nat) {y z : Str} {py pz pt pt2 : Pos} {kt k2 : Nat} (hk : X.K = w.K) (ha : EX w X a env O R1') (hb : EX w X b env O R2') (q : ∀ x y, R1' x → R2' y → WPS w X ((env.put i (.d x)).put j (.d y)) O rest Dn)
    (hg : PG X (.Tuple [.Name y py, .Name z pz] kt pt) (gTup X.K 2 (gCons (gName i) (gCons (gName j) gNil)))) (h1 : starEach [a, b] X.env = (false, eval a X.env) :: starEach [b] X.env := by rfl) (h2 : starEach [b] X.env = (false, eval b X.env) :: starEach [] X.env := by rfl)
    (hs : swapsWithSole [.Tuple [.Name y py, .Name z pz] kt pt] (.Tuple [a, b] k2 pt2) pos.line X.env = pure false := by rfl) (hw : swappedStores [.Tuple [.Name y py, .Name z pz] kt pt] (.Tuple [a, b] k2 pt2) X.env = pure none := by rfl) :
    WPS w X env O (.Assign [.Tuple [.Name y py, .Name z pz] kt pt] (.Tuple [a, b] k2 pt2) pos :: rest) Dn :=
  ws_cons (ps_asg (pe_tup (pa_cons pe_c (pa_cons pe_c pa_nil h2) h1)) hg hs hw) fun σ H hs => ha σ H hs _ fun x hx v H1 l1 r1 => hb σ H1 l1.1 _ fun y hy u H2 l2 r2 => ⟨by show 2 ≤ sizeLine; decide, fun T hT =>
    have l3 := Lv.new (o := .tup [v, u]) l2.1 hT
    ⟨T, _, rfl, .inl (.inl upd_same), rfl, _, _, rfl, _, _, rfl, rfl, q x y hx hy _ _ ((l3.1.set i (r1.mono (l2.trans l3).ex)).set j (r2.mono l3.ex))⟩⟩
end
def rSumT (K : PySem.W.Frag) : List V → Hp → VK → Prop := fun vs H Q => ∃ (a : Addr) (ns : List Int), vs = [V.ref a] ∧ SqT K H a (ns.map V.int) ∧ Q (.int ns.sum) H
theorem cr_sumT {X : Cx} (hc : X.calm = true) : CallR X (.builtin "sum") (rSumT X.K) := by
  intro pins s σ H vs us Q I r h
  obtain ⟨a, ns, rfl, hs, q⟩ := h
  obtain ⟨its, rv, hl, _⟩ := I.tuple hs
  rw [Vals.ref1 r]
  have hi := rv.ints
  obtain ⟨xs, e⟩ := hi.allInts.items
  have hn : numsOf (intItems xs).toList = ns := by rw [← e]; exact hi.numsOf
  rw [nums_intItems] at hn
  rw [e] at hl
  refine PySem.W.ktm_sumG (I.ok.hd hc) hl fun h' tk t' hk => ?_
  rw [preSum_eq, List.take_of_length_le (by simp), hn]
  exact ⟨.int _, H, I.kept hk, ⟨_, rfl⟩, q⟩
section
variable {w : Wd} {X : Cx} {env : En} {O : Os} {σ : L2.St} {H H1 H2 H' : Hp} {a b : Expr} {p pos : Pos} {d1 d2 : D} {Dn : Ends} {rest : List Stmt} {ds : List D}
theorem ev_sumU {l : List Int} (hk : X.K = w.K) (hc : X.calm = true) (hg : Gl X "sum") (hm : X.mg "sum" = none) (ha : EU w X a env O (iL l)) (he : starEach [a] X.env = (false, eval a X.env) :: starEach [] X.env := by rfl) : EV w X (.Call (.Name "sum" p) [a] [] pos) env O (.int l.sum) := fun σ H h Q q =>
  re_of (pe_callB (cr_sumT hc) hg hm (by decide +kernel) (pa_cons pe_c pa_nil he) (by decide) (by decide) he rfl) (ha σ H h _ fun v xs H1 lv e r => ⟨v, l, rfl, by rw [hk, ← r.ints]; exact ex_t (mn_le _ _) e, q _ H1 lv (.v rfl)⟩)
/-- x = y, y a list of one's own, that is data from then on -/
theorem ws_frz (i n m : Nat) {y z : Str} {py pz : Pos} {q' : Addr} (hN : X.N.Nodup) (hi : env.s[n]? = some (.a q')) (hk : O[m]? = some (q', .l ds)) (q : WPS w X ((env.put n .no).put i (.d (.lst ds))) (O.eraseIdx m) rest Dn) (hNi : X.N[i]? = some y := by rfl) (hNz : X.N[n]? = some z := by rfl) (hx : Loc X.env.scope y := by first | exact .inl rfl | exact .inr rfl) (hv : Vis X.env.scope z := by first | exact Or.inl rfl | exact Or.inr (Or.inl rfl) | exact Or.inr (Or.inr rfl)) (hd : (z == ("__debug__" : Str)) = false := by decide) (hcd : (z == ("__classdict__" : Str)) = false := by decide)
    (hs : swapsWith (.Name z pz) (some (.Name y py)) pos.line X.env = pure false := by rfl) (hf : X.fn y = true ∨ X.env.scope.names.lookup y = some .local := by first | exact .inl rfl | exact .inr rfl) : WPS w X env O (.Assign [.Name y py] (.Name z pz) pos :: rest) Dn :=
  ws_cons (ps_set hN hNi hx (pe_var hNz hv hd hcd) hs hf) fun σ H hs => ⟨_, hs.adr n q' hi, by
    obtain ⟨h1, r⟩ := hs.frzL hk
    have h2 : Sd w (env.put n .no) (O.eraseIdx m) σ H := h1.weak (by simp) (fun g hg => hg) fun j => by
      by_cases e : n = j
      · subst e
        right
        have hlt : n < env.s.length := (List.getElem?_eq_some_iff.mp hi).1
        exact List.getElem?_set_self hlt
      · left
        exact List.getElem?_set_ne e
    exact q _ H (h2.set i r)⟩
end
/-- the start of a def that takes one list that is only known by its address -/
theorem sd_startA {K : PySem.W.Frag} {H : Hp} {N : List Str} {a : Addr} (hN : 1 ≤ N.length) : Sd (pw K [] H) ⟨.a a :: List.replicate (N.length - 1) .no, []⟩ [] (L2.start N [.ref a]) H where
  len := by simp [L2.start]
  dat := fun i x hi => by
    cases i with
    | zero => simp at hi
    | succ i =>
      have hi' : (List.replicate (N.length - 1) Sl.no)[i]? = some (.d x) := by simpa using hi
      have := List.eq_of_mem_replicate (List.mem_of_getElem? hi')
      cases this
  adr := fun i p hi => by
    cases i with
    | zero =>
      have : a = p := by simpa using hi
      subst this
      rfl
    | succ i =>
      have hi' : (List.replicate (N.length - 1) Sl.no)[i]? = some (.a p) := by simpa using hi
      have := List.eq_of_mem_replicate (List.mem_of_getElem? hi')
      cases this
  nd := List.nodup_nil
  fr := fun p hp => by simp at hp
  ok := fun q hq => by simp at hq
  ex := fun b o _ h => h
  tr := fun b hb => by simp [pw] at hb
  bt := fun b hb => by simp [pw] at hb
  gh := fun g hg => by simp at hg
  j := trivial
end Mp
end
section
set_option Elab.async false
set_option linter.all false
set_option maxRecDepth 100000
set_option maxHeartbeats 4000000
/-! the defs of the text, and what the top leaves of them. -/
namespace Q95
open PySem PySem.Spec PyProof.Rows L2 Mp
def topS (i : Nat) : Stmt := PySem.Challenge.pw_maypole_k95_whole_who_leaves_seen_from_a.main.body.getD i (.Pass ⟨0, 0, 0, 0⟩)
abbrev s_is_number : Stmt := topS 8
abbrev n_is_number : List Str := ["thing"]
theorem sc_is_number : FnScope n_is_number ["thing"] (defScope s_is_number) := ⟨rfl, rfl, rfl, by decide +kernel, rfl, by decide +kernel, by decide +kernel⟩
abbrev s_is_between : Stmt := topS 9
abbrev n_is_between : List Str := ["thing", "least", "most"]
theorem sc_is_between : FnScope n_is_between ["thing", "least", "most"] (defScope s_is_between) := ⟨rfl, rfl, rfl, by decide +kernel, rfl, by decide +kernel, by decide +kernel⟩
abbrev s_is_step : Stmt := topS 10
abbrev n_is_step : List Str := ["many", "thing"]
theorem sc_is_step : FnScope n_is_step ["many", "thing"] (defScope s_is_step) := ⟨rfl, rfl, rfl, by decide +kernel, rfl, by decide +kernel, by decide +kernel⟩
abbrev s_is_dance : Stmt := topS 11
abbrev n_is_dance : List Str := ["many", "thing", "step"]
theorem sc_is_dance : FnScope n_is_dance ["many", "thing"] (defScope s_is_dance) := ⟨rfl, rfl, rfl, by decide +kernel, rfl, by decide +kernel, by decide +kernel⟩
abbrev s_need_many : Stmt := topS 12
abbrev n_need_many : List Str := ["many"]
theorem sc_need_many : FnScope n_need_many ["many"] (defScope s_need_many) := ⟨rfl, rfl, rfl, by decide +kernel, rfl, by decide +kernel, by decide +kernel⟩
abbrev s_need_dance : Stmt := topS 13
abbrev n_need_dance : List Str := ["many", "dance", "part"]
theorem sc_need_dance : FnScope n_need_dance ["many", "dance", "part"] (defScope s_need_dance) := ⟨rfl, rfl, rfl, by decide +kernel, rfl, by decide +kernel, by decide +kernel⟩
abbrev s_need_one : Stmt := topS 14
abbrev n_need_one : List Str := ["many", "dance"]
theorem sc_need_one : FnScope n_need_one ["many", "dance"] (defScope s_need_one) := ⟨rfl, rfl, rfl, by decide +kernel, rfl, by decide +kernel, by decide +kernel⟩
abbrev s_order_of : Stmt := topS 15
abbrev n_order_of : List Str := ["many", "dance", "found", "step", "at"]
theorem sc_order_of : FnScope n_order_of ["many", "dance"] (defScope s_order_of) := ⟨rfl, rfl, rfl, by decide +kernel, rfl, by decide +kernel, by decide +kernel⟩
abbrev s_undone_of : Stmt := topS 16
abbrev n_undone_of : List Str := ["dance", "step"]
theorem sc_undone_of : FnScope n_undone_of ["dance"] (defScope s_undone_of) := ⟨rfl, rfl, rfl, by decide +kernel, rfl, by decide +kernel, by decide +kernel⟩
abbrev s_leads_of : Stmt := topS 17
abbrev n_leads_of : List Str := ["many", "dance", "found", "low", "high", "line", "step", "at", "pair"]
theorem sc_leads_of : FnScope n_leads_of ["many", "dance"] (defScope s_leads_of) := ⟨rfl, rfl, rfl, by decide +kernel, rfl, by decide +kernel, by decide +kernel⟩
abbrev s_end_order : Stmt := topS 18
abbrev n_end_order : List Str := ["many", "dance"]
theorem sc_end_order : FnScope n_end_order ["many", "dance"] (defScope s_end_order) := ⟨rfl, rfl, rfl, by decide +kernel, rfl, by decide +kernel, by decide +kernel⟩
abbrev s_leads : Stmt := topS 19
abbrev n_leads : List Str := ["many", "dance"]
theorem sc_leads : FnScope n_leads ["many", "dance"] (defScope s_leads) := ⟨rfl, rfl, rfl, by decide +kernel, rfl, by decide +kernel, by decide +kernel⟩
abbrev s_undone : Stmt := topS 20
abbrev n_undone : List Str := ["many", "dance"]
theorem sc_undone : FnScope n_undone ["many", "dance"] (defScope s_undone) := ⟨rfl, rfl, rfl, by decide +kernel, rfl, by decide +kernel, by decide +kernel⟩
abbrev s_mirrored : Stmt := topS 21
abbrev n_mirrored : List Str := ["many", "dance", "step"]
theorem sc_mirrored : FnScope n_mirrored ["many", "dance"] (defScope s_mirrored) := ⟨rfl, rfl, rfl, by decide +kernel, rfl, by decide +kernel, by decide +kernel⟩
abbrev s_turned_about : Stmt := topS 22
abbrev n_turned_about : List Str := ["many", "dance", "step"]
theorem sc_turned_about : FnScope n_turned_about ["many", "dance"] (defScope s_turned_about) := ⟨rfl, rfl, rfl, by decide +kernel, rfl, by decide +kernel, by decide +kernel⟩
abbrev s_most_nought : Stmt := topS 24
abbrev n_most_nought : List Str := ["number"]
theorem sc_most_nought : FnScope n_most_nought ["number"] (defScope s_most_nought) := ⟨rfl, rfl, rfl, by decide +kernel, rfl, by decide +kernel, by decide +kernel⟩
abbrev s_least_nought : Stmt := topS 25
abbrev n_least_nought : List Str := ["number"]
theorem sc_least_nought : FnScope n_least_nought ["number"] (defScope s_least_nought) := ⟨rfl, rfl, rfl, by decide +kernel, rfl, by decide +kernel, by decide +kernel⟩
abbrev s_forward_four : Stmt := topS 26
abbrev n_forward_four : List Str := ["p", "q", "r", "s", "high", "deep", "z", "left"]
theorem sc_forward_four : FnScope n_forward_four ["p", "q", "r", "s"] (defScope s_forward_four) := ⟨rfl, rfl, rfl, by decide +kernel, rfl, by decide +kernel, by decide +kernel⟩
abbrev s_backward_four : Stmt := topS 27
abbrev n_backward_four : List Str := ["p", "q", "r", "s", "high", "deep", "z", "left"]
theorem sc_backward_four : FnScope n_backward_four ["p", "q", "r", "s"] (defScope s_backward_four) := ⟨rfl, rfl, rfl, by decide +kernel, rfl, by decide +kernel, by decide +kernel⟩
abbrev s_step_numbers : Stmt := topS 28
abbrev n_step_numbers : List Str := ["numbers", "step", "begin", "p", "q", "r", "s", "four"]
theorem sc_step_numbers : FnScope n_step_numbers ["numbers", "step"] (defScope s_step_numbers) := ⟨rfl, rfl, rfl, by decide +kernel, rfl, by decide +kernel, by decide +kernel⟩
abbrev s_all_led : Stmt := topS 29
abbrev n_all_led : List Str := ["numbers", "dance", "step"]
theorem sc_all_led : FnScope n_all_led ["numbers", "dance"] (defScope s_all_led) := ⟨rfl, rfl, rfl, by decide +kernel, rfl, by decide +kernel, by decide +kernel⟩
abbrev s_numbers_in : Stmt := topS 30
abbrev n_numbers_in : List Str := ["many", "dance"]
theorem sc_numbers_in : FnScope n_numbers_in ["many", "dance"] (defScope s_numbers_in) := ⟨rfl, rfl, rfl, by decide +kernel, rfl, by decide +kernel, by decide +kernel⟩
abbrev s_is_alike : Stmt := topS 31
abbrev n_is_alike : List Str := ["many", "one", "other"]
theorem sc_is_alike : FnScope n_is_alike ["many", "one", "other"] (defScope s_is_alike) := ⟨rfl, rfl, rfl, by decide +kernel, rfl, by decide +kernel, by decide +kernel⟩
abbrev s_left_of : Stmt := topS 33
abbrev n_left_of : List Str := ["many", "dance", "stay", "line", "found", "step", "at", "place", "dancer"]
theorem sc_left_of : FnScope n_left_of ["many", "dance", "stay"] (defScope s_left_of) := ⟨rfl, rfl, rfl, by decide +kernel, rfl, by decide +kernel, by decide +kernel⟩
abbrev s_is_lot : Stmt := topS 34
abbrev n_is_lot : List Str := ["many", "thing", "least", "dancer"]
theorem sc_is_lot : FnScope n_is_lot ["many", "thing", "least"] (defScope s_is_lot) := ⟨rfl, rfl, rfl, by decide +kernel, rfl, by decide +kernel, by decide +kernel⟩
abbrev s_left_by : Stmt := topS 35
abbrev n_left_by : List Str := ["many", "dance", "stay"]
theorem sc_left_by : FnScope n_left_by ["many", "dance", "stay"] (defScope s_left_by) := ⟨rfl, rfl, rfl, by decide +kernel, rfl, by decide +kernel, by decide +kernel⟩
abbrev s_is_loose_in : Stmt := topS 36
abbrev n_is_loose_in : List Str := ["many", "dance", "stay"]
theorem sc_is_loose_in : FnScope n_is_loose_in ["many", "dance", "stay"] (defScope s_is_loose_in) := ⟨rfl, rfl, rfl, by decide +kernel, rfl, by decide +kernel, by decide +kernel⟩
abbrev s_all_lots : Stmt := topS 37
abbrev n_all_lots : List Str := ["many", "found", "dancer", "lot", "size"]
theorem sc_all_lots : FnScope n_all_lots ["many"] (defScope s_all_lots) := ⟨rfl, rfl, rfl, by decide +kernel, rfl, by decide +kernel, by decide +kernel⟩
abbrev s_without : Stmt := topS 38
abbrev n_without : List Str := ["lot", "dancer", "other"]
theorem sc_without : FnScope n_without ["lot", "dancer"] (defScope s_without) := ⟨rfl, rfl, rfl, by decide +kernel, rfl, by decide +kernel, by decide +kernel⟩
abbrev s_loose_lots : Stmt := topS 39
abbrev n_loose_lots : List Str := ["many", "dance", "lot"]
theorem sc_loose_lots : FnScope n_loose_lots ["many", "dance"] (defScope s_loose_lots) := ⟨rfl, rfl, rfl, by decide +kernel, rfl, by decide +kernel, by decide +kernel⟩
abbrev s_tangles_of : Stmt := topS 40
abbrev n_tangles_of : List Str := ["many", "dance", "loose", "found", "lot", "dancer"]
theorem sc_tangles_of : FnScope n_tangles_of ["many", "dance"] (defScope s_tangles_of) := ⟨rfl, rfl, rfl, by decide +kernel, rfl, by decide +kernel, by decide +kernel⟩
abbrev s_tangles : Stmt := topS 41
abbrev n_tangles : List Str := ["many", "dance"]
theorem sc_tangles : FnScope n_tangles ["many", "dance"] (defScope s_tangles) := ⟨rfl, rfl, rfl, by decide +kernel, rfl, by decide +kernel, by decide +kernel⟩
abbrev s_least_leavings : Stmt := topS 42
abbrev n_least_leavings : List Str := ["many", "dance", "loose", "found", "lot", "stay", "dancer", "fewer"]
theorem sc_least_leavings : FnScope n_least_leavings ["many", "dance"] (defScope s_least_leavings) := ⟨rfl, rfl, rfl, by decide +kernel, rfl, by decide +kernel, by decide +kernel⟩
abbrev s_is_woven : Stmt := topS 43
abbrev n_is_woven : List Str := ["many", "dance"]
theorem sc_is_woven : FnScope n_is_woven ["many", "dance"] (defScope s_is_woven) := ⟨rfl, rfl, rfl, by decide +kernel, rfl, by decide +kernel, by decide +kernel⟩
abbrev s_pairs_of : Stmt := topS 45
abbrev n_pairs_of : List Str := ["many", "one", "other"]
theorem sc_pairs_of : FnScope n_pairs_of ["many"] (defScope s_pairs_of) := ⟨rfl, rfl, rfl, by decide +kernel, rfl, by decide +kernel, by decide +kernel⟩
abbrev s_swapped : Stmt := topS 46
abbrev n_swapped : List Str := ["order", "at"]
theorem sc_swapped : FnScope n_swapped ["order", "at"] (defScope s_swapped) := ⟨rfl, rfl, rfl, by decide +kernel, rfl, by decide +kernel, by decide +kernel⟩
abbrev s_pair_at : Stmt := topS 47
abbrev n_pair_at : List Str := ["order", "at"]
theorem sc_pair_at : FnScope n_pair_at ["order", "at"] (defScope s_pair_at) := ⟨rfl, rfl, rfl, by decide +kernel, rfl, by decide +kernel, by decide +kernel⟩
abbrev s_met : Stmt := topS 48
abbrev n_met : List Str := ["many", "dance", "order", "found", "step"]
theorem sc_met : FnScope n_met ["many", "dance"] (defScope s_met) := ⟨rfl, rfl, rfl, by decide +kernel, rfl, by decide +kernel, by decide +kernel⟩
abbrev s_meetings : Stmt := topS 49
abbrev n_meetings : List Str := ["many", "dance", "pair", "found", "is_forward"]
theorem sc_meetings : FnScope n_meetings ["many", "dance"] (defScope s_meetings) := ⟨rfl, rfl, rfl, by decide +kernel, rfl, by decide +kernel, by decide +kernel⟩
abbrev s__law_begun : Stmt := topS 51
abbrev n__law_begun : List Str := ["_law_script", "_law_large", "_law_grain"]
theorem sc__law_begun : FnScope n__law_begun ["_law_script"] (defScope s__law_begun) := ⟨rfl, rfl, rfl, by decide +kernel, rfl, by decide +kernel, by decide +kernel⟩
abbrev s__law_mixed : Stmt := topS 52
abbrev n__law_mixed : List Str := ["_law_draw", "_law_turn", "_law_found", "_law_great", "_law_blend", "_law_grain"]
theorem sc__law_mixed : FnScope n__law_mixed ["_law_draw"] (defScope s__law_mixed) := ⟨rfl, rfl, rfl, by decide +kernel, rfl, by decide +kernel, by decide +kernel⟩
abbrev s__law_take : Stmt := topS 53
abbrev n__law_take : List Str := ["_law_draw", "_law_amount", "_law_found"]
theorem sc__law_take : FnScope n__law_take ["_law_draw", "_law_amount"] (defScope s__law_take) := ⟨rfl, rfl, rfl, by decide +kernel, rfl, by decide +kernel, by decide +kernel⟩
abbrev s__law_pick : Stmt := topS 54
abbrev n__law_pick : List Str := ["_law_draw", "_law_some_here"]
theorem sc__law_pick : FnScope n__law_pick ["_law_draw", "_law_some_here"] (defScope s__law_pick) := ⟨rfl, rfl, rfl, by decide +kernel, rfl, by decide +kernel, by decide +kernel⟩
abbrev s__law_dance : Stmt := topS 55
abbrev n__law_dance : List Str := ["_law_draw", "_law_many", "_law_most", "_law_found", "_law_turn", "_law_step_here"]
theorem sc__law_dance : FnScope n__law_dance ["_law_draw", "_law_many", "_law_most"] (defScope s__law_dance) := ⟨rfl, rfl, rfl, by decide +kernel, rfl, by decide +kernel, by decide +kernel⟩
abbrev s__law_turn_back : Stmt := topS 56
abbrev n__law_turn_back : List Str := ["_law_dance_here", "_law_step_here"]
theorem sc__law_turn_back : FnScope n__law_turn_back ["_law_dance_here"] (defScope s__law_turn_back) := ⟨rfl, rfl, rfl, by decide +kernel, rfl, by decide +kernel, by decide +kernel⟩
abbrev s__law_left : Stmt := topS 57
abbrev n__law_left : List Str := ["_law_many", "_law_dance_here", "_law_stay_here", "_law_line", "_law_found", "_law_step_here", "_law_k", "_law_spot", "_law_each"]
theorem sc__law_left : FnScope n__law_left ["_law_many", "_law_dance_here", "_law_stay_here"] (defScope s__law_left) := ⟨rfl, rfl, rfl, by decide +kernel, rfl, by decide +kernel, by decide +kernel⟩
abbrev s__law_lots : Stmt := topS 58
abbrev n__law_lots : List Str := ["_law_many", "_law_found", "_law_each", "_law_lot_here", "_law_size"]
theorem sc__law_lots : FnScope n__law_lots ["_law_many"] (defScope s__law_lots) := ⟨rfl, rfl, rfl, by decide +kernel, rfl, by decide +kernel, by decide +kernel⟩
abbrev s__law_some : Stmt := topS 59
abbrev n__law_some : List Str := ["_law_draw", "_law_many", "_law_one", "_law_other", "_law_twice", "_law_first", "_law_second", "_law_crossed"]
theorem sc__law_some : FnScope n__law_some ["_law_draw", "_law_many"] (defScope s__law_some) := ⟨rfl, rfl, rfl, by decide +kernel, rfl, by decide +kernel, by decide +kernel⟩
abbrev s__law_where : Stmt := topS 60
abbrev n__law_where : List Str := ["_law_line", "_law_lot_here", "_law_place", "_law_each"]
theorem sc__law_where : FnScope n__law_where ["_law_line", "_law_lot_here"] (defScope s__law_where) := ⟨rfl, rfl, rfl, by decide +kernel, rfl, by decide +kernel, by decide +kernel⟩
abbrev s__law_sorted_lots : Stmt := topS 61
abbrev n__law_sorted_lots : List Str := ["_law_lots_here", "_law_lot_here", "_law_size"]
theorem sc__law_sorted_lots : FnScope n__law_sorted_lots ["_law_lots_here"] (defScope s__law_sorted_lots) := ⟨rfl, rfl, rfl, by decide +kernel, rfl, by decide +kernel, by decide +kernel⟩
abbrev s__law_sides_right : Stmt := topS 62
abbrev n__law_sides_right : List Str := ["_law_many", "_law_dance_here", "_law_lot_here", "_law_due", "_law_size", "_law_there", "_law_back_here", "_law_each"]
theorem sc__law_sides_right : FnScope n__law_sides_right ["_law_many", "_law_dance_here", "_law_lot_here"] (defScope s__law_sides_right) := ⟨rfl, rfl, rfl, by decide +kernel, rfl, by decide +kernel, by decide +kernel⟩
abbrev s__law_numbers_right : Stmt := topS 63
abbrev n__law_numbers_right : List Str := ["_law_many", "_law_dance_here", "_law_lot_here", "_law_other", "_law_due", "_law_line", "_law_near", "_law_far", "_law_k", "_law_first", "_law_second", "_law_out", "_law_fewer", "_law_spots", "_law_each"]
theorem sc__law_numbers_right : FnScope n__law_numbers_right ["_law_many", "_law_dance_here", "_law_lot_here", "_law_other"] (defScope s__law_numbers_right) := ⟨rfl, rfl, rfl, by decide +kernel, rfl, by decide +kernel, by decide +kernel⟩
abbrev s__law_tangles_right : Stmt := topS 64
abbrev n__law_tangles_right : List Str := ["_law_many", "_law_dance_here", "_law_knots", "_law_gone", "_law_line", "_law_told", "_law_own", "_law_lot_here", "_law_due", "_law_each", "_law_knot"]
theorem sc__law_tangles_right : FnScope n__law_tangles_right ["_law_many", "_law_dance_here"] (defScope s__law_tangles_right) := ⟨rfl, rfl, rfl, by decide +kernel, rfl, by decide +kernel, by decide +kernel⟩
abbrev s_law : Stmt := topS 65
abbrev n_law : List Str := ["_law_script", "_law_draw", "_law_turn", "_law_many", "_law_dance_here", "_law_other", "_law_lap", "_law_lot_here", "_law_each"]
theorem sc_law : FnScope n_law ["_law_script"] (defScope s_law) := ⟨rfl, rfl, rfl, by decide +kernel, rfl, by decide +kernel, by decide +kernel⟩
/-- what the top has left -/
structure Txt (K : PySem.W.Frag) (mg : Str → Option Value) where
  f_is_number : Addr
  d_is_number : FuncData
  h_is_number : Fun K "is_number" "is_number" s_is_number f_is_number d_is_number
  g_is_number : mg "is_number" = some (.ref f_is_number)
  f_is_between : Addr
  d_is_between : FuncData
  h_is_between : Fun K "is_between" "is_between" s_is_between f_is_between d_is_between
  g_is_between : mg "is_between" = some (.ref f_is_between)
  f_is_step : Addr
  d_is_step : FuncData
  h_is_step : Fun K "is_step" "is_step" s_is_step f_is_step d_is_step
  g_is_step : mg "is_step" = some (.ref f_is_step)
  f_is_dance : Addr
  d_is_dance : FuncData
  h_is_dance : Fun K "is_dance" "is_dance" s_is_dance f_is_dance d_is_dance
  g_is_dance : mg "is_dance" = some (.ref f_is_dance)
  f_need_many : Addr
  d_need_many : FuncData
  h_need_many : Fun K "need_many" "need_many" s_need_many f_need_many d_need_many
  g_need_many : mg "need_many" = some (.ref f_need_many)
  f_need_dance : Addr
  d_need_dance : FuncData
  h_need_dance : Fun K "need_dance" "need_dance" s_need_dance f_need_dance d_need_dance
  g_need_dance : mg "need_dance" = some (.ref f_need_dance)
  f_need_one : Addr
  d_need_one : FuncData
  h_need_one : Fun K "need_one" "need_one" s_need_one f_need_one d_need_one
  g_need_one : mg "need_one" = some (.ref f_need_one)
  f_order_of : Addr
  d_order_of : FuncData
  h_order_of : Fun K "order_of" "order_of" s_order_of f_order_of d_order_of
  g_order_of : mg "order_of" = some (.ref f_order_of)
  f_undone_of : Addr
  d_undone_of : FuncData
  h_undone_of : Fun K "undone_of" "undone_of" s_undone_of f_undone_of d_undone_of
  g_undone_of : mg "undone_of" = some (.ref f_undone_of)
  f_leads_of : Addr
  d_leads_of : FuncData
  h_leads_of : Fun K "leads_of" "leads_of" s_leads_of f_leads_of d_leads_of
  g_leads_of : mg "leads_of" = some (.ref f_leads_of)
  f_end_order : Addr
  d_end_order : FuncData
  h_end_order : Fun K "end_order" "end_order" s_end_order f_end_order d_end_order
  g_end_order : mg "end_order" = some (.ref f_end_order)
  f_leads : Addr
  d_leads : FuncData
  h_leads : Fun K "leads" "leads" s_leads f_leads d_leads
  g_leads : mg "leads" = some (.ref f_leads)
  f_undone : Addr
  d_undone : FuncData
  h_undone : Fun K "undone" "undone" s_undone f_undone d_undone
  g_undone : mg "undone" = some (.ref f_undone)
  f_mirrored : Addr
  d_mirrored : FuncData
  h_mirrored : Fun K "mirrored" "mirrored" s_mirrored f_mirrored d_mirrored
  g_mirrored : mg "mirrored" = some (.ref f_mirrored)
  f_turned_about : Addr
  d_turned_about : FuncData
  h_turned_about : Fun K "turned_about" "turned_about" s_turned_about f_turned_about d_turned_about
  g_turned_about : mg "turned_about" = some (.ref f_turned_about)
  f_most_nought : Addr
  d_most_nought : FuncData
  h_most_nought : Fun K "most_nought" "most_nought" s_most_nought f_most_nought d_most_nought
  g_most_nought : mg "most_nought" = some (.ref f_most_nought)
  f_least_nought : Addr
  d_least_nought : FuncData
  h_least_nought : Fun K "least_nought" "least_nought" s_least_nought f_least_nought d_least_nought
  g_least_nought : mg "least_nought" = some (.ref f_least_nought)
  f_forward_four : Addr
  d_forward_four : FuncData
  h_forward_four : Fun K "forward_four" "forward_four" s_forward_four f_forward_four d_forward_four
  g_forward_four : mg "forward_four" = some (.ref f_forward_four)
  f_backward_four : Addr
  d_backward_four : FuncData
  h_backward_four : Fun K "backward_four" "backward_four" s_backward_four f_backward_four d_backward_four
  g_backward_four : mg "backward_four" = some (.ref f_backward_four)
  f_step_numbers : Addr
  d_step_numbers : FuncData
  h_step_numbers : Fun K "step_numbers" "step_numbers" s_step_numbers f_step_numbers d_step_numbers
  g_step_numbers : mg "step_numbers" = some (.ref f_step_numbers)
  f_all_led : Addr
  d_all_led : FuncData
  h_all_led : Fun K "all_led" "all_led" s_all_led f_all_led d_all_led
  g_all_led : mg "all_led" = some (.ref f_all_led)
  f_numbers_in : Addr
  d_numbers_in : FuncData
  h_numbers_in : Fun K "numbers_in" "numbers_in" s_numbers_in f_numbers_in d_numbers_in
  g_numbers_in : mg "numbers_in" = some (.ref f_numbers_in)
  f_is_alike : Addr
  d_is_alike : FuncData
  h_is_alike : Fun K "is_alike" "is_alike" s_is_alike f_is_alike d_is_alike
  g_is_alike : mg "is_alike" = some (.ref f_is_alike)
  f_left_of : Addr
  d_left_of : FuncData
  h_left_of : Fun K "left_of" "left_of" s_left_of f_left_of d_left_of
  g_left_of : mg "left_of" = some (.ref f_left_of)
  f_is_lot : Addr
  d_is_lot : FuncData
  h_is_lot : Fun K "is_lot" "is_lot" s_is_lot f_is_lot d_is_lot
  g_is_lot : mg "is_lot" = some (.ref f_is_lot)
  f_left_by : Addr
  d_left_by : FuncData
  h_left_by : Fun K "left_by" "left_by" s_left_by f_left_by d_left_by
  g_left_by : mg "left_by" = some (.ref f_left_by)
  f_is_loose_in : Addr
  d_is_loose_in : FuncData
  h_is_loose_in : Fun K "is_loose_in" "is_loose_in" s_is_loose_in f_is_loose_in d_is_loose_in
  g_is_loose_in : mg "is_loose_in" = some (.ref f_is_loose_in)
  f_all_lots : Addr
  d_all_lots : FuncData
  h_all_lots : Fun K "all_lots" "all_lots" s_all_lots f_all_lots d_all_lots
  g_all_lots : mg "all_lots" = some (.ref f_all_lots)
  f_without : Addr
  d_without : FuncData
  h_without : Fun K "without" "without" s_without f_without d_without
  g_without : mg "without" = some (.ref f_without)
  f_loose_lots : Addr
  d_loose_lots : FuncData
  h_loose_lots : Fun K "loose_lots" "loose_lots" s_loose_lots f_loose_lots d_loose_lots
  g_loose_lots : mg "loose_lots" = some (.ref f_loose_lots)
  f_tangles_of : Addr
  d_tangles_of : FuncData
  h_tangles_of : Fun K "tangles_of" "tangles_of" s_tangles_of f_tangles_of d_tangles_of
  g_tangles_of : mg "tangles_of" = some (.ref f_tangles_of)
  f_tangles : Addr
  d_tangles : FuncData
  h_tangles : Fun K "tangles" "tangles" s_tangles f_tangles d_tangles
  g_tangles : mg "tangles" = some (.ref f_tangles)
  f_least_leavings : Addr
  d_least_leavings : FuncData
  h_least_leavings : Fun K "least_leavings" "least_leavings" s_least_leavings f_least_leavings d_least_leavings
  g_least_leavings : mg "least_leavings" = some (.ref f_least_leavings)
  f_is_woven : Addr
  d_is_woven : FuncData
  h_is_woven : Fun K "is_woven" "is_woven" s_is_woven f_is_woven d_is_woven
  g_is_woven : mg "is_woven" = some (.ref f_is_woven)
  f_pairs_of : Addr
  d_pairs_of : FuncData
  h_pairs_of : Fun K "pairs_of" "pairs_of" s_pairs_of f_pairs_of d_pairs_of
  g_pairs_of : mg "pairs_of" = some (.ref f_pairs_of)
  f_swapped : Addr
  d_swapped : FuncData
  h_swapped : Fun K "swapped" "swapped" s_swapped f_swapped d_swapped
  g_swapped : mg "swapped" = some (.ref f_swapped)
  f_pair_at : Addr
  d_pair_at : FuncData
  h_pair_at : Fun K "pair_at" "pair_at" s_pair_at f_pair_at d_pair_at
  g_pair_at : mg "pair_at" = some (.ref f_pair_at)
  f_met : Addr
  d_met : FuncData
  h_met : Fun K "met" "met" s_met f_met d_met
  g_met : mg "met" = some (.ref f_met)
  f_meetings : Addr
  d_meetings : FuncData
  h_meetings : Fun K "meetings" "meetings" s_meetings f_meetings d_meetings
  g_meetings : mg "meetings" = some (.ref f_meetings)
  f__law_begun : Addr
  d__law_begun : FuncData
  h__law_begun : Fun K "_law_begun" "_law_begun" s__law_begun f__law_begun d__law_begun
  g__law_begun : mg "_law_begun" = some (.ref f__law_begun)
  f__law_mixed : Addr
  d__law_mixed : FuncData
  h__law_mixed : Fun K "_law_mixed" "_law_mixed" s__law_mixed f__law_mixed d__law_mixed
  g__law_mixed : mg "_law_mixed" = some (.ref f__law_mixed)
  f__law_take : Addr
  d__law_take : FuncData
  h__law_take : Fun K "_law_take" "_law_take" s__law_take f__law_take d__law_take
  g__law_take : mg "_law_take" = some (.ref f__law_take)
  f__law_pick : Addr
  d__law_pick : FuncData
  h__law_pick : Fun K "_law_pick" "_law_pick" s__law_pick f__law_pick d__law_pick
  g__law_pick : mg "_law_pick" = some (.ref f__law_pick)
  f__law_dance : Addr
  d__law_dance : FuncData
  h__law_dance : Fun K "_law_dance" "_law_dance" s__law_dance f__law_dance d__law_dance
  g__law_dance : mg "_law_dance" = some (.ref f__law_dance)
  f__law_turn_back : Addr
  d__law_turn_back : FuncData
  h__law_turn_back : Fun K "_law_turn_back" "_law_turn_back" s__law_turn_back f__law_turn_back d__law_turn_back
  g__law_turn_back : mg "_law_turn_back" = some (.ref f__law_turn_back)
  f__law_left : Addr
  d__law_left : FuncData
  h__law_left : Fun K "_law_left" "_law_left" s__law_left f__law_left d__law_left
  g__law_left : mg "_law_left" = some (.ref f__law_left)
  f__law_lots : Addr
  d__law_lots : FuncData
  h__law_lots : Fun K "_law_lots" "_law_lots" s__law_lots f__law_lots d__law_lots
  g__law_lots : mg "_law_lots" = some (.ref f__law_lots)
  f__law_some : Addr
  d__law_some : FuncData
  h__law_some : Fun K "_law_some" "_law_some" s__law_some f__law_some d__law_some
  g__law_some : mg "_law_some" = some (.ref f__law_some)
  f__law_where : Addr
  d__law_where : FuncData
  h__law_where : Fun K "_law_where" "_law_where" s__law_where f__law_where d__law_where
  g__law_where : mg "_law_where" = some (.ref f__law_where)
  f__law_sorted_lots : Addr
  d__law_sorted_lots : FuncData
  h__law_sorted_lots : Fun K "_law_sorted_lots" "_law_sorted_lots" s__law_sorted_lots f__law_sorted_lots d__law_sorted_lots
  g__law_sorted_lots : mg "_law_sorted_lots" = some (.ref f__law_sorted_lots)
  f__law_sides_right : Addr
  d__law_sides_right : FuncData
  h__law_sides_right : Fun K "_law_sides_right" "_law_sides_right" s__law_sides_right f__law_sides_right d__law_sides_right
  g__law_sides_right : mg "_law_sides_right" = some (.ref f__law_sides_right)
  f__law_numbers_right : Addr
  d__law_numbers_right : FuncData
  h__law_numbers_right : Fun K "_law_numbers_right" "_law_numbers_right" s__law_numbers_right f__law_numbers_right d__law_numbers_right
  g__law_numbers_right : mg "_law_numbers_right" = some (.ref f__law_numbers_right)
  f__law_tangles_right : Addr
  d__law_tangles_right : FuncData
  h__law_tangles_right : Fun K "_law_tangles_right" "_law_tangles_right" s__law_tangles_right f__law_tangles_right d__law_tangles_right
  g__law_tangles_right : mg "_law_tangles_right" = some (.ref f__law_tangles_right)
  f_law : Addr
  d_law : FuncData
  h_law : Fun K "law" "law" s_law f_law d_law
  g_law : mg "law" = some (.ref f_law)
  c_LEAST : ∃ t, mg "LEAST" = some (.int 2 t)
  c_MOST : ∃ t, mg "MOST" = some (.int 5 t)
  b_isinstance : mg "isinstance" = none
  b_int : mg "int" = none
  b_bool : mg "bool" = none
  b_tuple : mg "tuple" = none
  b_list : mg "list" = none
  b_len : mg "len" = none
  b_abs : mg "abs" = none
  b_range : mg "range" = none
  b_min : mg "min" = none
  b_max : mg "max" = none
  b_sum : mg "sum" = none
  b_all : mg "all" = none
  b_any : mg "any" = none
  b_sorted : mg "sorted" = none
  b_set : mg "set" = none
  b_zip : mg "zip" = none
  b_enumerate : mg "enumerate" = none
  b_dict : mg "dict" = none
  b_str : mg "str" = none
  b_reversed : mg "reversed" = none
section
variable {K : PySem.W.Frag} {mg : Str → Option Value} (T : Txt K mg)
theorem Txt.bd_is_number : Binds K T.d_is_number ["thing"] [] := T.h_is_number.binds (ps := ["thing"]) fun _ _ _ _ _ _ us hl => match us, hl with | [_], _ => rfl
theorem Txt.bd_is_between : Binds K T.d_is_between ["thing", "least", "most"] [] := T.h_is_between.binds (ps := ["thing", "least", "most"]) fun _ _ _ _ _ _ us hl => match us, hl with | [_, _, _], _ => rfl
theorem Txt.bd_is_step : Binds K T.d_is_step ["many", "thing"] [] := T.h_is_step.binds (ps := ["many", "thing"]) fun _ _ _ _ _ _ us hl => match us, hl with | [_, _], _ => rfl
theorem Txt.bd_is_dance : Binds K T.d_is_dance ["many", "thing"] [] := T.h_is_dance.binds (ps := ["many", "thing"]) fun _ _ _ _ _ _ us hl => match us, hl with | [_, _], _ => rfl
theorem Txt.bd_need_many : Binds K T.d_need_many ["many"] [] := T.h_need_many.binds (ps := ["many"]) fun _ _ _ _ _ _ us hl => match us, hl with | [_], _ => rfl
theorem Txt.bd_need_dance : Binds K T.d_need_dance ["many", "dance", "part"] [] := T.h_need_dance.binds (ps := ["many", "dance", "part"]) fun _ _ _ _ _ _ us hl => match us, hl with | [_, _, _], _ => rfl
theorem Txt.bd_need_one : Binds K T.d_need_one ["many", "dance"] [] := T.h_need_one.binds (ps := ["many", "dance"]) fun _ _ _ _ _ _ us hl => match us, hl with | [_, _], _ => rfl
theorem Txt.bd_order_of : Binds K T.d_order_of ["many", "dance"] [] := T.h_order_of.binds (ps := ["many", "dance"]) fun _ _ _ _ _ _ us hl => match us, hl with | [_, _], _ => rfl
theorem Txt.bd_undone_of : Binds K T.d_undone_of ["dance"] [] := T.h_undone_of.binds (ps := ["dance"]) fun _ _ _ _ _ _ us hl => match us, hl with | [_], _ => rfl
theorem Txt.bd_leads_of : Binds K T.d_leads_of ["many", "dance"] [] := T.h_leads_of.binds (ps := ["many", "dance"]) fun _ _ _ _ _ _ us hl => match us, hl with | [_, _], _ => rfl
theorem Txt.bd_end_order : Binds K T.d_end_order ["many", "dance"] [] := T.h_end_order.binds (ps := ["many", "dance"]) fun _ _ _ _ _ _ us hl => match us, hl with | [_, _], _ => rfl
theorem Txt.bd_leads : Binds K T.d_leads ["many", "dance"] [] := T.h_leads.binds (ps := ["many", "dance"]) fun _ _ _ _ _ _ us hl => match us, hl with | [_, _], _ => rfl
theorem Txt.bd_undone : Binds K T.d_undone ["many", "dance"] [] := T.h_undone.binds (ps := ["many", "dance"]) fun _ _ _ _ _ _ us hl => match us, hl with | [_, _], _ => rfl
theorem Txt.bd_mirrored : Binds K T.d_mirrored ["many", "dance"] [] := T.h_mirrored.binds (ps := ["many", "dance"]) fun _ _ _ _ _ _ us hl => match us, hl with | [_, _], _ => rfl
theorem Txt.bd_turned_about : Binds K T.d_turned_about ["many", "dance"] [] := T.h_turned_about.binds (ps := ["many", "dance"]) fun _ _ _ _ _ _ us hl => match us, hl with | [_, _], _ => rfl
theorem Txt.bd_most_nought : Binds K T.d_most_nought ["number"] [] := T.h_most_nought.binds (ps := ["number"]) fun _ _ _ _ _ _ us hl => match us, hl with | [_], _ => rfl
theorem Txt.bd_least_nought : Binds K T.d_least_nought ["number"] [] := T.h_least_nought.binds (ps := ["number"]) fun _ _ _ _ _ _ us hl => match us, hl with | [_], _ => rfl
theorem Txt.bd_forward_four : Binds K T.d_forward_four ["p", "q", "r", "s"] [] := T.h_forward_four.binds (ps := ["p", "q", "r", "s"]) fun _ _ _ _ _ _ us hl => match us, hl with | [_, _, _, _], _ => rfl
theorem Txt.bd_backward_four : Binds K T.d_backward_four ["p", "q", "r", "s"] [] := T.h_backward_four.binds (ps := ["p", "q", "r", "s"]) fun _ _ _ _ _ _ us hl => match us, hl with | [_, _, _, _], _ => rfl
theorem Txt.bd_step_numbers : Binds K T.d_step_numbers ["numbers", "step"] [] := T.h_step_numbers.binds (ps := ["numbers", "step"]) fun _ _ _ _ _ _ us hl => match us, hl with | [_, _], _ => rfl
theorem Txt.bd_all_led : Binds K T.d_all_led ["numbers", "dance"] [] := T.h_all_led.binds (ps := ["numbers", "dance"]) fun _ _ _ _ _ _ us hl => match us, hl with | [_, _], _ => rfl
theorem Txt.bd_numbers_in : Binds K T.d_numbers_in ["many", "dance"] [] := T.h_numbers_in.binds (ps := ["many", "dance"]) fun _ _ _ _ _ _ us hl => match us, hl with | [_, _], _ => rfl
theorem Txt.bd_is_alike : Binds K T.d_is_alike ["many", "one", "other"] [] := T.h_is_alike.binds (ps := ["many", "one", "other"]) fun _ _ _ _ _ _ us hl => match us, hl with | [_, _, _], _ => rfl
theorem Txt.bd_left_of : Binds K T.d_left_of ["many", "dance", "stay"] [] := T.h_left_of.binds (ps := ["many", "dance", "stay"]) fun _ _ _ _ _ _ us hl => match us, hl with | [_, _, _], _ => rfl
theorem Txt.bd_is_lot : Binds K T.d_is_lot ["many", "thing", "least"] [] := T.h_is_lot.binds (ps := ["many", "thing", "least"]) fun _ _ _ _ _ _ us hl => match us, hl with | [_, _, _], _ => rfl
theorem Txt.bd_left_by : Binds K T.d_left_by ["many", "dance", "stay"] [] := T.h_left_by.binds (ps := ["many", "dance", "stay"]) fun _ _ _ _ _ _ us hl => match us, hl with | [_, _, _], _ => rfl
theorem Txt.bd_is_loose_in : Binds K T.d_is_loose_in ["many", "dance", "stay"] [] := T.h_is_loose_in.binds (ps := ["many", "dance", "stay"]) fun _ _ _ _ _ _ us hl => match us, hl with | [_, _, _], _ => rfl
theorem Txt.bd_all_lots : Binds K T.d_all_lots ["many"] [] := T.h_all_lots.binds (ps := ["many"]) fun _ _ _ _ _ _ us hl => match us, hl with | [_], _ => rfl
theorem Txt.bd_without : Binds K T.d_without ["lot", "dancer"] [] := T.h_without.binds (ps := ["lot", "dancer"]) fun _ _ _ _ _ _ us hl => match us, hl with | [_, _], _ => rfl
theorem Txt.bd_loose_lots : Binds K T.d_loose_lots ["many", "dance"] [] := T.h_loose_lots.binds (ps := ["many", "dance"]) fun _ _ _ _ _ _ us hl => match us, hl with | [_, _], _ => rfl
theorem Txt.bd_tangles_of : Binds K T.d_tangles_of ["many", "dance"] [] := T.h_tangles_of.binds (ps := ["many", "dance"]) fun _ _ _ _ _ _ us hl => match us, hl with | [_, _], _ => rfl
theorem Txt.bd_tangles : Binds K T.d_tangles ["many", "dance"] [] := T.h_tangles.binds (ps := ["many", "dance"]) fun _ _ _ _ _ _ us hl => match us, hl with | [_, _], _ => rfl
theorem Txt.bd_least_leavings : Binds K T.d_least_leavings ["many", "dance"] [] := T.h_least_leavings.binds (ps := ["many", "dance"]) fun _ _ _ _ _ _ us hl => match us, hl with | [_, _], _ => rfl
theorem Txt.bd_is_woven : Binds K T.d_is_woven ["many", "dance"] [] := T.h_is_woven.binds (ps := ["many", "dance"]) fun _ _ _ _ _ _ us hl => match us, hl with | [_, _], _ => rfl
theorem Txt.bd_pairs_of : Binds K T.d_pairs_of ["many"] [] := T.h_pairs_of.binds (ps := ["many"]) fun _ _ _ _ _ _ us hl => match us, hl with | [_], _ => rfl
theorem Txt.bd_swapped : Binds K T.d_swapped ["order", "at"] [] := T.h_swapped.binds (ps := ["order", "at"]) fun _ _ _ _ _ _ us hl => match us, hl with | [_, _], _ => rfl
theorem Txt.bd_pair_at : Binds K T.d_pair_at ["order", "at"] [] := T.h_pair_at.binds (ps := ["order", "at"]) fun _ _ _ _ _ _ us hl => match us, hl with | [_, _], _ => rfl
theorem Txt.bd_met : Binds K T.d_met ["many", "dance"] [] := T.h_met.binds (ps := ["many", "dance"]) fun _ _ _ _ _ _ us hl => match us, hl with | [_, _], _ => rfl
theorem Txt.bd_meetings : Binds K T.d_meetings ["many", "dance"] [] := T.h_meetings.binds (ps := ["many", "dance"]) fun _ _ _ _ _ _ us hl => match us, hl with | [_, _], _ => rfl
theorem Txt.bd__law_begun : Binds K T.d__law_begun ["_law_script"] [] := T.h__law_begun.binds (ps := ["_law_script"]) fun _ _ _ _ _ _ us hl => match us, hl with | [_], _ => rfl
theorem Txt.bd__law_mixed : Binds K T.d__law_mixed ["_law_draw"] [] := T.h__law_mixed.binds (ps := ["_law_draw"]) fun _ _ _ _ _ _ us hl => match us, hl with | [_], _ => rfl
theorem Txt.bd__law_take : Binds K T.d__law_take ["_law_draw", "_law_amount"] [] := T.h__law_take.binds (ps := ["_law_draw", "_law_amount"]) fun _ _ _ _ _ _ us hl => match us, hl with | [_, _], _ => rfl
theorem Txt.bd__law_pick : Binds K T.d__law_pick ["_law_draw", "_law_some_here"] [] := T.h__law_pick.binds (ps := ["_law_draw", "_law_some_here"]) fun _ _ _ _ _ _ us hl => match us, hl with | [_, _], _ => rfl
theorem Txt.bd__law_dance : Binds K T.d__law_dance ["_law_draw", "_law_many", "_law_most"] [] := T.h__law_dance.binds (ps := ["_law_draw", "_law_many", "_law_most"]) fun _ _ _ _ _ _ us hl => match us, hl with | [_, _, _], _ => rfl
theorem Txt.bd__law_turn_back : Binds K T.d__law_turn_back ["_law_dance_here"] [] := T.h__law_turn_back.binds (ps := ["_law_dance_here"]) fun _ _ _ _ _ _ us hl => match us, hl with | [_], _ => rfl
theorem Txt.bd__law_left : Binds K T.d__law_left ["_law_many", "_law_dance_here", "_law_stay_here"] [] := T.h__law_left.binds (ps := ["_law_many", "_law_dance_here", "_law_stay_here"]) fun _ _ _ _ _ _ us hl => match us, hl with | [_, _, _], _ => rfl
theorem Txt.bd__law_lots : Binds K T.d__law_lots ["_law_many"] [] := T.h__law_lots.binds (ps := ["_law_many"]) fun _ _ _ _ _ _ us hl => match us, hl with | [_], _ => rfl
theorem Txt.bd__law_some : Binds K T.d__law_some ["_law_draw", "_law_many"] [] := T.h__law_some.binds (ps := ["_law_draw", "_law_many"]) fun _ _ _ _ _ _ us hl => match us, hl with | [_, _], _ => rfl
theorem Txt.bd__law_where : Binds K T.d__law_where ["_law_line", "_law_lot_here"] [] := T.h__law_where.binds (ps := ["_law_line", "_law_lot_here"]) fun _ _ _ _ _ _ us hl => match us, hl with | [_, _], _ => rfl
theorem Txt.bd__law_sorted_lots : Binds K T.d__law_sorted_lots ["_law_lots_here"] [] := T.h__law_sorted_lots.binds (ps := ["_law_lots_here"]) fun _ _ _ _ _ _ us hl => match us, hl with | [_], _ => rfl
theorem Txt.bd__law_sides_right : Binds K T.d__law_sides_right ["_law_many", "_law_dance_here", "_law_lot_here"] [] := T.h__law_sides_right.binds (ps := ["_law_many", "_law_dance_here", "_law_lot_here"]) fun _ _ _ _ _ _ us hl => match us, hl with | [_, _, _], _ => rfl
theorem Txt.bd__law_numbers_right : Binds K T.d__law_numbers_right ["_law_many", "_law_dance_here", "_law_lot_here", "_law_other"] [] := T.h__law_numbers_right.binds (ps := ["_law_many", "_law_dance_here", "_law_lot_here", "_law_other"]) fun _ _ _ _ _ _ us hl => match us, hl with | [_, _, _, _], _ => rfl
theorem Txt.bd__law_tangles_right : Binds K T.d__law_tangles_right ["_law_many", "_law_dance_here"] [] := T.h__law_tangles_right.binds (ps := ["_law_many", "_law_dance_here"]) fun _ _ _ _ _ _ us hl => match us, hl with | [_, _], _ => rfl
theorem Txt.bd_law : Binds K T.d_law ["_law_script"] [] := T.h_law.binds (ps := ["_law_script"]) fun _ _ _ _ _ _ us hl => match us, hl with | [_], _ => rfl
end
end Q95
end
section
set_option linter.all false
/-! M94: what the defs compute, in plain Lean. -/
namespace Mi
def up (n : Int) : Int := if 0 < n then n else 0
def low (n : Int) : Int := if n < 0 then n else 0
def fwd (p q r s : Int) : List Int :=
  let high := up s; let deep := low q; let z := p - deep - r + high
  [p + up q + up (high - z), s - up z, r + low s + low (deep + z), q + up z]
def bwd (p q r s : Int) : List Int :=
  let high := up s; let deep := low q; let z := p + deep - r - high
  [p - up q - up (high + z), s + low z, r - low s - low (deep - z), q - low z]
def four (st p q r s : Int) : List Int := if 0 < st then fwd p q r s else bwd p q r s
theorem four_len (st p q r s : Int) : (four st p q r s).length = 4 := by unfold four; split <;> rfl
/-- what a step makes of numbers -/
def stepN (ns : List Int) (st : Int) : List Int :=
  let b := 2 * st.natAbs - 2
  ns.take b ++ four st (ns.getD b 0) (ns.getD (b + 1) 0) (ns.getD (b + 2) 0) (ns.getD (b + 3) 0) ++ ns.drop (b + 4)
def allLed (ns : List Int) (dance : List Int) : List Int := dance.foldl stepN ns
def base0 (many : Int) : List Int := (List.replicate many.toNat [(0 : Int), 1]).flatten
def numbersIn (many : Int) (dance : List Int) : List Int := allLed (base0 many) dance
def isAlike (many : Int) (one other : List Int) : Bool := decide (numbersIn many one = numbersIn many other)
def rng (a b : Int) : List Int := (List.range (b - a).toNat).map fun (k : Nat) => a + (k : Int)
/-- two neighbours change places -/
def swp (line : List Int) (at_ : Nat) : List Int := (line.set (at_ - 1) (line.getD at_ 0)).set at_ (line.getD (at_ - 1) 0)
def leftStep (stay : List Int) (z : List Int × List Int) (st : Int) : List Int × List Int :=
  let at_ := st.natAbs
  (swp z.1 at_, if z.1.getD (at_ - 1) 0 ∈ stay ∧ z.1.getD at_ 0 ∈ stay then z.2 ++ [if 0 < st then (((z.1.take at_).filter (· ∈ stay)).length : Int) else 0 - (((z.1.take at_).filter (· ∈ stay)).length : Int)] else z.2)
def leftSt (many : Int) (dance stay : List Int) : List Int × List Int := dance.foldl (leftStep stay) (rng 0 many, [])
def leftOf (many : Int) (dance stay : List Int) : List Int := (leftSt many dance stay).2
theorem fold_take {α β : Type} (f : β → α → β) (z : β) (l : List α) {i : Nat} {x : α} (h : l[i]? = some x) : (l.take (i + 1)).foldl f z = f ((l.take i).foldl f z) x := by
  rw [List.take_add_one, h, List.foldl_append]
  rfl
theorem base_len (many : Int) : (base0 many).length = 2 * many.toNat := by
  unfold base0
  simp [List.length_flatten, Nat.mul_comm]
theorem stepN_len {ns : List Int} {st : Int} (h1 : 1 ≤ st.natAbs) (h2 : 2 * st.natAbs + 2 ≤ ns.length) : (stepN ns st).length = ns.length := by
  unfold stepN
  simp only [List.length_append, four_len, List.length_take, List.length_drop]
  omega
theorem swp_len (line : List Int) (a : Nat) : (swp line a).length = line.length := by simp [swp]
theorem rng_len (a b : Int) : (rng a b).length = (b - a).toNat := by simp [rng]
theorem leftSt_len (stay : List Int) : ∀ (dance : List Int) (z : List Int × List Int), (dance.foldl (leftStep stay) z).1.length = z.1.length
  | [], z => rfl
  | s :: d, z => by
    rw [List.foldl_cons, leftSt_len stay d]
    simp [leftStep, swp_len]
theorem leftSt_le (stay : List Int) : ∀ (dance : List Int) (z : List Int × List Int), (dance.foldl (leftStep stay) z).2.length ≤ z.2.length + dance.length
  | [], z => by simp
  | s :: d, z => by
    rw [List.foldl_cons]
    have := leftSt_le stay d (leftStep stay z s)
    have h : (leftStep stay z s).2.length ≤ z.2.length + 1 := by
      simp only [leftStep]
      split <;> simp
    simp only [List.length_cons]
    omega
end Mi
end
section
set_option Elab.async false
set_option linter.all false
set_option maxRecDepth 100000
set_option maxHeartbeats 4000000
namespace Q95
open PySem PySem.Spec PyProof.Rows L2 Mp
open Mi
section
variable {P : Program} {wl : World} {K : PySem.W.Frag} {mg : Str → Option Value} {base : Heap}
/-- a dance of so many dancers, not too long -/
def okS (many : Int) (s : Int) : Prop := 1 ≤ s.natAbs ∧ (s.natAbs : Int) < many
def okD (many : Int) (dance : List Int) : Prop := (∀ s ∈ dance, okS many s) ∧ dance.length ≤ 100000
def R_is_number : List D → D → Prop := fun ds d => ∃ i : Int, ds = [.int i] ∧ d = .bl true
def R_is_between : List D → D → Prop := fun ds d => ∃ i a b : Int, ds = [.int i, .int a, .int b] ∧ d = .bl (decide (a ≤ i) && decide (i ≤ b))
def R_is_step : List D → D → Prop := fun ds d => ∃ many s : Int, ds = [.int many, .int s] ∧ d = .bl (decide (1 ≤ (s.natAbs : Int)) && decide ((s.natAbs : Int) < many))
def R_is_dance : List D → D → Prop := fun ds d => ∃ (many : Int) (l : List Int), ds = [.int many, tI l] ∧ okD many l ∧ d = .bl true
def R_need_many : List D → D → Prop := fun ds d => ∃ many : Int, ds = [.int many] ∧ 2 ≤ many ∧ many ≤ 5 ∧ d = .non
def R_need_dance : List D → D → Prop := fun ds d => ∃ (many : Int) (l : List Int) (s : Str), ds = [.int many, tI l, .str s] ∧ okD many l ∧ d = .non
def R_need_one : List D → D → Prop := fun ds d => ∃ (many : Int) (l : List Int), ds = [.int many, tI l] ∧ 2 ≤ many ∧ many ≤ 5 ∧ okD many l ∧ d = .non
def R_need_two : List D → D → Prop := fun ds d => ∃ (many : Int) (l m : List Int), ds = [.int many, tI l, tI m] ∧ 2 ≤ many ∧ many ≤ 5 ∧ okD many l ∧ okD many m ∧ d = .non
def R_most_nought : List D → D → Prop := fun ds d => ∃ i : Int, ds = [.int i] ∧ d = .int (up i)
def R_least_nought : List D → D → Prop := fun ds d => ∃ i : Int, ds = [.int i] ∧ d = .int (low i)
def R_forward_four : List D → D → Prop := fun ds d => ∃ p q r s : Int, ds = [.int p, .int q, .int r, .int s] ∧ d = tI (fwd p q r s)
def R_backward_four : List D → D → Prop := fun ds d => ∃ p q r s : Int, ds = [.int p, .int q, .int r, .int s] ∧ d = tI (bwd p q r s)
def R_step_numbers : List D → D → Prop := fun ds d => ∃ (ns : List Int) (s : Int), ds = [tI ns, .int s] ∧ 1 ≤ s.natAbs ∧ 2 * s.natAbs + 2 ≤ ns.length ∧ ns.length ≤ 1000 ∧ d = tI (stepN ns s)
def R_all_led : List D → D → Prop := fun ds d => ∃ (ns l : List Int) (many : Int), ds = [tI ns, tI l] ∧ (ns.length : Int) = 2 * many ∧ many ≤ 5 ∧ okD many l ∧ d = tI (allLed ns l)
def R_numbers_in : List D → D → Prop := fun ds d => ∃ (many : Int) (l : List Int), ds = [.int many, tI l] ∧ 2 ≤ many ∧ many ≤ 5 ∧ okD many l ∧ d = tI (numbersIn many l)
def R_is_alike : List D → D → Prop := fun ds d => ∃ (many : Int) (l m : List Int), ds = [.int many, tI l, tI m] ∧ 2 ≤ many ∧ many ≤ 5 ∧ okD many l ∧ okD many m ∧ d = .bl (isAlike many l m)
abbrev R_are_alike := R_is_alike
theorem k_is_number (T : Txt K mg) : Def P wl K mg base "is_number" 1 (PF K R_is_number) := by
  refine def_pure T.h_is_number T.g_is_number sc_is_number T.bd_is_number (fun ds d ⟨_, h, _⟩ => by rw [h]; rfl) (by decide) fun cdv A outer s H E L Dn ds d hr hR q hn => ?_
  obtain ⟨i, rfl, rfl⟩ := hR
  exact ws_ret (ev_and2 (p := true) (q' := true) (ev_isi rfl rfl T.b_isinstance (EV.f (ev_var 0 rfl)) rfl rfl T.b_int boot_int kb_ii)
    fun _ => ev_not (p := false) (ev_isi rfl rfl T.b_isinstance (EV.f (ev_var 0 rfl)) rfl rfl T.b_bool boot_bool kb_ib)) q
theorem k_is_between (T : Txt K mg) : Def P wl K mg base "is_between" 2 (PF K R_is_between) := by
  refine def_pure T.h_is_between T.g_is_between sc_is_between T.bd_is_between (fun ds d ⟨_, _, _, h, _⟩ => by rw [h]; rfl) (by decide) fun cdv A outer s H E L Dn ds d hr hR q hn => ?_
  obtain ⟨i, a, b, rfl, rfl⟩ := hR
  exact ws_ret (ev_and2 (p := true) (ev_call (k_is_number T) hr rfl (av_cons (ev_var 0 rfl) av_nil) ⟨i, rfl, rfl⟩)
    fun _ => ev_chainLL (ev_var 1 rfl) (ev_var 0 rfl) (ev_var 2 rfl)) q
theorem k_is_step (T : Txt K mg) : Def P wl K mg base "is_step" 2 (PF K R_is_step) := by
  refine def_pure T.h_is_step T.g_is_step sc_is_step T.bd_is_step (fun ds d ⟨_, _, h, _⟩ => by rw [h]; rfl) (by decide) fun cdv A outer s H E L Dn ds d hr hR q hn => ?_
  obtain ⟨many, st, rfl, rfl⟩ := hR
  exact ws_ret (ev_and2 (p := true) (ev_call (k_is_number T) hr rfl (av_cons (ev_var 1 rfl) av_nil) ⟨st, rfl, rfl⟩)
    fun _ => ev_chainLl ev_int (ev_absC rfl T.b_abs (ev_var 1 rfl)) (ev_var 0 rfl)) q
theorem k_is_dance (T : Txt K mg) : Def P wl K mg base "is_dance" 3 (PF K R_is_dance) := by
  refine def_pure T.h_is_dance T.g_is_dance sc_is_dance T.bd_is_dance (fun ds d ⟨_, _, h, _⟩ => by rw [h]; rfl) (by decide) fun cdv A outer s H E L Dn ds d hr hR q hn => ?_
  obtain ⟨many, l, rfl, ok, rfl⟩ := hR
  refine ws_ret (ev_and2 (p := true) (ev_isi rfl rfl T.b_isinstance (EV.f (ev_var 1 rfl)) (eqe_tI.nd l) rfl T.b_tuple boot_tuple kb_tt)
    fun _ => EV.to (ev_allF rfl rfl T.b_all (EN.l (LC.n (lc_n 2 (f := D.int) (r := fun s => D.bl (decide (1 ≤ (s.natAbs : Int)) && decide ((s.natAbs : Int) < many))) (ic_U rfl (eu_of (ev_var 1 rfl))) (blkOk_by (N := n_is_dance) (sc := defScope s_is_dance) (by decide +kernel)) (sz_lt (by have := ok.2; omega)) (fun _ _ _ _ _ => pg_name sc_is_dance.nd rfl (.inl rfl))
      (fun x hx q' acc s' H0 C cl fp => ev_call (k_is_step T) hr rfl (av_cons (ev_var 0 rfl) (av_cons (ev_var 2 rfl) av_nil)) ⟨many, x, rfl, rfl⟩)) rfl sc_is_dance.nd))) ?_) q
  rw [List.all_eq_true.mpr fun x hx => ?_]
  have := ok.1 x hx
  simp only [okS] at this
  rw [decide_eq_true (by omega), decide_eq_true (by omega)]
  rfl
theorem k_need_many (T : Txt K mg) : Def P wl K mg base "need_many" 3 (PF K R_need_many) := by
  refine def_pure T.h_need_many T.g_need_many sc_need_many T.bd_need_many (fun ds d ⟨_, h, _⟩ => by rw [h]; rfl) (by decide) fun cdv A outer s H E L Dn ds d hr hR q hn => ?_
  obtain ⟨many, rfl, h1, h2, rfl⟩ := hR
  refine ws_ifF (TV.to (tv_not (tv_val (ev_call (k_is_between T) hr rfl (av_cons (ev_var 0 rfl) (av_cons (ev_globI rfl T.c_LEAST) (av_cons (ev_globI rfl T.c_MOST) av_nil))) ⟨many, 2, 5, rfl, rfl⟩))) ?_) (ws_end hn q)
  rw [decide_eq_true h1, decide_eq_true h2]
  rfl
theorem k_need_dance (T : Txt K mg) : Def P wl K mg base "need_dance" 4 (PF K R_need_dance) := by
  refine def_pure T.h_need_dance T.g_need_dance sc_need_dance T.bd_need_dance (fun ds d ⟨_, _, _, h, _⟩ => by rw [h]; rfl) (by decide) fun cdv A outer s H E L Dn ds d hr hR q hn => ?_
  obtain ⟨many, l, w, rfl, ok, rfl⟩ := hR
  exact ws_ifF (TV.to (tv_not (tv_val (ev_call (k_is_dance T) hr rfl (av_cons (ev_var 0 rfl) (av_cons (ev_var 1 rfl) av_nil)) ⟨many, l, rfl, ok, rfl⟩))) rfl) (ws_end hn q)
theorem k_need_one (T : Txt K mg) : Def P wl K mg base "need_one" 5 (PF K R_need_one) := by
  refine def_pure T.h_need_one T.g_need_one sc_need_one T.bd_need_one (fun ds d ⟨_, _, h, _⟩ => by rw [h]; rfl) (by decide) fun cdv A outer s H E L Dn ds d hr hR q hn => ?_
  obtain ⟨many, l, rfl, h1, h2, ok, rfl⟩ := hR
  exact ws_expr (ev_call (k_need_many T) (hr.mono (by decide)) rfl (av_cons (ev_var 0 rfl) av_nil) ⟨many, rfl, h1, h2, rfl⟩)
    (ws_expr (ev_call (k_need_dance T) hr rfl (av_cons (ev_var 0 rfl) (av_cons (ev_var 1 rfl) (av_cons ev_str av_nil))) ⟨many, l, _, rfl, ok, rfl⟩) (ws_end hn q))
theorem k_most_nought (T : Txt K mg) : Def P wl K mg base "most_nought" 1 (PF K R_most_nought) := by
  refine def_pure T.h_most_nought T.g_most_nought sc_most_nought T.bd_most_nought (fun ds d ⟨_, h, _⟩ => by rw [h]; rfl) (by decide) fun cdv A outer s H E L Dn ds d hr hR q hn => ?_
  obtain ⟨i, rfl, rfl⟩ := hR
  refine ws_ret (ev_if (tv_gt (ev_var 0 rfl) ev_int) (fun h => EV.to (ev_var 0 rfl) ?_) (fun h => EV.to ev_int ?_)) q
  · rw [up, if_pos (of_decide_eq_true h)]
  · rw [up, if_neg (of_decide_eq_false h)]
theorem k_least_nought (T : Txt K mg) : Def P wl K mg base "least_nought" 1 (PF K R_least_nought) := by
  refine def_pure T.h_least_nought T.g_least_nought sc_least_nought T.bd_least_nought (fun ds d ⟨_, h, _⟩ => by rw [h]; rfl) (by decide) fun cdv A outer s H E L Dn ds d hr hR q hn => ?_
  obtain ⟨i, rfl, rfl⟩ := hR
  refine ws_ret (ev_if (tv_lt (ev_var 0 rfl) ev_int) (fun h => EV.to (ev_var 0 rfl) ?_) (fun h => EV.to ev_int ?_)) q
  · rw [low, if_pos (of_decide_eq_true h)]
  · rw [low, if_neg (of_decide_eq_false h)]
theorem k_forward_four (T : Txt K mg) : Def P wl K mg base "forward_four" 2 (PF K R_forward_four) := by
  refine def_pure T.h_forward_four T.g_forward_four sc_forward_four T.bd_forward_four (fun ds d ⟨_, _, _, _, h, _⟩ => by rw [h]; rfl) (by decide) fun cdv A outer s H E L Dn ds d hr hR q hn => ?_
  obtain ⟨p, q1, r, s1, rfl, rfl⟩ := hR
  refine ws_par 4 5 rfl sc_forward_four.nd (by decide) (ev_call (k_most_nought T) hr rfl (av_cons (ev_var 3 rfl) av_nil) ⟨_, rfl, rfl⟩) (ev_call (k_least_nought T) hr rfl (av_cons (ev_var 1 rfl) av_nil) ⟨_, rfl, rfl⟩) ?_
  refine ws_set 6 sc_forward_four.nd (ev_add (ev_sub (ev_sub (ev_var 0 rfl) (ev_var 5 rfl)) (ev_var 2 rfl)) (ev_var 4 rfl)) ?_
  refine ws_set 7 sc_forward_four.nd (ev_tup (av_cons (ev_add (ev_add (ev_var 0 rfl) (ev_call (k_most_nought T) hr rfl (av_cons (ev_var 1 rfl) av_nil) ⟨_, rfl, rfl⟩)) (ev_call (k_most_nought T) hr rfl (av_cons (ev_sub (ev_var 4 rfl) (ev_var 6 rfl)) av_nil) ⟨_, rfl, rfl⟩))
    (av_cons (ev_sub (ev_var 3 rfl) (ev_call (k_most_nought T) hr rfl (av_cons (ev_var 6 rfl) av_nil) ⟨_, rfl, rfl⟩)) av_nil)) (sz_of (by simp))) ?_
  exact ws_ret (ev_catU rfl (eu_of (ev_var 7 rfl)) (eu_of (ev_tup (av_cons (ev_add (ev_add (ev_var 2 rfl) (ev_call (k_least_nought T) hr rfl (av_cons (ev_var 3 rfl) av_nil) ⟨_, rfl, rfl⟩)) (ev_call (k_least_nought T) hr rfl (av_cons (ev_add (ev_var 5 rfl) (ev_var 6 rfl)) av_nil) ⟨_, rfl, rfl⟩))
    (av_cons (ev_add (ev_var 1 rfl) (ev_call (k_most_nought T) hr rfl (av_cons (ev_var 6 rfl) av_nil) ⟨_, rfl, rfl⟩)) av_nil)) (sz_of (by simp)))) (sz_of (by simp))) q
theorem k_backward_four (T : Txt K mg) : Def P wl K mg base "backward_four" 2 (PF K R_backward_four) := by
  refine def_pure T.h_backward_four T.g_backward_four sc_backward_four T.bd_backward_four (fun ds d ⟨_, _, _, _, h, _⟩ => by rw [h]; rfl) (by decide) fun cdv A outer s H E L Dn ds d hr hR q hn => ?_
  obtain ⟨p, q1, r, s1, rfl, rfl⟩ := hR
  refine ws_par 4 5 rfl sc_backward_four.nd (by decide) (ev_call (k_most_nought T) hr rfl (av_cons (ev_var 3 rfl) av_nil) ⟨_, rfl, rfl⟩) (ev_call (k_least_nought T) hr rfl (av_cons (ev_var 1 rfl) av_nil) ⟨_, rfl, rfl⟩) ?_
  refine ws_set 6 sc_backward_four.nd (ev_sub (ev_sub (ev_add (ev_var 0 rfl) (ev_var 5 rfl)) (ev_var 2 rfl)) (ev_var 4 rfl)) ?_
  refine ws_set 7 sc_backward_four.nd (ev_tup (av_cons (ev_sub (ev_sub (ev_var 0 rfl) (ev_call (k_most_nought T) hr rfl (av_cons (ev_var 1 rfl) av_nil) ⟨_, rfl, rfl⟩)) (ev_call (k_most_nought T) hr rfl (av_cons (ev_add (ev_var 4 rfl) (ev_var 6 rfl)) av_nil) ⟨_, rfl, rfl⟩))
    (av_cons (ev_add (ev_var 3 rfl) (ev_call (k_least_nought T) hr rfl (av_cons (ev_var 6 rfl) av_nil) ⟨_, rfl, rfl⟩)) av_nil)) (sz_of (by simp))) ?_
  exact ws_ret (ev_catU rfl (eu_of (ev_var 7 rfl)) (eu_of (ev_tup (av_cons (ev_sub (ev_sub (ev_var 2 rfl) (ev_call (k_least_nought T) hr rfl (av_cons (ev_var 3 rfl) av_nil) ⟨_, rfl, rfl⟩)) (ev_call (k_least_nought T) hr rfl (av_cons (ev_sub (ev_var 5 rfl) (ev_var 6 rfl)) av_nil) ⟨_, rfl, rfl⟩))
    (av_cons (ev_sub (ev_var 1 rfl) (ev_call (k_least_nought T) hr rfl (av_cons (ev_var 6 rfl) av_nil) ⟨_, rfl, rfl⟩)) av_nil)) (sz_of (by simp)))) (sz_of (by simp))) q
theorem k_step_numbers (T : Txt K mg) : Def P wl K mg base "step_numbers" 3 (PF K R_step_numbers) := by
  refine def_pure T.h_step_numbers T.g_step_numbers sc_step_numbers T.bd_step_numbers (fun ds d ⟨_, _, h, _⟩ => by rw [h]; rfl) (by decide) fun cdv A outer s H E L Dn ds d hr hR q hn => ?_
  obtain ⟨ns, st, rfl, h1, h2, h3, rfl⟩ := hR
  have eb : (2 * (st.natAbs : Int) - 2) = ((2 * st.natAbs - 2 : Nat) : Int) := by omega
  have eb4 : (2 * (st.natAbs : Int) - 2) + 4 = ((2 * st.natAbs - 2 + 4 : Nat) : Int) := by omega
  have hz : 2 * st.natAbs - 2 + 4 ≤ ns.length := by omega
  refine ws_set 2 sc_step_numbers.nd (EV.to (ev_sub (ev_mul ev_int (ev_absC rfl T.b_abs (ev_var 1 rfl)) (.inl ⟨by decide, by decide⟩)) ev_int) (by rw [eb])) ?_
  refine ws_unp4 (d1 := .int (ns.getD (2 * st.natAbs - 2) 0)) (d2 := .int (ns.getD (2 * st.natAbs - 2 + 1) 0)) (d3 := .int (ns.getD (2 * st.natAbs - 2 + 2) 0)) (d4 := .int (ns.getD (2 * st.natAbs - 2 + 3) 0)) rfl 3 4 5 6 rfl sc_step_numbers.nd (EV.to (ev_slU rfl (eu_of (ev_var 0 rfl)) (ov_some (ev_var 2 rfl)) (ov_some (EV.to (ev_add (ev_var 2 rfl) ev_int) (by rw [← eb, eb4])))) ?_) ?_ ?_
  · show D.tup (cut (iL ns) (some ((2 * st.natAbs - 2 : Nat) : Int)) (some ((2 * st.natAbs - 2 + 4 : Nat) : Int))) = _
    rw [cut_map, cut_mid ns hz (by omega), show 2 * st.natAbs - 2 + 4 - (2 * st.natAbs - 2) = 4 by omega, mid4 ns 0 hz]
    rfl
  rotate_left
  · exact pg_tup rfl (pgs_cons (pg_name sc_step_numbers.nd rfl (.inl rfl)) (pgs_cons (pg_name sc_step_numbers.nd rfl (.inl rfl)) (pgs_cons (pg_name sc_step_numbers.nd rfl (.inl rfl)) (pgs_cons (pg_name sc_step_numbers.nd rfl (.inl rfl)) pgs_nil))))
  refine ws_set 7 (d := tI (four st (ns.getD (2 * st.natAbs - 2) 0) (ns.getD (2 * st.natAbs - 2 + 1) 0) (ns.getD (2 * st.natAbs - 2 + 2) 0) (ns.getD (2 * st.natAbs - 2 + 3) 0))) sc_step_numbers.nd (ev_if (tv_gt (ev_var 1 rfl) ev_int)
    (fun h => EV.to (ev_call (k_forward_four T) hr rfl (av_cons (ev_var 3 rfl) (av_cons (ev_var 4 rfl) (av_cons (ev_var 5 rfl) (av_cons (ev_var 6 rfl) av_nil)))) ⟨_, _, _, _, rfl, rfl⟩) (by rw [four, if_pos (of_decide_eq_true h)]))
    (fun h => EV.to (ev_call (k_backward_four T) hr rfl (av_cons (ev_var 3 rfl) (av_cons (ev_var 4 rfl) (av_cons (ev_var 5 rfl) (av_cons (ev_var 6 rfl) av_nil)))) ⟨_, _, _, _, rfl, rfl⟩) (by rw [four, if_neg (of_decide_eq_false h)]))) ?_
  refine ws_ret (EV.to (ev_catU rfl (eu_of (ev_catU rfl (eu_of (ev_slU rfl (eu_of (ev_var 0 rfl)) ov_none (ov_some (ev_var 2 rfl)))) (eu_of (ev_var 7 rfl)) ?_)) (eu_of (ev_slU rfl (eu_of (ev_var 0 rfl)) (ov_some (EV.to (ev_add (ev_var 2 rfl) ev_int) (by rw [← eb, eb4]))) ov_none)) ?_) ?_) q
  · rw [cut_to]
    simp only [List.length_take, List.length_map, four_len]
    exact sz_of (by omega)
  · rw [cut_to, cut_from]
    simp only [List.length_append, List.length_take, List.length_drop, List.length_map, four_len]
    exact sz_of (by omega)
  · rw [cut_to, cut_from]
    simp only [stepN, tI, iL, List.map_append, List.map_take, List.map_drop]
theorem allLed_len {many : Int} : ∀ (l : List Int) (ns : List Int), (ns.length : Int) = 2 * many → (∀ s ∈ l, okS many s) → (allLed ns l).length = ns.length
  | [], ns, _, _ => rfl
  | s :: l, ns, h, ok => by
    have h1 := ok s (List.mem_cons_self ..)
    have e := stepN_len (ns := ns) (st := s) h1.1 (by have := h1.2; omega)
    have := allLed_len l (stepN ns s) (by rw [e]; exact h) (fun x hx => ok x (List.mem_cons_of_mem _ hx))
    show (allLed (stepN ns s) l).length = _
    rw [this, e]
theorem k_all_led (T : Txt K mg) : Def P wl K mg base "all_led" 4 (PF K R_all_led) := by
  refine def_pure T.h_all_led T.g_all_led sc_all_led T.bd_all_led (fun ds d ⟨_, _, _, h, _⟩ => by rw [h]; rfl) (by decide) fun cdv A outer s H E L Dn ds d hr hR q hn => ?_
  obtain ⟨ns, l, many, rfl, hl, hm, ok, rfl⟩ := hR
  refine ws_for (f := fun d env => env.put 2 (.d d)) (fun i => ⟨[.d (tI (allLed ns (l.take i))), .d (tI l), .no], []⟩) (fun _ => []) rfl (iv_U rfl (ev_var 1 rfl)) (pg_name sc_all_led.nd rfl (.inl rfl)) (fun d _ => bns_name 2 d) (fun σ H g h => h) (fun gh i d hd => ?_) ?_
  · obtain ⟨st, hst, rfl⟩ := get_map hd
    have hm' := ok.1 st (List.mem_of_getElem? hst)
    have hlen : (allLed ns (l.take i)).length = ns.length := allLed_len _ _ hl (fun s hs => ok.1 s (List.mem_of_mem_take hs))
    refine ws_set 0 sc_all_led.nd (EV.to (ev_call (k_step_numbers T) hr rfl (av_cons (ev_var 0 rfl) (av_cons (ev_var 2 rfl) av_nil)) ⟨_, _, rfl, hm'.1, by rw [hlen]; have := hm'.2; omega, by rw [hlen]; omega, rfl⟩)
      (show _ = tI (allLed ns (l.take (i + 1))) by rw [allLed, allLed, fold_take _ _ _ hst])) (ws_nil fun σ H h => h.wk (.keep (.keep (.drop .nil))))
  · refine ws_ret (EV.to (ev_var 0 rfl) ?_) q
    simp
theorem flat_base (n : Nat) : (List.replicate n [D.int 0, D.int 1]).flatten = iL (List.replicate n [(0 : Int), 1]).flatten := by
  induction n with
  | zero => rfl
  | succ n ih => rw [List.replicate_succ, List.replicate_succ, List.flatten_cons, List.flatten_cons, ih]; rfl
theorem base_len' {many : Int} (h : 2 ≤ many) : ((base0 many).length : Int) = 2 * many := by
  rw [base_len]
  omega
theorem k_numbers_in (T : Txt K mg) : Def P wl K mg base "numbers_in" 5 (PF K R_numbers_in) := by
  refine def_pure T.h_numbers_in T.g_numbers_in sc_numbers_in T.bd_numbers_in (fun ds d ⟨_, _, h, _⟩ => by rw [h]; rfl) (by decide) fun cdv A outer s H E L Dn ds d hr hR q hn => ?_
  obtain ⟨many, l, rfl, h1, h2, ok, rfl⟩ := hR
  refine ws_ret (ev_call (k_all_led T) hr rfl (av_cons (EV.to (ev_repU rfl (eu_of (ev_tup (av_cons ev_int (av_cons ev_int av_nil)) (sz_of (by simp)))) (ev_var 0 rfl) (by simp) h1 (by omega) (by simp)) ?_) (av_cons (ev_var 1 rfl) av_nil)) ⟨base0 many, l, many, rfl, base_len' h1, h2, ok, rfl⟩) q
  show D.tup _ = D.tup _
  rw [flat_base]
  rfl
theorem k_is_alike (T : Txt K mg) : Def P wl K mg base "is_alike" 6 (PF K R_is_alike) := by
  refine def_pure T.h_is_alike T.g_is_alike sc_is_alike T.bd_is_alike (fun ds d ⟨_, _, _, h, _⟩ => by rw [h]; rfl) (by decide) fun cdv A outer s H E L Dn ds d hr hR q hn => ?_
  obtain ⟨many, l, m, rfl, h1, h2, ok, ok2, rfl⟩ := hR
  exact ws_ret (ev_eqE rfl (by have := hr.un; omega) eqe_tI (by decide) (EV.f (ev_call (k_numbers_in T) hr rfl (av_cons (ev_var 0 rfl) (av_cons (ev_var 1 rfl) av_nil)) ⟨many, l, rfl, h1, h2, ok, rfl⟩))
    (EV.f (ev_call (k_numbers_in T) hr rfl (av_cons (ev_var 0 rfl) (av_cons (ev_var 2 rfl) av_nil)) ⟨many, m, rfl, h1, h2, ok2, rfl⟩))) q
end
end Q95
end
section
set_option linter.all false
set_option maxRecDepth 100000
/-! M2: lots, tangles (mirrors), and what holds of what is left. -/
namespace Mi
open Mp
def looseIn (many : Int) (l lot : List Int) : Bool := decide ((lot.length : Int) < 2) || isAlike lot.length (leftOf many l lot) []
def lotsN (n : Nat) : List (List Int) := (List.range n).foldl (fun (found : List (List Int)) (k : Nat) => found ++ found.map fun lot => lot ++ [(k : Int)]) [[]]
def allLots (many : Int) : List (List Int) := (srt ltPT ((lotsN many.toNat).map fun lot => ((lot.length : Int), lot))).map (·.2)
def without (lot : List Int) (d : Int) : List Int := lot.filter fun x => !decide (x = d)
def tanglesOf (many : Int) (l : List Int) : List (List Int) := (allLots many).filter fun lot => !looseIn many l lot && lot.all fun d => looseIn many l (without lot d)
theorem mem_allLots {many : Int} {lot : List Int} : lot ∈ allLots many ↔ lot ∈ lotsN many.toNat := by
  have hp := (tot_PT.srt_ok ((lotsN many.toNat).map fun lot => ((lot.length : Int), lot))).1
  unfold allLots
  rw [List.mem_map]
  constructor
  · rintro ⟨p, hp2, rfl⟩
    have := hp.mem_iff.mp hp2
    obtain ⟨m, hm, rfl⟩ := List.mem_map.mp this
    exact hm
  · intro h
    exact ⟨_, hp.mem_iff.mpr (List.mem_map.mpr ⟨lot, h, rfl⟩), rfl⟩
/-- a lot of so many dancers -/
def Lot (many : Int) (lot : List Int) : Prop := lot.Pairwise (· < ·) ∧ ∀ x ∈ lot, 0 ≤ x ∧ x < many
theorem lotsN_ok : ∀ n : Nat, ∀ lot ∈ lotsN n, Lot n lot
  | 0, lot, h => by
    have : lot = [] := by simpa [lotsN] using h
    subst this
    exact ⟨List.Pairwise.nil, fun x h => by simp at h⟩
  | n + 1, lot, h => by
    have e : lotsN (n + 1) = lotsN n ++ (lotsN n).map fun lot => lot ++ [(n : Int)] := by
      simp [lotsN, List.range_succ]
    rw [e] at h
    rcases List.mem_append.mp h with h | h
    · obtain ⟨h1, h2⟩ := lotsN_ok n lot h
      exact ⟨h1, fun x hx => ⟨(h2 x hx).1, by have := (h2 x hx).2; omega⟩⟩
    · obtain ⟨m, hm, rfl⟩ := List.mem_map.mp h
      obtain ⟨h1, h2⟩ := lotsN_ok n m hm
      refine ⟨List.pairwise_append.mpr ⟨h1, List.pairwise_singleton _ _, fun x hx y hy => ?_⟩, fun x hx => ?_⟩
      · rw [List.mem_singleton.mp hy]
        exact (h2 x hx).2
      · rcases List.mem_append.mp hx with hx | hx
        · exact ⟨(h2 x hx).1, by have := (h2 x hx).2; omega⟩
        · rw [List.mem_singleton.mp hx]
          omega
theorem asc_snoc {l : List Int} {n : Nat} (h : l.Pairwise (· < ·)) (hb : ∀ x ∈ l, 0 ≤ x ∧ x < ((n + 1 : Nat) : Int)) : (∀ x ∈ l, 0 ≤ x ∧ x < (n : Int)) ∨ ∃ m, l = m ++ [(n : Int)] ∧ m.Pairwise (· < ·) ∧ ∀ x ∈ m, 0 ≤ x ∧ x < (n : Int) := by
  by_cases hn : l = []
  · subst hn; exact .inl fun x h => by simp at h
  · have e := (List.dropLast_concat_getLast hn).symm
    generalize l.dropLast = m at e
    generalize l.getLast hn = z at e
    subst e
    obtain ⟨h1, _, h3⟩ := List.pairwise_append.mp h
    have hm : ∀ x ∈ m, 0 ≤ x ∧ x < z := fun x hx => ⟨(hb x (by simp [hx])).1, h3 x hx z (by simp)⟩
    have hz := hb z (by simp)
    by_cases e : z = (n : Int)
    · subst e
      exact .inr ⟨m, rfl, h1, hm⟩
    · refine .inl fun x hx => ?_
      rcases List.mem_append.mp hx with hx | hx
      · have := hm x hx
        omega
      · rw [List.mem_singleton.mp hx]
        omega
theorem lotsN_all : ∀ n : Nat, ∀ lot, Lot n lot → lot ∈ lotsN n
  | 0, lot, h => by
    have : lot = [] := List.eq_nil_iff_forall_not_mem.mpr fun x hx => by have := h.2 x hx; omega
    subst this
    simp [lotsN]
  | n + 1, lot, h => by
    have e : lotsN (n + 1) = lotsN n ++ (lotsN n).map fun lot => lot ++ [(n : Int)] := by
      simp [lotsN, List.range_succ]
    rw [e]
    rcases asc_snoc h.1 h.2 with h2 | ⟨m, rfl, h1, h2⟩
    · exact List.mem_append_left _ (lotsN_all n lot ⟨h.1, h2⟩)
    · exact List.mem_append_right _ (List.mem_map.mpr ⟨m, lotsN_all n m ⟨h1, h2⟩, rfl⟩)
theorem allLots_iff {many : Int} (h : 0 ≤ many) {lot : List Int} : lot ∈ allLots many ↔ Lot many lot := by
  rw [mem_allLots]
  have e : ((many.toNat : Nat) : Int) = many := by omega
  exact ⟨fun q => e ▸ lotsN_ok _ _ q, fun q => lotsN_all _ _ (e ▸ q)⟩
theorem without_ok {many : Int} {lot : List Int} (h : Lot many lot) (d : Int) : Lot many (without lot d) := ⟨h.1.filter _, fun x hx => h.2 x (List.mem_filter.mp hx).1⟩
theorem Lot.nodup {many : Int} {lot : List Int} (h : Lot many lot) : lot.Nodup := h.1.imp fun {a b} q => by omega
theorem Lot.len {many : Int} {lot : List Int} (h : Lot many lot) : ∀ {k : Int}, (∀ x ∈ lot, k ≤ x) → 0 ≤ k → (lot.length : Int) ≤ max 0 (many - k) := by
  obtain ⟨h1, h2⟩ := h
  induction lot with
  | nil => intro k _ _; simp; omega
  | cons x l ih =>
    intro k hk h0
    obtain ⟨p1, p2⟩ := List.pairwise_cons.mp h1
    have := ih p2 (fun y hy => h2 y (by simp [hy])) (k := x + 1) (fun y hy => by have := p1 y hy; omega) (by have := (h2 x (by simp)).1; omega)
    have hx := hk x (by simp)
    have hm := h2 x (by simp)
    simp only [List.length_cons]
    omega
theorem Lot.len' {many : Int} {lot : List Int} (h : Lot many lot) (h0 : 0 ≤ many) : (lot.length : Int) ≤ many := by
  have := h.len (k := 0) (fun x hx => (h.2 x hx).1) (Int.le_refl _)
  omega
/-! ### what is left is a dance of those who stay -/
theorem sub_len {α : Type} [DecidableEq α] : ∀ (l m : List α), l.Nodup → (∀ x ∈ l, x ∈ m) → l.length ≤ m.length
  | [], m, _, _ => by simp
  | x :: l, m, h, hs => by
    obtain ⟨h1, h2⟩ := List.nodup_cons.mp h
    have hx := hs x (by simp)
    have := sub_len l (m.erase x) h2 fun y hy => (List.mem_erase_of_ne (fun (e : y = x) => h1 (by rw [← e]; exact hy))).mpr (hs y (by simp [hy]))
    rw [List.length_erase_of_mem hx] at this
    have : 0 < m.length := List.length_pos_of_mem hx
    simp only [List.length_cons]
    omega
theorem line_split {line : List Int} {a : Nat} (h1 : 1 ≤ a) (h2 : a < line.length) : ∃ p q, line = p ++ line.getD (a - 1) 0 :: line.getD a 0 :: q ∧ p.length + 1 = a := by
  refine ⟨line.take (a - 1), line.drop (a + 1), ?_, by rw [List.length_take]; omega⟩
  have e1 : line.getD (a - 1) 0 = line[a - 1] := by rw [List.getD_eq_getElem?_getD, List.getElem?_eq_getElem (by omega)]; rfl
  have e2 : line.getD a 0 = line[a] := by rw [List.getD_eq_getElem?_getD, List.getElem?_eq_getElem h2]; rfl
  rw [e1, e2]
  have d1 : line.drop (a - 1) = line[a - 1] :: line.drop (a - 1 + 1) := List.drop_eq_getElem_cons (by omega)
  have d2 : line.drop a = line[a] :: line.drop (a + 1) := List.drop_eq_getElem_cons h2
  have e3 : a - 1 + 1 = a := by omega
  rw [e3] at d1
  rw [← d2, ← d1, List.take_append_drop]
theorem getD_app0 (p q : List Int) (x y : Int) : (p ++ x :: y :: q).getD p.length 0 = x := by simp [List.getD_eq_getElem?_getD]
theorem getD_app1 (p q : List Int) (x y : Int) : (p ++ x :: y :: q).getD (p.length + 1) 0 = y := by simp [List.getD_eq_getElem?_getD, List.getElem?_append_right]
theorem swp_app (p q : List Int) (x y : Int) : swp (p ++ x :: y :: q) (p.length + 1) = p ++ y :: x :: q := by
  unfold swp
  rw [Nat.add_sub_cancel, getD_app0, getD_app1]
  simp [List.set_append_right]
theorem swp_perm {line : List Int} {a : Nat} (h1 : 1 ≤ a) (h2 : a < line.length) : (swp line a).Perm line := by
  obtain ⟨p, q, e, hp⟩ := line_split h1 h2
  generalize line.getD (a - 1) 0 = x at e
  generalize line.getD a 0 = y at e
  subst e hp
  rw [swp_app]
  exact List.Perm.append_left _ (List.Perm.swap _ _ _)
/-- the line while a dance goes on: all dancers, once each -/
theorem line_perm {many : Int} (stay : List Int) : ∀ (l : List Int) (z : List Int × List Int), z.1.Perm (rng 0 many) → (∀ s ∈ l, 1 ≤ s.natAbs ∧ (s.natAbs : Int) < many) → (l.foldl (leftStep stay) z).1.Perm (rng 0 many)
  | [], z, h, _ => h
  | s :: l, z, h, ok => by
    rw [List.foldl_cons]
    refine line_perm stay l _ ?_ fun x hx => ok x (by simp [hx])
    have hs := ok s (by simp)
    have hl := h.length_eq
    rw [rng_len] at hl
    exact (swp_perm hs.1 (by omega)).trans h
theorem rng_nodup (a b : Int) : (rng a b).Nodup := by
  unfold rng
  rw [List.Nodup, List.pairwise_map]
  exact (List.nodup_range).imp fun {i j} h => by omega
theorem left_ok {many : Int} {stay : List Int} : ∀ (l : List Int) (z : List Int × List Int), z.1.Perm (rng 0 many) → (∀ s ∈ l, 1 ≤ s.natAbs ∧ (s.natAbs : Int) < many) → (∀ s ∈ z.2, 1 ≤ s.natAbs ∧ (s.natAbs : Int) < stay.length) → ∀ s ∈ (l.foldl (leftStep stay) z).2, 1 ≤ s.natAbs ∧ (s.natAbs : Int) < stay.length
  | [], z, h, _, hz => hz
  | s :: l, z, h, ok, hz => by
    rw [List.foldl_cons]
    have hs := ok s (by simp)
    have hl := h.length_eq
    rw [rng_len] at hl
    have hlt : s.natAbs < z.1.length := by omega
    refine left_ok l _ ((swp_perm hs.1 hlt).trans h) (fun x hx => ok x (by simp [hx])) ?_
    have hnd : z.1.Nodup := h.nodup_iff.mpr (rng_nodup 0 many)
    obtain ⟨line, found⟩ := z
    simp only [leftStep] at *
    split
    · rename_i hc
      obtain ⟨p, q, e, hp⟩ := line_split hs.1 hlt
      generalize line.getD (s.natAbs - 1) 0 = x at e hc
      generalize line.getD s.natAbs 0 = y at e hc
      subst e
      have et : (p ++ x :: y :: q).take s.natAbs = p ++ [x] := by
        rw [← hp, show p ++ x :: y :: q = (p ++ [x]) ++ (y :: q) by simp]
        exact List.take_left' (by simp)
      rw [et]
      have hsub : ((p ++ x :: y :: q).filter (· ∈ stay)).length ≤ stay.length := sub_len _ _ (hnd.filter _) fun z hz => by simpa using (List.mem_filter.mp hz).2
      have ef : ((p ++ x :: y :: q).filter (· ∈ stay)) = (p ++ [x]).filter (· ∈ stay) ++ y :: q.filter (· ∈ stay) := by
        rw [show p ++ x :: y :: q = (p ++ [x]) ++ (y :: q) by simp, List.filter_append, List.filter_cons, if_pos (by simpa using hc.2)]
      rw [ef, List.length_append, List.length_cons] at hsub
      have hpos : 1 ≤ ((p ++ [x]).filter (· ∈ stay)).length := by
        rw [List.filter_append, List.length_append, List.filter_cons, if_pos (by simpa using hc.1)]
        simp
      intro t ht
      rcases List.mem_append.mp ht with ht | ht
      · exact hz t ht
      · rw [List.mem_singleton.mp ht]
        split <;> omega
    · exact hz
end Mi
end
section
set_option Elab.async false
set_option linter.all false
set_option maxRecDepth 100000
set_option maxHeartbeats 4000000
namespace Q95
open PySem PySem.Spec PyProof.Rows L2 Mp
open Mi
section
variable {P : Program} {wl : World} {K : PySem.W.Frag} {mg : Str → Option Value} {base : Heap}
def R_left_of : List D → D → Prop := fun ds d => ∃ (many : Int) (l stay : List Int), ds = [.int many, tI l, tI stay] ∧ 0 ≤ many ∧ many ≤ 5 ∧ okD many l ∧ d = tI (leftOf many l stay)
theorem k_left_of (T : Txt K mg) : Def P wl K mg base "left_of" 1 (PF K R_left_of) := by
  refine def_pure T.h_left_of T.g_left_of sc_left_of T.bd_left_of (fun ds d ⟨_, _, _, h, _⟩ => by rw [h]; rfl) (by decide) fun cdv A outer s H E L Dn ds d hr hR q hn => ?_
  obtain ⟨many, l, stay, rfl, h0, h5, ok, rfl⟩ := hR
  refine ws_parNN 3 4 rfl sc_left_of.nd (by decide) (en_lstR rfl rfl T.b_list (gv_1 rfl T.b_range (ev_var 0 rfl)) (by simp only [RgOk]; omega)) (fun p => en_lst av_nil (sz_of (by simp))) fun pl pf => ?_
  refine ws_for (f := fun d env => env.put 5 (.d d)) (fun i => ⟨[.d (.int many), .d (tI l), .d (tI stay), .a pl, .a pf, .no, .no, .no, .no], []⟩) (fun i => [(pl, .l (iL (leftSt many (l.take i) stay).1)), (pf, .l (iL (leftSt many (l.take i) stay).2))]) rfl (iv_U rfl (ev_var 1 rfl)) (pg_name sc_left_of.nd rfl (.inl rfl)) (fun d _ => bns_name 5 d) (fun σ H g h => h) (fun gh i d hd => ?_) ?_
  · obtain ⟨st, hst, rfl⟩ := get_map hd
    have hm' := ok.1 st (List.mem_of_getElem? hst)
    simp only [okS] at hm'
    have hll : (leftSt many (l.take i) stay).1.length = many.toNat := by
      rw [leftSt, leftSt_len, rng_len]; simp
    have hfl : (leftSt many (l.take i) stay).2.length ≤ l.length := by
      have := leftSt_le stay (l.take i) (rng 0 many, [])
      simp only [List.length_nil, Nat.zero_add, List.length_take] at this
      rw [leftSt]
      omega
    have hnx : leftSt many (l.take (i + 1)) stay = leftStep stay (leftSt many (l.take i) stay) st := by
      rw [leftSt, leftSt, fold_take _ _ _ hst]
    generalize leftSt many (l.take i) stay = z at hll hfl hnx
    obtain ⟨line, found⟩ := z
    simp only at hll hfl
    rw [hnx]
    dsimp only
    refine ws_set 6 sc_left_of.nd (ev_absC rfl T.b_abs (ev_var 5 rfl)) ?_
    refine ws_ifJ (q' := decide (line.getD (st.natAbs - 1) 0 ∈ stay ∧ line.getD st.natAbs 0 ∈ stay)) ⟨[.d (.int many), .d (tI l), .d (tI stay), .a pl, .a pf, .d (.int st), .d (.int (st.natAbs : Int)), .no, .no], [gh]⟩ [(pl, .l (iL line)), (pf, .l (iL (leftStep stay (line, found) st).2))] ?_ (fun hq => ?_) (fun hq => ?_) ?_
    · refine TV.to (tv_and2 (tv_inU rfl (ev_ixL (el_var 3 0 rfl rfl) (ev_sub (ev_var 6 rfl) ev_int) (atI_to (n := st.natAbs - 1) (by omega) (atI_ints (by omega)))) (eu_of (ev_var 2 rfl))) (fun _ => tv_inU rfl (ev_ixL (el_var 3 0 rfl rfl) (ev_var 6 rfl) (atI_ints (by omega))) (eu_of (ev_var 2 rfl)))) ?_
      rw [Bool.decide_and]
    · have hc := of_decide_eq_true hq
      refine ws_set 7 (d := .int (((line.take st.natAbs).filter (· ∈ stay)).length : Int)) sc_left_of.nd (EV.to (ev_lenL rfl T.b_len (EN.l (LC.n (lc_f 8 (f := D.int) (r := D.int) (cf := fun x => decide (x ∈ stay)) (xs := line.take st.natAbs) (ic_L (el_of (EV.to (ev_slL (el_var 3 0 rfl rfl) ov_none (ov_some (ev_var 6 rfl))) (by rw [cut_to, iL, List.map_take])))) (blkOk_by (N := n_left_of) (sc := defScope s_left_of) (by decide +kernel)) (sz_lt (by simp; omega)) (fun _ _ _ _ _ => pg_name sc_left_of.nd rfl (.inl rfl))
        (fun x hx q acc s' H0 C cl fp => tv_inU rfl (ev_var 8 rfl) (eu_of (ev_var 2 rfl))) (fun x hx _ q acc s' H0 C cl fp => ev_var 8 rfl)) rfl sc_left_of.nd))) (by rw [List.length_map])) ?_
      refine ws_app 4 1 (d := .int (if 0 < st then (((line.take st.natAbs).filter (· ∈ stay)).length : Int) else 0 - (((line.take st.natAbs).filter (· ∈ stay)).length : Int))) rfl rfl (ev_if (tv_gt (ev_var 5 rfl) ev_int) (fun h => EV.to (ev_var 7 rfl) (by rw [if_pos (of_decide_eq_true h)])) (fun h => EV.to (ev_sub ev_int (ev_var 7 rfl)) (by rw [if_neg (of_decide_eq_false h)]))) (sz_lt (by rw [List.length_map]; have := ok.2; omega)) (ws_nil fun σ H h => ?_)
      have e2 : (leftStep stay (line, found) st).2 = found ++ [if 0 < st then (((line.take st.natAbs).filter (· ∈ stay)).length : Int) else 0 - (((line.take st.natAbs).filter (· ∈ stay)).length : Int)] := by
        simp only [leftStep]
        rw [if_pos hc]
      have e3 : ∀ z : Int, iL (found ++ [z]) = iL found ++ [D.int z] := fun z => by simp [iL]
      rw [e2, e3]
      exact h.wk (.keep (.keep (.keep (.keep (.keep (.keep (.keep (.drop (.keep .nil)))))))))
    · have hc := of_decide_eq_false hq
      refine ws_nil fun σ H h => ?_
      have e2 : (leftStep stay (line, found) st).2 = found := by
        simp only [leftStep]
        rw [if_neg hc]
      rw [e2]
      exact h
    · refine ws_swap 3 0 (st.natAbs - 1) st.natAbs (d1 := .int (line.getD st.natAbs 0)) (d2 := .int (line.getD (st.natAbs - 1) 0)) rfl rfl rfl (ev_ixL (el_var 3 0 rfl rfl) (ev_var 6 rfl) (atI_ints (by omega))) (ev_ixL (el_var 3 0 rfl rfl) (ev_sub (ev_var 6 rfl) ev_int) (atI_to (n := st.natAbs - 1) (by omega) (atI_ints (by omega))))
        (fun ds' => ev_sub (ev_var 6 rfl) ev_int) (fun ds' => ev_var 6 rfl) (by omega) rfl (by rw [List.length_map]; omega) (by rw [List.length_map]; omega) (ws_nil fun σ H h => ?_) (hg := ?_)
      · have e1 : (leftStep stay (line, found) st).1 = (line.set (st.natAbs - 1) (line.getD st.natAbs 0)).set st.natAbs (line.getD (st.natAbs - 1) 0) := rfl
        have e3 : ∀ (x y : Int) (a b : Nat), iL ((line.set a x).set b y) = ((iL line).set a (.int x)).set b (.int y) := fun x y a b => by simp [iL, List.map_set]
        rw [e1, e3]
        exact h.wk (.keep (.keep (.keep (.keep (.keep (.drop (.drop (.keep (.keep .nil)))))))))
      · exact pg_tup rfl (pgs_cons (pg_sub (pe_var rfl (.inl rfl) (by decide) (by decide)) pe_c set_list) (pgs_cons (pg_sub (pe_var rfl (.inl rfl) (by decide) (by decide)) pe_c set_list) pgs_nil))
  · refine ws_ret (EV.to (ev_tupL rfl T.b_tuple (el_var 4 1 rfl rfl)) ?_) q
    rw [List.length_map, List.take_length]
    rfl
theorem lot_left {many : Int} {l lot : List Int} (h0 : 0 ≤ many) (ok : okD many l) : okD lot.length (leftOf many l lot) := by
  refine ⟨fun s hs => left_ok (many := many) l (rng 0 many, []) (List.Perm.refl _) (fun s hs => ok.1 s hs) (fun s hs => by simp at hs) s hs, ?_⟩
  have := leftSt_le lot l (rng 0 many, [])
  have := ok.2
  simp only [leftOf, leftSt]
  simp only [List.length_nil, Nat.zero_add] at *
  omega
def R_is_lot : List D → D → Prop := fun ds d => ∃ (many least : Int) (lot : List Int), ds = [.int many, tI lot, .int least] ∧ 0 ≤ many ∧ many ≤ 5 ∧ Lot many lot ∧ least ≤ lot.length ∧ d = .bl true
def R_left_by : List D → D → Prop := fun ds d => ∃ (many : Int) (l lot : List Int), ds = [.int many, tI l, tI lot] ∧ 2 ≤ many ∧ many ≤ 5 ∧ okD many l ∧ Lot many lot ∧ 2 ≤ lot.length ∧ d = tI (leftOf many l lot)
def R_is_loose_in : List D → D → Prop := fun ds d => ∃ (many : Int) (l lot : List Int), ds = [.int many, tI l, tI lot] ∧ 2 ≤ many ∧ many ≤ 5 ∧ okD many l ∧ Lot many lot ∧ d = .bl (looseIn many l lot)
def R_is_loose : List D → D → Prop := fun ds d => ∃ (many : Int) (l : List Int), ds = [.int many, tI l] ∧ 2 ≤ many ∧ many ≤ 5 ∧ okD many l ∧ d = .bl (isAlike many l [])
def R_all_lots : List D → D → Prop := fun ds d => ∃ many : Int, ds = [.int many] ∧ 0 ≤ many ∧ many ≤ 5 ∧ d = .lst ((allLots many).map tI)
def R_without : List D → D → Prop := fun ds d => ∃ (lot : List Int) (x : Int), ds = [tI lot, .int x] ∧ lot.length ≤ 1000 ∧ d = tI (without lot x)
theorem k_is_lot (T : Txt K mg) : Def P wl K mg base "is_lot" 3 (PF K R_is_lot) := by
  refine def_pure T.h_is_lot T.g_is_lot sc_is_lot T.bd_is_lot (fun ds d ⟨_, _, _, h, _⟩ => by rw [h]; rfl) (by decide) fun cdv A outer s H E L Dn ds d hr hR q hn => ?_
  obtain ⟨many, least, lot, rfl, h0, h5, hl, hle, rfl⟩ := hR
  have hlen := hl.len' h0
  refine ws_ifF (TV.to (tv_or2 (tv_not (tv_val (ev_isi rfl rfl T.b_isinstance (EV.f (ev_var 1 rfl)) (eqe_tI.nd lot) rfl T.b_tuple boot_tuple kb_tt))) (fun _ => tv_lt (ev_lenU rfl rfl T.b_len (eu_of (ev_var 1 rfl))) (ev_var 2 rfl))) (by simp; omega)) ?_
  refine ws_ifF (TV.to (tv_not (tv_val (ev_allF rfl rfl T.b_all (EN.l (LC.n (lc_n 3 (f := D.int) (r := fun x => D.bl (decide (0 ≤ x) && decide (x ≤ many - 1))) (ic_U rfl (eu_of (ev_var 1 rfl))) (blkOk_by (N := n_is_lot) (sc := defScope s_is_lot) (by decide +kernel)) (sz_lt (by omega)) (fun _ _ _ _ _ => pg_name sc_is_lot.nd rfl (.inl rfl))
      (fun x hx q' acc s' H0 C cl fp => ev_call (k_is_between T) hr rfl (av_cons (ev_var 3 rfl) (av_cons ev_int (av_cons (ev_sub (ev_var 0 rfl) ev_int) av_nil))) ⟨x, 0, many - 1, rfl, rfl⟩)) rfl sc_is_lot.nd))))) ?_) ?_
  · rw [List.all_eq_true.mpr fun x hx => ?_]
    · rfl
    · have := hl.2 x hx
      rw [decide_eq_true this.1, decide_eq_true (by omega)]
      rfl
  · refine ws_ret (EV.to (ev_eqE rfl (by have := hr.un; omega) eqe_lI (by decide) (EL.f (EN.l (en_lstU rfl rfl T.b_list (eu_of (ev_var 1 rfl))))) (EL.f (EN.l (en_sortedSet rfl rfl rfl T.b_sorted rfl T.b_set (eu_of (ev_var 1 rfl)) hl.1 (by omega))))) ?_) q
    rw [decide_eq_true rfl]
theorem k_left_by (T : Txt K mg) : Def P wl K mg base "left_by" 6 (PF K R_left_by) := by
  refine def_pure T.h_left_by T.g_left_by sc_left_by T.bd_left_by (fun ds d ⟨_, _, _, h, _⟩ => by rw [h]; rfl) (by decide) fun cdv A outer s H E L Dn ds d hr hR q hn => ?_
  obtain ⟨many, l, lot, rfl, h2, h5, ok, hl, h2l, rfl⟩ := hR
  refine ws_expr (ev_call (k_need_one T) (hr.mono (by decide)) rfl (av_cons (ev_var 0 rfl) (av_cons (ev_var 1 rfl) av_nil)) ⟨many, l, rfl, h2, h5, ok, rfl⟩) ?_
  refine ws_ifF (TV.to (tv_not (tv_val (ev_call (k_is_lot T) (hr.mono (by decide)) rfl (av_cons (ev_var 0 rfl) (av_cons (ev_var 2 rfl) (av_cons ev_int av_nil))) ⟨many, 2, lot, rfl, by omega, h5, hl, by omega, rfl⟩))) rfl) ?_
  exact ws_ret (ev_call (k_left_of T) (hr.mono (by decide)) rfl (av_cons (ev_var 0 rfl) (av_cons (ev_var 1 rfl) (av_cons (ev_var 2 rfl) av_nil))) ⟨many, l, lot, rfl, by omega, h5, ok, rfl⟩) q
theorem k_is_loose_in (T : Txt K mg) : Def P wl K mg base "is_loose_in" 7 (PF K R_is_loose_in) := by
  refine def_pure T.h_is_loose_in T.g_is_loose_in sc_is_loose_in T.bd_is_loose_in (fun ds d ⟨_, _, _, h, _⟩ => by rw [h]; rfl) (by decide) fun cdv A outer s H E L Dn ds d hr hR q hn => ?_
  obtain ⟨many, l, lot, rfl, h2, h5, ok, hl, rfl⟩ := hR
  have hlen := hl.len' (by omega)
  refine ws_ret (ev_or2 (ev_lt (ev_lenUm rfl rfl T.b_len (eu_of (ev_var 2 rfl))) ev_int) (fun hz => EV.to (ev_call (k_is_alike T) hr rfl (av_cons (ev_lenUm rfl rfl T.b_len (eu_of (ev_var 2 rfl))) (av_cons (ev_call (k_left_of T) (hr.mono (by decide)) rfl (av_cons (ev_var 0 rfl) (av_cons (ev_var 1 rfl) (av_cons (ev_var 2 rfl) av_nil))) ⟨many, l, lot, rfl, by omega, h5, ok, rfl⟩) (av_cons ev_tup0 av_nil)))
    ⟨lot.length, leftOf many l lot, [], rfl, ?_, by omega, lot_left (by omega) ok, ⟨fun s hs => by simp at hs, by simp⟩, rfl⟩) rfl)) q
  have := of_decide_eq_false hz
  omega
theorem k_without (T : Txt K mg) : Def P wl K mg base "without" 1 (PF K R_without) := by
  refine def_pure T.h_without T.g_without sc_without T.bd_without (fun ds d ⟨_, _, h, _⟩ => by rw [h]; rfl) (by decide) fun cdv A outer s H E L Dn ds d hr hR q hn => ?_
  obtain ⟨lot, x, rfl, hl, rfl⟩ := hR
  exact ws_ret (EV.to (ev_tupL rfl T.b_tuple (EN.l (LC.n (lc_f 2 (f := D.int) (r := D.int) (cf := fun y => !decide (y = x)) (xs := lot) (ic_U rfl (eu_of (ev_var 0 rfl))) (blkOk_by (N := n_without) (sc := defScope s_without) (by decide +kernel)) (sz_lt (by omega)) (fun _ _ _ _ _ => pg_name sc_without.nd rfl (.inl rfl)) (fun y hy q acc s' H0 C cl fp => tv_ne (ev_var 2 rfl) (ev_var 1 rfl)) (fun y hy _ q acc s' H0 C cl fp => ev_var 2 rfl)) rfl sc_without.nd))) rfl) q
/-- lots with their lengths ahead -/
abbrev lenP (l : List (List Int)) : List (Int × List Int) := l.map fun lot => ((lot.length : Int), lot)
theorem map_lots {α : Type} (f : α → D) : ∀ xs : List α, xs.map f ++ [] = xs.map f := by simp
theorem k_all_lots (T : Txt K mg) : Def P wl K mg base "all_lots" 1 (PF K R_all_lots) := by
  refine def_pure T.h_all_lots T.g_all_lots sc_all_lots T.bd_all_lots (fun ds d ⟨_, h, _⟩ => by rw [h]; rfl) (by decide) fun cdv A outer s H E L Dn ds d hr hR q hn => ?_
  obtain ⟨many, rfl, h0, h5, rfl⟩ := hR
  refine ws_set 1 (d := .lst ((lotsN 0).map tI)) sc_all_lots.nd (EV.to (ev_lst (av_cons ev_tup0 av_nil) (sz_of (by simp))) rfl) ?_
  have hl : ∀ n : Nat, n ≤ 5 → (lotsN n).length ≤ 32 := by decide
  refine ws_for (f := fun d env => env.put 2 (.d d)) (fun i => ⟨[.d (.int many), .d (.lst ((lotsN i).map tI)), .no, .no, .no], []⟩) (fun i => []) rfl (iv_R1 rfl T.b_range (ev_var 0 rfl) (by omega)) (pg_name sc_all_lots.nd rfl (.inr rfl)) (fun d _ => bns_name 2 d) (fun σ H g h => h) (fun gh i d hd => ?_) ?_
  · have hi : i < many.toNat := by
      have := (List.getElem?_eq_some_iff.mp hd).1
      simp only [iL, Mp.rg, List.length_map, List.length_range] at this
      omega
    have ed : d = .int (i : Int) := by
      have e := Mp.rg_get 0 many (k := i) (List.getElem?_eq_some_iff.mp hd).1
      rw [hd] at e
      have := Option.some.inj e
      rw [this, Int.zero_add]
    subst ed
    have hli := hl i (by omega)
    have hle := hl (i + 1) (by omega)
    have en : (lotsN (i + 1)) = lotsN i ++ (lotsN i).map fun lot => lot ++ [(i : Int)] := by
      simp [lotsN, List.range_succ]
    refine ws_set 1 (d := .lst ((lotsN (i + 1)).map tI)) sc_all_lots.nd (EV.to (ev_lst (av_starL (el_of (ev_var 1 rfl)) (av_starL (EN.l (LC.n (lc_n 3 (f := tI) (r := fun lot => tI (lot ++ [(i : Int)])) (xs := lotsN i) (ic_L (el_of (ev_var 1 rfl))) (blkOk_by (N := n_all_lots) (sc := defScope s_all_lots) (by decide +kernel)) (sz_lt (by omega)) (fun _ _ _ _ _ => pg_name sc_all_lots.nd rfl (.inl rfl))
      (fun x hx q acc s' H0 C cl fp => EV.to (ev_tup (av_starU rfl (eu_of (ev_var 3 rfl)) (av_cons (ev_var 2 rfl) av_nil)) ?_) ?_)) rfl sc_all_lots.nd)) av_nil)) ?_) ?_) (ws_nil fun σ H h => h.wk (.keep (.keep (.drop (.keep (.keep .nil))))))
    · have := (lotsN_ok i x hx).len' (by omega)
      simp only [List.length_append, List.length_map, List.length_cons, List.length_nil]
      exact sz_of (by omega)
    · simp [iL]
    · simp only [List.length_append, List.length_map, List.length_nil]
      exact sz_of (by omega)
    · rw [en, List.map_append, List.map_map, List.append_nil]
      rfl
  · have hn : (iL (Mp.rg 0 many)).length = many.toNat := by simp [Mp.rg]
    rw [hn]
    have hln := hl many.toNat (by omega)
    refine ws_ret (EV.to (EN.v (LC.n (lc_p rfl 4 3 (by decide) (cf := fun _ => true) (f1 := fun p : Int × List Int => .int p.1) (f2 := fun p => tI p.2) (r := fun p => tI p.2) (xs := srt ltPT (lenP (lotsN many.toNat))) ?hi (blkOk_by (N := n_all_lots) (sc := defScope s_all_lots) (by decide +kernel)) ?_ (fun _ _ _ _ _ => pg_tup rfl (pgs_cons (pg_name sc_all_lots.nd rfl (.inl rfl)) (pgs_cons (pg_name sc_all_lots.nd rfl (.inl rfl)) pgs_nil))) (fun x hx q acc s' H0 C cl fp => ev_var 3 rfl)) rfl sc_all_lots.nd)) ?_) q
    case hi => exact (ic_L (EN.l (en_sortPairs (l := lenP (lotsN many.toNat)) rfl (by have := hr.un; omega) rfl T.b_sorted (EL.to (EN.l (LC.n (lc_n 3 (f := tI) (r := fun lot : List Int => dPT ((lot.length : Int), lot)) (xs := lotsN many.toNat) (ic_L (el_of (ev_var 1 rfl))) (blkOk_by (N := n_all_lots) (sc := defScope s_all_lots) (by decide +kernel)) (sz_lt (by omega)) (fun _ _ _ _ _ => pg_name sc_all_lots.nd rfl (.inl rfl))
      (fun x hx q acc s' H0 C cl fp => ev_tup (av_cons (ev_lenUm rfl rfl T.b_len (eu_of (ev_var 3 rfl))) (av_cons (ev_var 3 rfl) av_nil)) (sz_of (by simp)))) rfl sc_all_lots.nd)) (by rw [List.map_map]; rfl)))))
    · rw [((tot_PT.srt_ok _).1).length_eq, List.length_map]
      exact sz_lt (by omega)
    · rw [allLots, List.map_map]
      rfl
end
end Q95
end
section
set_option Elab.async false
set_option linter.all false
set_option maxRecDepth 100000
set_option maxHeartbeats 4000000
namespace Q95
open PySem PySem.Spec PyProof.Rows L2 Mp
open Mi
section
variable {P : Program} {wl : World} {K : PySem.W.Frag} {mg : Str → Option Value} {base : Heap}
abbrev dcLoose (many : Int) (l : List Int) : List (List L2.Key × V) := dcL kI (fun lot => V.bl (looseIn many l lot)) (allLots many)
def R_loose_lots : List D → Oc → Prop := fun ds c => ∃ (many : Int) (l : List Int), ds = [.int many, tI l] ∧ 2 ≤ many ∧ many ≤ 5 ∧ okD many l ∧ c = .t (dcLoose many l)
def R_tangles_of : List D → D → Prop := fun ds d => ∃ (many : Int) (l : List Int), ds = [.int many, tI l] ∧ 2 ≤ many ∧ many ≤ 5 ∧ okD many l ∧ d = .lst ((tanglesOf many l).map tI)
abbrev R_tangles := R_tangles_of
theorem kI_inj {x y : List Int} (h : kI x = kI y) : x = y := (List.map_inj_right fun a b h => Sum.inl.inj h).mp h
theorem dcL_val {α : Type} (kf : α → List L2.Key) (vf : α → V) (hi : ∀ x y, kf x = kf y → x = y) : ∀ (xs : List α) (acc : List (List L2.Key × V)) (x : α), x ∈ xs ∨ valV acc (kf x) = some (vf x) → valV (xs.foldl (fun acc x => putK acc (kf x) (vf x)) acc) (kf x) = some (vf x)
  | [], acc, x, h => by
    rcases h with h | h
    · simp at h
    · exact h
  | y :: xs, acc, x, h => by
    rw [List.foldl_cons]
    refine dcL_val kf vf hi xs _ x ?_
    by_cases e : x = y
    · subst e
      right
      rw [valV_put, if_pos rfl]
    · rcases h with h | h
      · rcases List.mem_cons.mp h with h | h
        · exact absurd h e
        · exact .inl h
      · right
        rw [valV_put, if_neg fun z => e (hi _ _ z)]
        exact h
theorem loose_val {many : Int} {l lot : List Int} (h0 : 0 ≤ many) (h : Lot many lot) : valV (dcLoose many l) (kI lot) = some (.bl (looseIn many l lot)) :=
  dcL_val kI (fun lot => V.bl (looseIn many l lot)) (fun x y h => kI_inj h) _ _ _ (.inl ((allLots_iff h0).mpr h))
theorem allLots_len {many : Int} (h0 : 0 ≤ many) (h5 : many ≤ 5) : (allLots many).length ≤ 32 := by
  have hl : ∀ n : Nat, n ≤ 5 → (lotsN n).length ≤ 32 := by decide
  have := hl many.toNat (by omega)
  unfold allLots
  rw [List.length_map, ((tot_PT.srt_ok _).1).length_eq, List.length_map]
  exact this
theorem k_loose_lots (T : Txt K mg) : Def P wl K mg base "loose_lots" 8 (PN K R_loose_lots) := by
  refine def_new T.h_loose_lots T.g_loose_lots sc_loose_lots T.bd_loose_lots (fun ds d ⟨_, _, h, _⟩ => by rw [h]; rfl) (by decide) fun cdv A outer s H E L Dn ds d hr hR q => ?_
  obtain ⟨many, l, rfl, h2, h5, ok, rfl⟩ := hR
  have hle := allLots_len (many := many) (by omega) h5
  exact ws_retE (eo_dc 2 (f := tI) (kf := kI) (vf := fun lot => V.bl (looseIn many l lot)) (xs := allLots many) (un64 hr) rfl sc_loose_lots.nd (ic_L (el_of (ev_call (k_all_lots T) (hr.mono (by decide)) rfl (av_cons (ev_var 0 rfl) av_nil) ⟨many, rfl, by omega, h5, rfl⟩))) (blkOk_by (N := n_loose_lots) (sc := defScope s_loose_lots) (by decide +kernel)) (sz_lt (by omega)) (fun _ _ _ _ _ => pg_name sc_loose_lots.nd rfl (.inl rfl))
    (fun x hx q acc s' H0 C cl fp => EV.to (ev_var 2 rfl) (by rw [kI_d]))
    (fun x hx q acc s' H0 C cl fp => ev_call (k_is_loose_in T) hr rfl (av_cons (ev_var 0 rfl) (av_cons (ev_var 1 rfl) (av_cons (ev_var 2 rfl) av_nil))) ⟨many, l, x, rfl, h2, h5, ok, (allLots_iff (by omega)).mp hx, rfl⟩)) q
theorem k_tangles_of (T : Txt K mg) : Def P wl K mg base "tangles_of" 9 (PF K R_tangles_of) := by
  refine def_pure T.h_tangles_of T.g_tangles_of sc_tangles_of T.bd_tangles_of (fun ds d ⟨_, _, h, _⟩ => by rw [h]; rfl) (by decide) fun cdv A outer s H E L Dn ds d hr hR q hn => ?_
  obtain ⟨many, l, rfl, h2, h5, ok, rfl⟩ := hR
  have hle := allLots_len (many := many) (by omega) h5
  refine ws_parOOc 2 3 rfl (eo_call (k_loose_lots T) hr rfl (av_cons (ev_var 0 rfl) (av_cons (ev_var 1 rfl) av_nil)) ⟨many, l, rfl, h2, h5, ok, rfl⟩) (fun p => (en_lst av_nil (sz_of (by simp))).o) (fun pl pf => ?_) (pg_tup rfl (pgs_cons (pg_name sc_tangles_of.nd rfl (.inr rfl)) (pgs_cons (pg_name sc_tangles_of.nd rfl (.inl rfl)) pgs_nil)))
  let cf : List Int → Bool := fun lot => !looseIn many l lot && lot.all fun d => looseIn many l (without lot d)
  refine ws_for (f := fun d env => env.put 4 (.d d)) (fun i => ⟨[.d (.int many), .d (tI l), .a pl, .a pf, .no, .no], []⟩) (fun i => [(pl, .t (dcLoose many l)), (pf, .l ((((allLots many).take i).filter cf).map tI))]) rfl (iv_L (ev_call (k_all_lots T) (hr.mono (by decide)) rfl (av_cons (ev_var 0 rfl) av_nil) ⟨many, rfl, by omega, h5, rfl⟩)) (pg_name sc_tangles_of.nd rfl (.inr rfl)) (fun d _ => bns_name 4 d) (fun σ H g h => h) (fun gh i d hd => ?_) ?_
  · obtain ⟨lot, hlot, rfl⟩ := get_map hd
    have hL := (allLots_iff (many := many) (by omega)).mp (List.mem_of_getElem? hlot)
    have hlen := hL.len' (by omega)
    have tk : (allLots many).take (i + 1) = (allLots many).take i ++ [lot] := by rw [List.take_add_one, hlot]; rfl
    refine ws_if (p := cf lot) ?_ (fun hq => ?_) (fun hq => ?_)
    · exact tv_and2 (tv_not (tv_val (ev_dgetO 2 0 (ks := kI lot) (un64 hr) rfl (.inl rfl) (EV.to (ev_var 4 rfl) (by rw [kI_d])) (loose_val (by omega) hL) rfl)))
        (fun _ => tv_val (ev_allF rfl rfl T.b_all (EN.l (LC.n (lc_n 5 (f := D.int) (r := fun x => D.bl (looseIn many l (without lot x))) (xs := lot) (ic_U rfl (eu_of (ev_var 4 rfl))) (blkOk_by (N := n_tangles_of) (sc := defScope s_tangles_of) (by decide +kernel)) (sz_lt (by omega)) (fun _ _ _ _ _ => pg_name sc_tangles_of.nd rfl (.inl rfl))
          (fun x hx q acc s' H0 C cl fp => ev_dgetO 2 0 (ks := kI (without lot x)) (un64 hr) rfl (.inl rfl) (EV.to (ev_call (k_without T) (hr.mono (by decide)) rfl (av_cons (ev_var 4 rfl) (av_cons (ev_var 5 rfl) av_nil)) ⟨lot, x, rfl, by omega, rfl⟩) (by rw [kI_d])) (loose_val (by omega) (without_ok hL x)) rfl)) rfl sc_tangles_of.nd))))
    · refine ws_app 3 1 rfl rfl (ev_var 4 rfl) (sz_lt ?_) (ws_go (ws_nil fun σ H h => ?_) rfl)
      · rw [List.length_map]
        have := List.length_filter_le cf ((allLots many).take i)
        rw [List.length_take] at this
        omega
      · rw [tk, List.filter_append, List.filter_cons, if_pos hq, List.map_append]
        exact h.wk (.keep (.keep (.keep (.keep (.drop (.keep .nil))))))
    · refine ws_go (ws_nil fun σ H h => ?_) rfl
      rw [tk, List.filter_append, List.filter_cons, if_neg (by rw [hq]; decide), List.filter_nil, List.append_nil]
      exact h.wk (.keep (.keep (.keep (.keep (.drop (.keep .nil))))))
  · refine ws_retO 3 1 rfl rfl ?_
    rw [List.length_map, List.take_length]
    exact q
theorem k_tangles (T : Txt K mg) : Def P wl K mg base "tangles" 10 (PF K R_tangles) := by
  refine def_pure T.h_tangles T.g_tangles sc_tangles T.bd_tangles (fun ds d ⟨_, _, h, _⟩ => by rw [h]; rfl) (by decide) fun cdv A outer s H E L Dn ds d hr hR q hn => ?_
  obtain ⟨many, l, rfl, h2, h5, ok, rfl⟩ := hR
  exact ws_expr (ev_call (k_need_one T) (hr.mono (by decide)) rfl (av_cons (ev_var 0 rfl) (av_cons (ev_var 1 rfl) av_nil)) ⟨many, l, rfl, h2, h5, ok, rfl⟩)
    (ws_ret (ev_call (k_tangles_of T) hr rfl (av_cons (ev_var 0 rfl) (av_cons (ev_var 1 rfl) av_nil)) ⟨many, l, rfl, h2, h5, ok, rfl⟩) q)
end
end Q95
end
section
set_option linter.all false
set_option maxRecDepth 100000
/-! M3: leads. -/
namespace Mi
open Mp L2
abbrev LD := List (List L2.Key × V)
def getI (kvs : LD) (k : List L2.Key) : Int := match valV kvs k with
  | some (.int i) => i
  | _ => 0
def sgn (s : Int) : Int := if 0 < s then 1 else -1
def leadIn (many : Int) (low : Int) (acc : LD) : List Int → LD := fun hs => hs.foldl (fun acc high => putK acc (kI [low, high]) (.int 0)) acc
def leadBase (many : Int) (n : Nat) : LD := (List.range n).foldl (fun (acc : LD) (low : Nat) => leadIn many (low : Int) acc (rng ((low : Int) + 1) many)) []
def pairAt (line : List Int) (a : Nat) : List Int := [min (line.getD (a - 1) 0) (line.getD a 0), max (line.getD (a - 1) 0) (line.getD a 0)]
def leadStep (z : LD × List Int) (s : Int) : LD × List Int := (putK z.1 (kI (pairAt z.2 s.natAbs)) (.int (getI z.1 (kI (pairAt z.2 s.natAbs)) + sgn s)), swp z.2 s.natAbs)
def leadSt (many : Int) (l : List Int) : LD × List Int := l.foldl leadStep (leadBase many many.toNat, rng 0 many)
def leadsD (many : Int) (l : List Int) : LD := (leadSt many l).1
/-- every pair has an int -/
def HasAll (many : Int) (kvs : LD) : Prop := ∀ low high : Int, 0 ≤ low → low < high → high < many → ∃ i, valV kvs (kI [low, high]) = some (.int i)
theorem leadIn_len (many low : Int) (acc : LD) (hs : List Int) : (leadIn many low acc hs).length ≤ acc.length + hs.length := dcL_len (fun high => kI [low, high]) (fun _ => .int 0) hs acc
theorem leadBase_len {many : Int} (h0 : 0 ≤ many) (h5 : many ≤ 5) : ∀ n : Nat, (leadBase many n).length ≤ 5 * n
  | 0 => by simp [leadBase]
  | n + 1 => by
    have ih := leadBase_len h0 h5 n
    have e : leadBase many (n + 1) = leadIn many (n : Int) (leadBase many n) (rng ((n : Int) + 1) many) := by simp [leadBase, List.range_succ]
    rw [e]
    have := leadIn_len many (n : Int) (leadBase many n) (rng ((n : Int) + 1) many)
    rw [rng_len] at this
    omega
theorem leadIn_val (many low : Int) (k : List L2.Key) : ∀ (hs : List Int) (acc : LD), (∃ i, valV acc k = some (.int i)) ∨ (∃ h ∈ hs, k = kI [low, h]) → ∃ i, valV (leadIn many low acc hs) k = some (.int i)
  | [], acc, h => by
    rcases h with h | ⟨h, hh, _⟩
    · exact h
    · simp at hh
  | x :: hs, acc, h => by
    show ∃ i, valV (leadIn many low (putK acc (kI [low, x]) (.int 0)) hs) k = _
    refine leadIn_val many low k hs _ ?_
    by_cases e : k = kI [low, x]
    · left; exact ⟨0, by rw [valV_put, if_pos e]⟩
    · rcases h with ⟨i, h⟩ | ⟨h, hh, hk⟩
      · left; exact ⟨i, by rw [valV_put, if_neg e]; exact h⟩
      · rcases List.mem_cons.mp hh with rfl | hh
        · exact absurd hk e
        · exact .inr ⟨h, hh, hk⟩
theorem mem_rng {a b x : Int} : x ∈ rng a b ↔ a ≤ x ∧ x < b := by
  unfold rng
  rw [List.mem_map]
  constructor
  · rintro ⟨k, hk, rfl⟩
    rw [List.mem_range] at hk
    omega
  · intro h
    exact ⟨(x - a).toNat, by rw [List.mem_range]; omega, by omega⟩
theorem leadBase_val {many : Int} {low high : Int} (h0 : 0 ≤ low) (h1 : low < high) (h2 : high < many) : ∀ n : Nat, low < n → ∃ i, valV (leadBase many n) (kI [low, high]) = some (.int i)
  | 0, h => by omega
  | n + 1, h => by
    have e : leadBase many (n + 1) = leadIn many (n : Int) (leadBase many n) (rng ((n : Int) + 1) many) := by simp [leadBase, List.range_succ]
    rw [e]
    refine leadIn_val many n _ _ _ ?_
    by_cases hn : low < n
    · exact .inl (leadBase_val h0 h1 h2 n hn)
    · have el : low = (n : Int) := by omega
      subst el
      exact .inr ⟨high, mem_rng.mpr ⟨by omega, h2⟩, rfl⟩
theorem hasAll_base {many : Int} : HasAll many (leadBase many many.toNat) := fun low high h0 h1 h2 => leadBase_val h0 h1 h2 _ (by omega)
theorem hasAll_put {many : Int} {kvs : LD} (h : HasAll many kvs) (k : List L2.Key) (x : Int) : HasAll many (putK kvs k (.int x)) := fun low high h0 h1 h2 => by
  obtain ⟨i, hi⟩ := h low high h0 h1 h2
  rw [valV_put]
  split
  · exact ⟨x, rfl⟩
  · exact ⟨i, hi⟩
theorem pairAt_ok {many : Int} {line : List Int} {a : Nat} (hp : line.Perm (rng 0 many)) (h1 : 1 ≤ a) (h2 : a < line.length) : ∃ low high, pairAt line a = [low, high] ∧ 0 ≤ low ∧ low < high ∧ high < many := by
  obtain ⟨p, q, e, hpl⟩ := line_split h1 h2
  unfold pairAt
  generalize line.getD (a - 1) 0 = x at e ⊢
  generalize line.getD a 0 = y at e ⊢
  subst e
  have hx := mem_rng.mp (hp.mem_iff.mp (show x ∈ p ++ x :: y :: q by simp))
  have hy := mem_rng.mp (hp.mem_iff.mp (show y ∈ p ++ x :: y :: q by simp))
  have hnd := hp.nodup_iff.mpr (rng_nodup 0 many)
  have hne : x ≠ y := by
    intro e
    subst e
    have := (List.nodup_append.mp hnd).2.1
    simp at this
  exact ⟨_, _, rfl, by omega, by omega, by omega⟩
theorem lead_inv {many : Int} : ∀ (l : List Int) (z : LD × List Int), HasAll many z.1 → z.2.Perm (rng 0 many) → z.1.length ≤ 25 → (∀ s ∈ l, 1 ≤ s.natAbs ∧ (s.natAbs : Int) < many) → HasAll many (l.foldl leadStep z).1 ∧ (l.foldl leadStep z).2.Perm (rng 0 many) ∧ (l.foldl leadStep z).1.length ≤ 25
  | [], z, h1, h2, h3, _ => ⟨h1, h2, h3⟩
  | s :: l, z, h1, h2, h3, ok => by
    have hs := ok s (by simp)
    have hl := h2.length_eq
    rw [rng_len] at hl
    have hlt : s.natAbs < z.2.length := by omega
    rw [List.foldl_cons]
    refine lead_inv l _ (hasAll_put h1 _ _) ((swp_perm hs.1 hlt).trans h2) ?_ fun x hx => ok x (by simp [hx])
    obtain ⟨low, high, e, g0, g1, g2⟩ := pairAt_ok h2 hs.1 hlt
    obtain ⟨i, hi⟩ := h1 low high g0 g1 g2
    show (putK z.1 _ _).length ≤ 25
    rw [e]
    unfold putK
    rw [if_pos]
    · rw [List.length_map]; exact h3
    · rw [valV_any, hi]; rfl
end Mi
end
section
set_option Elab.async false
set_option linter.all false
set_option maxRecDepth 100000
set_option maxHeartbeats 4000000
namespace Q95
open PySem PySem.Spec PyProof.Rows L2 Mp
open Mi
section
variable {P : Program} {wl : World} {K : PySem.W.Frag} {mg : Str → Option Value} {base : Heap}
def R_leads_of : List D → Oc → Prop := fun ds c => ∃ (many : Int) (l : List Int), ds = [.int many, tI l] ∧ 2 ≤ many ∧ many ≤ 5 ∧ okD many l ∧ c = .t (leadsD many l)
abbrev R_leads := R_leads_of
theorem rg_at {a b : Int} {i : Nat} {d : D} (h : (iL (Mp.rg a b))[i]? = some d) : d = .int (a + (i : Int)) ∧ a + (i : Int) < b := by
  have hi := (List.getElem?_eq_some_iff.mp h).1
  have e := Mp.rg_get a b hi
  rw [h] at e
  refine ⟨Option.some.inj e, ?_⟩
  simp only [iL, Mp.rg, List.length_map, List.length_range] at hi
  omega
theorem rg_lenD (a b : Int) : (iL (Mp.rg a b)).length = (b - a).toNat := by simp [Mp.rg]
theorem rg_eq (a b : Int) : Mp.rg a b = Mi.rng a b := rfl
theorem k_leads_of (T : Txt K mg) : Def P wl K mg base "leads_of" 1 (PN K R_leads_of) := by
  refine def_new T.h_leads_of T.g_leads_of sc_leads_of T.bd_leads_of (fun ds d ⟨_, _, h, _⟩ => by rw [h]; rfl) (by decide) fun cdv A outer s H E L Dn ds d hr hR q => ?_
  obtain ⟨many, l, rfl, h2, h5, ok, rfl⟩ := hR
  refine ws_newO 2 sc_leads_of.nd eo_dict fun pf => ?_
  refine ws_for (f := fun d env => env.put 3 (.d d)) (fun i => ⟨[.d (.int many), .d (tI l), .a pf, .no, .no, .no, .no, .no, .no], []⟩) (fun i => [(pf, .t (leadBase many i))]) rfl (iv_R1 rfl T.b_range (ev_var 0 rfl) (by omega)) (pg_name sc_leads_of.nd rfl (.inl rfl)) (fun d _ => bns_name 3 d) (fun σ H g h => h) (fun gh i d hd => ?_) ?_
  · obtain ⟨rfl, hi⟩ := rg_at hd
    have hbl := leadBase_len (many := many) (by omega) h5 i
    refine ws_for (f := fun d env => env.put 4 (.d d)) (fun j => ⟨[.d (.int many), .d (tI l), .a pf, .d (.int (0 + (i : Int))), .no, .no, .no, .no, .no], [gh]⟩) (fun j => [(pf, .t (leadIn many (i : Int) (leadBase many i) ((rng ((i : Int) + 1) many).take j)))]) rfl (iv_R2 rfl T.b_range (ev_add (ev_var 3 rfl) ev_int) (ev_var 0 rfl) (by omega)) (pg_name sc_leads_of.nd rfl (.inl rfl)) (fun d _ => bns_name 4 d) (fun σ H g h => h) (fun gh2 j d hd2 => ?_) ?_
    · obtain ⟨rfl, hj⟩ := rg_at hd2
      have hjl := (List.getElem?_eq_some_iff.mp hd2).1
      rw [rg_lenD] at hjl
      have hle := leadIn_len many (i : Int) (leadBase many i) ((rng ((i : Int) + 1) many).take j)
      rw [List.length_take, rng_len] at hle
      refine ws_dput 2 0 (ks := kI [(i : Int), 0 + (i : Int) + 1 + (j : Int)]) (v := .int 0) (un64 hr) rfl rfl ev_int (EV.to (ev_tup (av_cons (ev_var 3 rfl) (av_cons (ev_var 4 rfl) av_nil)) (sz_of (by simp))) ?_) (sz_lt (by omega)) (ws_nil fun σ H h => ?_)
      · rw [kI_d, Int.zero_add]
        rfl
      · have en : leadIn many (i : Int) (leadBase many i) ((rng ((i : Int) + 1) many).take (j + 1)) = putK (leadIn many (i : Int) (leadBase many i) ((rng ((i : Int) + 1) many).take j)) (kI [(i : Int), 0 + (i : Int) + 1 + (j : Int)]) (.int 0) := by
          have hg : (rng ((i : Int) + 1) many)[j]? = some (0 + (i : Int) + 1 + (j : Int)) := by
            have hj2 : j < (many - ((i : Int) + 1)).toNat := by omega
            simp only [rng, List.getElem?_map, List.getElem?_range hj2, Option.map_some]
            congr 1
            omega
          rw [List.take_add_one, hg]
          simp only [leadIn, List.foldl_append, Option.toList_some, List.foldl_cons, List.foldl_nil]
        rw [en]
        exact h.wk (.keep (.keep (.keep (.keep (.drop (.keep (.keep (.keep (.keep .nil)))))))))
    · refine ws_nil fun σ H h => ?_
      have en : leadBase many (i + 1) = leadIn many (i : Int) (leadBase many i) (rng ((i : Int) + 1) many) := by simp [leadBase, List.range_succ]
      rw [en]
      rw [rg_lenD, List.take_of_length_le (by rw [rng_len]; omega)] at h
      exact h.wk (.keep (.keep (.keep (.drop (.keep (.keep (.keep (.keep (.keep .nil)))))))))
  · rw [rg_lenD, Int.sub_zero]
    refine ws_new 5 sc_leads_of.nd (en_lstR rfl rfl T.b_list (gv_1 rfl T.b_range (ev_var 0 rfl)) (by simp only [RgOk]; omega)) fun pl => ?_
    refine ws_for (f := fun d env => env.put 6 (.d d)) (fun i => ⟨[.d (.int many), .d (tI l), .a pf, .no, .no, .a pl, .no, .no, .no], []⟩) (fun i => [(pf, .t (leadSt many (l.take i)).1), (pl, .l (iL (leadSt many (l.take i)).2))]) rfl (iv_U rfl (ev_var 1 rfl)) (pg_name sc_leads_of.nd rfl (.inl rfl)) (fun d _ => bns_name 6 d) (fun σ H g h => h) (fun gh i d hd => ?_) ?_
    · obtain ⟨st, hst, rfl⟩ := get_map hd
      have hm' := ok.1 st (List.mem_of_getElem? hst)
      simp only [okS] at hm'
      obtain ⟨ha, hp, hle⟩ := lead_inv (many := many) (l.take i) (leadBase many many.toNat, rng 0 many) hasAll_base (List.Perm.refl _) (by have := leadBase_len (many := many) (by omega) h5 many.toNat; show (leadBase many many.toNat).length ≤ 25; omega) (fun s hs => ok.1 s (List.mem_of_mem_take hs))
      have hnx : leadSt many (l.take (i + 1)) = leadStep (leadSt many (l.take i)) st := by
        rw [leadSt, leadSt, fold_take _ _ _ hst]
      change HasAll many (leadSt many (l.take i)).1 at ha
      change (leadSt many (l.take i)).2.Perm _ at hp
      change (leadSt many (l.take i)).1.length ≤ 25 at hle
      generalize leadSt many (l.take i) = z at ha hp hle hnx
      obtain ⟨kvs, line⟩ := z
      simp only at ha hp hle
      have hll := hp.length_eq
      rw [rng_len] at hll
      rw [hnx]
      dsimp only
      obtain ⟨low, high, ep, g0, g1, g2⟩ := pairAt_ok hp hm'.1 (by omega)
      obtain ⟨v, hv⟩ := ha low high g0 g1 g2
      rw [← ep] at hv
      have hgi : getI kvs (kI (pairAt line st.natAbs)) = v := by unfold getI; rw [hv]
      have e1 : (leadStep (kvs, line) st) = (putK kvs (kI (pairAt line st.natAbs)) (.int (v + sgn st)), swp line st.natAbs) := by
        unfold leadStep
        rw [hgi]
      rw [e1]
      refine ws_set 7 sc_leads_of.nd (ev_absC rfl T.b_abs (ev_var 6 rfl)) ?_
      refine ws_set 8 (d := tI (pairAt line st.natAbs)) sc_leads_of.nd (ev_tup (av_cons (ev_min2 rfl rfl T.b_min (ev_ixL (el_var 5 1 rfl rfl) (ev_sub (ev_var 7 rfl) ev_int) (atI_to (n := st.natAbs - 1) (by omega) (atI_ints (by omega)))) (ev_ixL (el_var 5 1 rfl rfl) (ev_var 7 rfl) (atI_ints (by omega))))
        (av_cons (ev_max2 rfl rfl T.b_max (ev_ixL (el_var 5 1 rfl rfl) (ev_sub (ev_var 7 rfl) ev_int) (atI_to (n := st.natAbs - 1) (by omega) (atI_ints (by omega)))) (ev_ixL (el_var 5 1 rfl rfl) (ev_var 7 rfl) (atI_ints (by omega)))) av_nil)) (sz_of (by simp [Mi.pairAt]))) ?_
      refine ws_daug 2 0 (ks := kI (pairAt line st.natAbs)) (i := v) (j := sgn st) (un64 hr) rfl rfl (EV.to (ev_var 8 rfl) (by rw [kI_d])) hv (ev_if (tv_gt (ev_var 6 rfl) ev_int) (fun h => EV.to ev_int (by rw [sgn, if_pos (of_decide_eq_true h)])) (fun h => EV.to (ev_neg ev_int) (by rw [sgn, if_neg (of_decide_eq_false h)]))) (sz_lt (by omega)) ?_
      refine ws_swap 5 1 (st.natAbs - 1) st.natAbs (d1 := .int (line.getD st.natAbs 0)) (d2 := .int (line.getD (st.natAbs - 1) 0)) rfl rfl rfl (ev_ixL (el_var 5 1 rfl rfl) (ev_var 7 rfl) (atI_ints (by omega))) (ev_ixL (el_var 5 1 rfl rfl) (ev_sub (ev_var 7 rfl) ev_int) (atI_to (n := st.natAbs - 1) (by omega) (atI_ints (by omega))))
        (fun ds' => ev_sub (ev_var 7 rfl) ev_int) (fun ds' => ev_var 7 rfl) (by omega) rfl (by rw [List.length_map]; omega) (by rw [List.length_map]; omega) (ws_nil fun σ H h => ?_) (hg := ?_)
      · have e3 : iL (swp line st.natAbs) = ((iL line).set (st.natAbs - 1) (.int (line.getD st.natAbs 0))).set st.natAbs (.int (line.getD (st.natAbs - 1) 0)) := by simp [iL, swp, List.map_set]
        rw [e3]
        exact h.wk (.keep (.keep (.keep (.keep (.keep (.keep (.drop (.drop (.drop .nil)))))))))
      · exact pg_tup rfl (pgs_cons (pg_sub (pe_var rfl (.inl rfl) (by decide) (by decide)) pe_c set_list) (pgs_cons (pg_sub (pe_var rfl (.inl rfl) (by decide) (by decide)) pe_c set_list) pgs_nil))
    · rw [List.length_map, List.take_length]
      exact ws_retN 2 0 rfl rfl q
theorem k_leads (T : Txt K mg) : Def P wl K mg base "leads" 6 (PN K R_leads) := by
  refine def_new T.h_leads T.g_leads sc_leads T.bd_leads (fun ds d ⟨_, _, h, _⟩ => by rw [h]; rfl) (by decide) fun cdv A outer s H E L Dn ds d hr hR q => ?_
  obtain ⟨many, l, rfl, h2, h5, ok, rfl⟩ := hR
  exact ws_expr (ev_call (k_need_one T) hr rfl (av_cons (ev_var 0 rfl) (av_cons (ev_var 1 rfl) av_nil)) ⟨many, l, rfl, h2, h5, ok, rfl⟩)
    (ws_retE (eo_call (k_leads_of T) (hr.mono (by decide)) rfl (av_cons (ev_var 0 rfl) (av_cons (ev_var 1 rfl) av_nil)) ⟨many, l, rfl, h2, h5, ok, rfl⟩) q)
end
end Q95
end
section
set_option linter.all false
set_option maxRecDepth 100000
/-! M4: sides, spans. -/
namespace Mi
open Mp
def evens {α : Type} : List α → List α
  | [] => []
  | [x] => [x]
  | x :: _ :: r => x :: evens r
theorem evens_get {α : Type} : ∀ (l : List α) (i : Nat), (evens l)[i]? = l[2 * i]?
  | [], i => by simp [evens]
  | [x], 0 => rfl
  | [x], i + 1 => by simp [evens]
  | x :: y :: r, 0 => rfl
  | x :: y :: r, i + 1 => by
    rw [show 2 * (i + 1) = 2 * i + 1 + 1 by omega]
    simp only [evens, List.getElem?_cons_succ]
    exact evens_get r i
theorem evens_len {α : Type} : ∀ l : List α, (evens l).length = (l.length + 1) / 2
  | [] => by simp [evens]
  | [x] => by simp [evens]
  | x :: y :: r => by simp only [evens, List.length_cons]; rw [evens_len r]; omega
theorem filterMap_range {α : Type} (l : List α) (f : Nat → Nat) : ∀ k : Nat, (∀ i, i < k → f i < l.length) → ((List.range k).filterMap fun m => l[f m]?).length = k ∧ ∀ i, i < k → ((List.range k).filterMap fun m => l[f m]?)[i]? = l[f i]?
  | 0, _ => ⟨rfl, fun i h => by omega⟩
  | k + 1, h => by
    obtain ⟨h1, h2⟩ := filterMap_range l f k fun i hi => h i (by omega)
    have hk := h k (by omega)
    have e : ((List.range (k + 1)).filterMap fun m => l[f m]?) = ((List.range k).filterMap fun m => l[f m]?) ++ [l[f k]] := by
      rw [List.range_succ, List.filterMap_append]
      simp [List.filterMap_cons, List.getElem?_eq_getElem hk]
    rw [e]
    refine ⟨by simp [h1], fun i hi => ?_⟩
    by_cases hik : i < k
    · rw [List.getElem?_append_left (by omega)]
      exact h2 i hik
    · have : i = k := by omega
      subst this
      rw [List.getElem?_append_right (by omega), h1, Nat.sub_self, List.getElem?_eq_getElem hk]
      rfl
theorem st2 (n : Nat) : stLo n 2 = 0 ∧ stK n 2 = (n + 1) / 2 := by
  unfold stLo stK PySem.Builtin.Slice.sliceAdjust PySem.Builtin.Slice.slicePlaces
  simp
  omega
theorem pickS_2 {α : Type} (l : List α) : pickS l 2 = evens l := by
  obtain ⟨h1, h2⟩ := st2 l.length
  unfold pickS
  rw [h1, h2]
  have e : (fun (m : Nat) => l[((0 : Int) + (m : Int) * 2).toNat]?) = fun m => l[2 * m]? := by
    funext m
    have : ((0 : Int) + (m : Int) * 2).toNat = 2 * m := by omega
    rw [this]
  rw [e]
  obtain ⟨g1, g2⟩ := filterMap_range l (fun m => 2 * m) ((l.length + 1) / 2) fun i hi => by omega
  apply List.ext_getElem?
  intro i
  by_cases hi : i < (l.length + 1) / 2
  · rw [g2 i hi, evens_get]
  · rw [List.getElem?_eq_none (by omega), List.getElem?_eq_none (by rw [evens_len]; omega)]
def someNum (ns : List Int) : List Int := (evens ns).filter fun x => !decide (x = 0)
def sideOf (many : Int) (l : List Int) : Int := match someNum (numbersIn many l) with
  | [] => 0
  | x :: _ => if 0 < x then 1 else -1
def seenB (many : Int) (l : List Int) : List Int := l.map fun s => if 0 < s then many - s else 0 - many - s
def someAt (ns : List Int) : List Int := ((evens ns).zipIdx.filter fun z => !decide (z.1 = 0)).map fun z => (z.2 : Int)
def noughts (many : Int) (l : List Int) : Option Int := (someAt (numbersIn many l)).head?
def dOpt : Option Int → D
  | none => .non
  | some i => .int i
def spanOf (many : Int) (l : List Int) : Option (Int × Int) := match noughts many l, noughts many (seenB many l) with
  | some i, some j => some (i, many - 1 - j)
  | _, _ => none
def dOpt2 : Option (Int × Int) → D
  | none => .non
  | some p => tI [p.1, p.2]
theorem enumD_ints (l : List Int) : enumD (iL l) = l.zipIdx.map fun z => .tup [.int (z.2 : Int), .int z.1] := by
  unfold enumD iL
  rw [List.zipIdx_map, List.map_map]
  rfl
end Mi
end
section
set_option linter.all false
set_option maxRecDepth 100000
/-! M5: blocks. -/
namespace Mi
open Mp
def row (first right sign : Int) : List Int := (rng 0 right).map fun k => sign * (first + k + 1)
def passed (start left right sign : Int) : List Int := (rgd (start + left - 1) (start - 1)).flatMap fun first => row first right sign
def widStep (z : List Int × List Int) (s : Int) : List Int × List Int := (swp z.1 s.natAbs, z.2 ++ passed (z.1.take (s.natAbs - 1)).sum (z.1.getD (s.natAbs - 1) 0) (z.1.getD s.natAbs 0) (sgn s))
def widSt (sizes l : List Int) : List Int × List Int := l.foldl widStep (sizes, [])
def widenedOf (sizes l : List Int) : List Int := (widSt sizes l).2
def lotsSt (sizes : List Int) : List (List Int) × Int := sizes.foldl (fun z s => (z.1 ++ [rng z.2 (z.2 + s)], z.2 + s)) ([], 0)
def lotsOf (sizes : List Int) : List (List Int) := (lotsSt sizes).1
def outerOf (many : Int) (l sizes : List Int) : List Int := leftOf many l ((lotsOf sizes).map fun lot => lot.getD 0 0)
def innerOf (many : Int) (l sizes : List Int) : List (List Int) := (lotsOf sizes).map fun lot => leftOf many l lot
def shiftD (b : Int) (l : List Int) : List Int := l.map fun s => if 0 < s then s + b else s - b
def together (sizes outer : List Int) (inner : List (List Int)) : List Int := ((lotsOf sizes).zip inner).flatMap (fun z => shiftD (z.1.getD 0 0) z.2) ++ widenedOf sizes outer
def moveAsOne (many : Int) (l sizes : List Int) : Bool := isAlike many l (together sizes (outerOf many l sizes) (innerOf many l sizes))
def divStep (many : Int) (found : List (List Int)) : List (List Int) := found.flatMap fun sizes => if 0 < many - sizes.sum then (rng 1 (many - sizes.sum + 1)).map fun s => sizes ++ [s] else [sizes]
def divs (many : Int) (n : Nat) : List (List Int) := (List.range n).foldl (fun acc _ => divStep many acc) [[]]
def allDivs (many : Int) : List (List Int) := srt HT.lexLt ((divs many many.toNat).filter fun s => decide ((1 : Int) < s.length))
def blocksOf (many : Int) (l : List Int) : List (List Int) := (allDivs many).filter fun s => moveAsOne many l s
/-- sizes of blocks -/
def Sizes (sizes : List Int) : Prop := (2 ≤ sizes.length ∧ sizes.length ≤ 5) ∧ (∀ s ∈ sizes, 1 ≤ s ∧ s ≤ 5) ∧ sizes.sum ≤ 5
theorem row_len (first right sign : Int) : (row first right sign).length = right.toNat := by simp [row, rng_len]
theorem rgd_len (a b : Int) : (rgd a b).length = (a - b).toNat := by simp [rgd]
theorem passed_len (start left right sign : Int) : (passed start left right sign).length = left.toNat * right.toNat := by
  unfold passed
  rw [List.length_flatMap]
  have : (List.map (fun first => (row first right sign).length) (rgd (start + left - 1) (start - 1))) = List.replicate left.toNat right.toNat := by
    rw [show left.toNat = (rgd (start + left - 1) (start - 1)).length by rw [rgd_len]; omega]
    apply List.ext_getElem?
    intro i
    rw [List.getElem?_map, List.getElem?_replicate]
    split
    · rename_i h
      rw [List.getElem?_eq_getElem h]
      simp [row_len]
    · rename_i h
      rw [List.getElem?_eq_none (by omega)]
      rfl
  rw [this]
  simp
theorem mem_rgd {a b x : Int} : x ∈ rgd a b ↔ b < x ∧ x ≤ a := by
  unfold rgd
  rw [List.mem_map]
  constructor
  · rintro ⟨k, hk, rfl⟩
    rw [List.mem_range] at hk
    omega
  · intro h
    exact ⟨(a - x).toNat, by rw [List.mem_range]; omega, by omega⟩
theorem sgn_abs (s : Int) : sgn s = 1 ∨ sgn s = -1 := by unfold sgn; split <;> simp
theorem passed_ok {start left right sign many : Int} (h0 : 0 ≤ start) (hs : sign = 1 ∨ sign = -1) (h : start + left + right ≤ many) : ∀ s ∈ passed start left right sign, 1 ≤ s.natAbs ∧ (s.natAbs : Int) < many := by
  intro s hs'
  unfold passed row at hs'
  obtain ⟨first, hf, hs'⟩ := List.mem_flatMap.mp hs'
  obtain ⟨k, hk, rfl⟩ := List.mem_map.mp hs'
  rw [mem_rgd] at hf
  rw [mem_rng] at hk
  rcases hs with rfl | rfl
  · rw [Int.one_mul]; omega
  · rw [Int.neg_one_mul]; omega
theorem sum_nonneg : ∀ {l : List Int}, (∀ s ∈ l, 0 ≤ s) → 0 ≤ l.sum
  | [], _ => by simp
  | x :: l, h => by
    have := sum_nonneg fun s hs => h s (List.mem_cons_of_mem _ hs)
    have := h x (by simp)
    simp only [List.sum_cons]
    omega
theorem sum_perm {l m : List Int} (h : l.Perm m) : l.sum = m.sum := by
  induction h with
  | nil => rfl
  | cons x _ ih => simp only [List.sum_cons]; omega
  | swap x y l => simp only [List.sum_cons]; omega
  | trans _ _ h1 h2 => exact h1.trans h2
theorem sum3 {line : List Int} {a : Nat} (h1 : 1 ≤ a) (h2 : a < line.length) (h0 : ∀ s ∈ line, 0 ≤ s) : 0 ≤ (line.take (a - 1)).sum ∧ (line.take (a - 1)).sum + line.getD (a - 1) 0 + line.getD a 0 ≤ line.sum := by
  obtain ⟨p, q, e, hp⟩ := line_split h1 h2
  generalize line.getD (a - 1) 0 = x at e ⊢
  generalize line.getD a 0 = y at e ⊢
  subst e
  have et : (p ++ x :: y :: q).take (a - 1) = p := List.take_left' (by omega)
  rw [et]
  have hq := sum_nonneg (l := q) fun s hs => h0 s (by simp [hs])
  refine ⟨sum_nonneg fun s hs => h0 s (by simp [hs]), ?_⟩
  simp only [List.sum_append, List.sum_cons]
  omega
/-- what is widened stays in its line -/
theorem wid_inv {many : Int} : ∀ (l : List Int) (z : List Int × List Int) (sizes : List Int), z.1.Perm sizes → (∀ s ∈ sizes, 0 ≤ s ∧ s ≤ 5) → sizes.sum ≤ many → (∀ s ∈ l, 1 ≤ s.natAbs ∧ s.natAbs < sizes.length) → (∀ s ∈ z.2, 1 ≤ s.natAbs ∧ (s.natAbs : Int) < many) →
    (l.foldl widStep z).1.Perm sizes ∧ (∀ s ∈ (l.foldl widStep z).2, 1 ≤ s.natAbs ∧ (s.natAbs : Int) < many) ∧ (l.foldl widStep z).2.length ≤ z.2.length + 25 * l.length
  | [], z, sizes, h1, _, _, _, h3 => ⟨h1, h3, by simp⟩
  | s :: l, z, sizes, h1, h2, hm, ok, h3 => by
    have hs := ok s (by simp)
    have hl := h1.length_eq
    have hz : ∀ s ∈ z.1, 0 ≤ s ∧ s ≤ 5 := fun x hx => h2 x (h1.mem_iff.mp hx)
    obtain ⟨g0, g1⟩ := sum3 hs.1 (by omega) fun x hx => (hz x hx).1
    rw [sum_perm h1] at g1
    obtain ⟨k1, k2, k3⟩ := wid_inv (many := many) l (widStep z s) sizes ((swp_perm hs.1 (by omega)).trans h1) h2 hm (fun x hx => ok x (by simp [hx])) (fun x hx => by
      rcases List.mem_append.mp hx with hx | hx
      · exact h3 x hx
      · exact passed_ok g0 (sgn_abs s) (by omega) x hx)
    rw [List.foldl_cons]
    refine ⟨k1, k2, ?_⟩
    have hp : (passed (z.1.take (s.natAbs - 1)).sum (z.1.getD (s.natAbs - 1) 0) (z.1.getD s.natAbs 0) (sgn s)).length ≤ 25 := by
      rw [passed_len]
      have a1 : ∀ k : Nat, k < z.1.length → z.1.getD k 0 ≤ 5 := fun k hk => by
        rw [List.getD_eq_getElem?_getD, List.getElem?_eq_getElem hk]
        exact (hz _ (List.getElem_mem hk)).2
      have b1 := a1 (s.natAbs - 1) (by omega)
      have b2 := a1 s.natAbs (by omega)
      have c1 : (z.1.getD (s.natAbs - 1) 0).toNat ≤ 5 := by omega
      have c2 : (z.1.getD s.natAbs 0).toNat ≤ 5 := by omega
      exact Nat.mul_le_mul c1 c2
    have e2 : (widStep z s).2.length = z.2.length + (passed (z.1.take (s.natAbs - 1)).sum (z.1.getD (s.natAbs - 1) 0) (z.1.getD s.natAbs 0) (sgn s)).length := by simp [widStep]
    simp only [List.length_cons]
    omega
end Mi
end
section
set_option linter.all false
set_option maxRecDepth 100000
/-! M6: blocks' lots, dances put together. -/
namespace Mi
open Mp
theorem lots_inv : ∀ (m : List Int) (z : List (List Int) × Int), (∀ s ∈ m, 1 ≤ s) → 0 ≤ z.2 → (∀ lot ∈ z.1, ∃ a s : Int, lot = rng a (a + s) ∧ 0 ≤ a ∧ 1 ≤ s ∧ a + s ≤ z.2) →
    (∀ lot ∈ (m.foldl (fun z s => (z.1 ++ [rng z.2 (z.2 + s)], z.2 + s)) z).1, ∃ a s : Int, lot = rng a (a + s) ∧ 0 ≤ a ∧ 1 ≤ s ∧ a + s ≤ z.2 + m.sum) ∧ (m.foldl (fun z s => (z.1 ++ [rng z.2 (z.2 + s)], z.2 + s)) z).1.length = z.1.length + m.length
  | [], z, _, _, h => ⟨by simpa using h, by simp⟩
  | x :: m, z, hm, h0, h => by
    have hx := hm x (by simp)
    obtain ⟨a, b⟩ := lots_inv m (z.1 ++ [rng z.2 (z.2 + x)], z.2 + x) (fun s hs => hm s (by simp [hs])) (by show 0 ≤ z.2 + x; omega) (fun lot hl => by
      rcases List.mem_append.mp hl with hl | hl
      · obtain ⟨p, s, e, h1, h2, h3⟩ := h lot hl
        exact ⟨p, s, e, h1, h2, by show p + s ≤ z.2 + x; omega⟩
      · rw [List.mem_singleton.mp hl]
        exact ⟨z.2, x, rfl, h0, hx, Int.le_refl _⟩)
    rw [List.foldl_cons]
    refine ⟨fun lot hl => ?_, by rw [b]; simp; omega⟩
    obtain ⟨p, s, e, h1, h2, h3⟩ := a lot hl
    refine ⟨p, s, e, h1, h2, ?_⟩
    simp only [List.sum_cons] at *
    omega
theorem lots_of {sizes : List Int} (h : ∀ s ∈ sizes, 1 ≤ s) : (∀ lot ∈ lotsOf sizes, ∃ a s : Int, lot = rng a (a + s) ∧ 0 ≤ a ∧ 1 ≤ s ∧ a + s ≤ sizes.sum) ∧ (lotsOf sizes).length = sizes.length := by
  have := lots_inv sizes ([], 0) h (Int.le_refl _) (fun lot hl => by simp at hl)
  simpa [lotsOf, lotsSt] using this
theorem rng_get0 {a s : Int} (h : 1 ≤ s) : (rng a (a + s)).getD 0 0 = a := by
  unfold rng
  have : (a + s - a).toNat = (s.toNat - 1) + 1 := by omega
  rw [this, List.range_succ_eq_map]
  simp
theorem shift_ok {b s many : Int} {l : List Int} (h : ∀ x ∈ l, 1 ≤ x.natAbs ∧ (x.natAbs : Int) < s) (h0 : 0 ≤ b) (hm : b + s ≤ many) : ∀ x ∈ shiftD b l, 1 ≤ x.natAbs ∧ (x.natAbs : Int) < many := by
  intro x hx
  obtain ⟨y, hy, rfl⟩ := List.mem_map.mp hx
  have := h y hy
  split <;> omega
theorem wid_ok {sizes l : List Int} (hz : Sizes sizes) (ok : ∀ s ∈ l, 1 ≤ s.natAbs ∧ (s.natAbs : Int) < sizes.length) : (∀ s ∈ widenedOf sizes l, 1 ≤ s.natAbs ∧ (s.natAbs : Int) < sizes.sum) ∧ (widenedOf sizes l).length ≤ 25 * l.length := by
  obtain ⟨_, h2, h3⟩ := wid_inv (many := sizes.sum) l (sizes, []) sizes (List.Perm.refl _) (fun s hs => ⟨by have := (hz.2.1 s hs).1; omega, (hz.2.1 s hs).2⟩) (Int.le_refl _) (fun s hs => by have := ok s hs; omega) (fun s hs => by simp at hs)
  refine ⟨h2, ?_⟩
  simp only [List.length_nil, Nat.zero_add] at h3
  exact h3
theorem tog_ok {sizes outer : List Int} {inner : List (List Int)} (hz : Sizes sizes) (ok : ∀ s ∈ outer, 1 ≤ s.natAbs ∧ (s.natAbs : Int) < sizes.length) (hi : ∀ z ∈ (lotsOf sizes).zip inner, ∀ x ∈ z.2, 1 ≤ x.natAbs ∧ (x.natAbs : Int) < z.1.length) : ∀ s ∈ together sizes outer inner, 1 ≤ s.natAbs ∧ (s.natAbs : Int) < sizes.sum := by
  intro s hs
  rcases List.mem_append.mp hs with hs | hs
  · obtain ⟨z, hz2, hs⟩ := List.mem_flatMap.mp hs
    obtain ⟨a, b, e, h1, h2, h3⟩ := (lots_of fun s hs => (hz.2.1 s hs).1).1 z.1 (List.of_mem_zip hz2).1
    have hi2 := hi z hz2
    rw [e, rng_get0 h2] at hs
    rw [e, rng_len] at hi2
    exact shift_ok (s := b) (fun x hx => by have := hi2 x hx; omega) h1 h3 s hs
  · exact (wid_ok hz ok).1 s hs
theorem zip_map_self {α β : Type} (f : α → β) : ∀ (l : List α) (z : α × β), z ∈ l.zip (l.map f) → z.2 = f z.1
  | [], z, h => by simp at h
  | x :: l, z, h => by
    rw [List.map_cons, List.zip_cons_cons] at h
    rcases List.mem_cons.mp h with h | h
    · subst h; rfl
    · exact zip_map_self f l z h
theorem flat_len {α : Type} (f : α → List Int) (k : Nat) : ∀ l : List α, (∀ x ∈ l, (f x).length ≤ k) → (l.flatMap f).length ≤ l.length * k
  | [], _ => by simp
  | x :: l, h => by
    have := flat_len f k l fun y hy => h y (by simp [hy])
    have := h x (by simp)
    simp only [List.flatMap_cons, List.length_append, List.length_cons, Nat.succ_mul]
    omega
theorem divs_ok : ∀ m : Nat, m ≤ 5 → ∀ i : Nat, i ≤ 5 → (divs m i).length ≤ 32 ∧ ∀ s ∈ divs m i, (0 ≤ s.sum ∧ s.sum ≤ m) ∧ s.length ≤ 5 := by decide +kernel
theorem divs_all : ∀ m : Nat, m ≤ 5 → ∀ s ∈ divs m m, 1 < s.length → (s.length ≤ 5 ∧ (∀ x ∈ s, 1 ≤ x ∧ x ≤ 5)) ∧ s.sum = m := by decide +kernel
theorem allDivs_ok {many : Int} (h0 : 0 ≤ many) (h5 : many ≤ 5) {s : List Int} (h : s ∈ allDivs many) : Sizes s ∧ s.sum = many := by
  have h1 := (tot_lex.srt_ok _).1.mem_iff.mp h
  obtain ⟨h2, h3⟩ := List.mem_filter.mp h1
  have h3 := of_decide_eq_true h3
  obtain ⟨n, rfl⟩ : ∃ n : Nat, many = (n : Int) := ⟨many.toNat, by omega⟩
  rw [show ((n : Int)).toNat = n by omega] at h2
  obtain ⟨⟨a, b⟩, c⟩ := divs_all n (by omega) s h2 (by omega)
  exact ⟨⟨⟨by omega, a⟩, b, by omega⟩, by omega⟩
end Mi
end
section
set_option linter.all false
set_option maxRecDepth 100000
/-! M7: the law's own defs. -/
namespace Mi
open Mp
def begOf (sizes : List Int) : List Int := sizes.dropLast.foldl (fun f s => f ++ [f.getLastD 0 + s]) [0]
def longerOf (lots : List (List Int)) (ds : List Int) : List (List Int) := lots.flatMap fun lot => ds.map fun d => lot ++ [d]
def chStep (sizes : List Int) (f : List (List Int)) (k : Int) : List (List Int) := longerOf f (rng ((begOf sizes).getD k.toNat 0) ((begOf sizes).getD k.toNat 0 + sizes.getD k.toNat 0))
def choicesOf (sizes lot : List Int) : List (List Int) := lot.foldl (chStep sizes) [[]]
/-- one drawn move -/
inductive Mv (m : Int) : List Int → List Int → Prop
  | ins (a b : List Int) (s : Int) : 1 ≤ s.natAbs → (s.natAbs : Int) < m → Mv m (a ++ b) (a ++ [s, 0 - s] ++ b)
  | del (a b : List Int) (x y : Int) : x = 0 - y → Mv m (a ++ x :: y :: b) (a ++ b)
  | far (a b : List Int) (x y : Int) : 1 < ((x.natAbs : Int) - (y.natAbs : Int)).natAbs → Mv m (a ++ x :: y :: b) (a ++ [y, x] ++ b)
  | braid (a b : List Int) (x y : Int) : (0 < x ↔ 0 < y) → ((x.natAbs : Int) - (y.natAbs : Int)).natAbs = 1 → Mv m (a ++ x :: y :: x :: b) (a ++ [y, x, y] ++ b)
inductive Near (m : Int) : List Int → List Int → Prop
  | refl (l : List Int) : Near m l l
  | step {l l1 l2 : List Int} : Near m l l1 → Mv m l1 l2 → Near m l l2
end Mi
end
section
set_option linter.all false
set_option maxRecDepth 100000
/-! M8: lengths of choices. -/
namespace Mi
open Mp
theorem longer_len (k : Nat) (lots : List (List Int)) (ds : List Int) : (longerOf lots ds).length = lots.length * ds.length := by
  unfold longerOf
  rw [List.length_flatMap]
  induction lots with
  | nil => simp
  | cons x l ih => simp only [List.map_cons, List.sum_cons, List.length_map, List.length_cons, Nat.succ_mul] at *; omega
theorem longer_mem {lots : List (List Int)} {ds : List Int} {x : List Int} (h : x ∈ longerOf lots ds) : ∃ lot ∈ lots, ∃ d ∈ ds, x = lot ++ [d] := by
  obtain ⟨lot, hl, h⟩ := List.mem_flatMap.mp h
  obtain ⟨d, hd, rfl⟩ := List.mem_map.mp h
  exact ⟨lot, hl, d, hd, rfl⟩
theorem ch_len {sizes : List Int} (hs : ∀ k : Nat, sizes.getD k 0 ≤ 5) : ∀ (lot : List Int) (f : List (List Int)) (n m : Nat), f.length ≤ n → (∀ x ∈ f, x.length = m) → (lot.foldl (chStep sizes) f).length ≤ n * 5 ^ lot.length ∧ ∀ x ∈ lot.foldl (chStep sizes) f, x.length = m + lot.length
  | [], f, n, m, h1, h2 => ⟨by simpa using h1, by simpa using h2⟩
  | k :: lot, f, n, m, h1, h2 => by
    have hk : (chStep sizes f k).length ≤ n * 5 := by
      unfold chStep
      rw [longer_len 0, rng_len]
      have := hs k.toNat
      exact Nat.mul_le_mul h1 (by omega)
    obtain ⟨a, b⟩ := ch_len hs lot (chStep sizes f k) (n * 5) (m + 1) hk (fun x hx => by
      obtain ⟨lt, hl, d, _, rfl⟩ := longer_mem hx
      rw [List.length_append, h2 lt hl]
      rfl)
    rw [List.foldl_cons]
    refine ⟨?_, fun x hx => by rw [b x hx, List.length_cons]; omega⟩
    rw [List.length_cons, Nat.pow_succ, Nat.mul_comm (5 ^ lot.length) 5, ← Nat.mul_assoc]
    exact a
theorem beg_len (sizes : List Int) (h : 0 < sizes.length) : (begOf sizes).length = sizes.length := by
  have : ∀ (m f : List Int), (m.foldl (fun f s => f ++ [f.getLastD 0 + s]) f).length = f.length + m.length := by
    intro m
    induction m with
    | nil => simp
    | cons x m ih => intro f; rw [List.foldl_cons, ih]; simp; omega
  unfold begOf
  rw [this]
  simp
  omega
end Mi
end
section
set_option linter.all false
set_option maxRecDepth 100000
/-! M9: orders, dances undone and turned about, meetings, least leavings (mirrors). -/
namespace Mi
open Mp L2
def lineOf (many : Int) (l : List Int) : List Int := l.foldl (fun z s => swp z s.natAbs) (rng 0 many)
theorem lineOf_len (many : Int) (l : List Int) : (lineOf many l).length = many.toNat := by
  unfold lineOf
  have : ∀ (l z : List Int), (l.foldl (fun z s => swp z s.natAbs) z).length = z.length := by
    intro l
    induction l with
    | nil => intro z; rfl
    | cons s l ih => intro z; rw [List.foldl_cons, ih, swp_len]
  rw [this, rng_len]
  simp
def undo (l : List Int) : List Int := l.reverse.map fun s => 0 - s
def mir (l : List Int) : List Int := l.map fun s => 0 - s
def turn (many : Int) (l : List Int) : List Int := l.map fun s => if 0 < s then many - s else 0 - s - many
def prsOf (many : Int) : List (List Int) := (rng 0 many).flatMap fun one => (rng (one + 1) many).map fun other => [one, other]
def swapD (order : List Int) (a : Nat) : List Int := order.take a ++ [order.getD (a + 1) 0, order.getD a 0] ++ order.drop (a + 2)
def pairD (order : List Int) (a : Nat) : List Int := [min (order.getD a 0) (order.getD (a + 1) 0), max (order.getD a 0) (order.getD (a + 1) 0)]
theorem swapD_swp {line : List Int} {a : Nat} (h1 : 1 ≤ a) (h2 : a < line.length) : swapD line (a - 1) = swp line a := by
  obtain ⟨p, q, e, hp⟩ := line_split h1 h2
  generalize line.getD (a - 1) 0 = x at e
  generalize line.getD a 0 = y at e
  subst e hp
  rw [swp_app, Nat.add_sub_cancel]
  unfold swapD
  rw [getD_app0, getD_app1]
  simp [List.drop_append]
theorem pairD_at (line : List Int) {a : Nat} (h1 : 1 ≤ a) : pairD line (a - 1) = pairAt line a := by
  unfold pairD pairAt
  rw [Nat.sub_add_cancel h1]
/-- who meets, step by step, and whether forward -/
def metOf (many : Int) (l : List Int) : List (List Int × Bool) := (l.foldl (fun (z : List Int × List (List Int × Bool)) s => (swp z.1 s.natAbs, z.2 ++ [(pairAt z.1 s.natAbs, decide (0 < s))])) (rng 0 many, [])).2
def metSt (many : Int) (l : List Int) : List Int × List (List Int × Bool) := l.foldl (fun (z : List Int × List (List Int × Bool)) s => (swp z.1 s.natAbs, z.2 ++ [(pairAt z.1 s.natAbs, decide (0 < s))])) (rng 0 many, [])
theorem metSt_1 (many : Int) (l : List Int) : (metSt many l).1 = lineOf many l := by
  unfold metSt lineOf
  have : ∀ (l : List Int) (z : List Int × List (List Int × Bool)), (l.foldl (fun (z : List Int × List (List Int × Bool)) s => (swp z.1 s.natAbs, z.2 ++ [(pairAt z.1 s.natAbs, decide (0 < s))])) z).1 = l.foldl (fun z s => swp z s.natAbs) z.1 := by
    intro l
    induction l with
    | nil => intro z; rfl
    | cons s l ih => intro z; rw [List.foldl_cons, List.foldl_cons, ih]
  exact this _ _
theorem metSt_len (many : Int) (l : List Int) : (metSt many l).2.length = l.length := by
  unfold metSt
  have : ∀ (l : List Int) (z : List Int × List (List Int × Bool)), (l.foldl (fun (z : List Int × List (List Int × Bool)) s => (swp z.1 s.natAbs, z.2 ++ [(pairAt z.1 s.natAbs, decide (0 < s))])) z).2.length = z.2.length + l.length := by
    intro l
    induction l with
    | nil => intro z; rfl
    | cons s l ih => intro z; rw [List.foldl_cons, ih]; simp; omega
  rw [this]
  simp
def meetD (many : Int) (l : List Int) : LD := (metOf many l).foldl (fun acc z => putK acc (kI z.1) (.int (getI acc (kI z.1) + 1))) ((prsOf many).foldl (fun acc p => putK acc (kI p) (.int 0)) [])
theorem meetD_eq (many : Int) (l : List Int) : meetD many l = (metSt many l).2.foldl (fun acc z => putK acc (kI z.1) (.int (getI acc (kI z.1) + 1))) ((prsOf many).foldl (fun acc p => putK acc (kI p) (.int 0)) []) := rfl
theorem mem_prs {many : Int} {p : List Int} : p ∈ prsOf many ↔ ∃ low high : Int, p = [low, high] ∧ 0 ≤ low ∧ low < high ∧ high < many := by
  unfold prsOf
  rw [List.mem_flatMap]
  constructor
  · rintro ⟨x, hx, hp⟩
    obtain ⟨y, hy, rfl⟩ := List.mem_map.mp hp
    have := mem_rng.mp hx
    have := mem_rng.mp hy
    exact ⟨x, y, rfl, by omega, by omega, by omega⟩
  · rintro ⟨x, y, rfl, h0, h1, h2⟩
    exact ⟨x, mem_rng.mpr ⟨h0, by omega⟩, List.mem_map.mpr ⟨y, mem_rng.mpr ⟨by omega, h2⟩, rfl⟩⟩
/-- pairs who meet are pairs of dancers -/
theorem met_pairs {many : Int} {l : List Int} (ok : ∀ s ∈ l, 1 ≤ s.natAbs ∧ (s.natAbs : Int) < many) : ∀ z ∈ (metSt many l).2, ∃ low high : Int, z.1 = [low, high] ∧ 0 ≤ low ∧ low < high ∧ high < many := by
  have : ∀ (l : List Int) (z : List Int × List (List Int × Bool)), z.1.Perm (rng 0 many) → (∀ s ∈ l, 1 ≤ s.natAbs ∧ (s.natAbs : Int) < many) → (∀ y ∈ z.2, ∃ low high : Int, y.1 = [low, high] ∧ 0 ≤ low ∧ low < high ∧ high < many) →
      ∀ y ∈ (l.foldl (fun (z : List Int × List (List Int × Bool)) s => (swp z.1 s.natAbs, z.2 ++ [(pairAt z.1 s.natAbs, decide (0 < s))])) z).2, ∃ low high : Int, y.1 = [low, high] ∧ 0 ≤ low ∧ low < high ∧ high < many := by
    intro l
    induction l with
    | nil => intro z _ _ h; exact h
    | cons s l ih =>
      intro z hp ok h
      have hs := ok s (by simp)
      have hl := hp.length_eq
      rw [rng_len] at hl
      rw [List.foldl_cons]
      refine ih _ ((swp_perm hs.1 (by omega)).trans hp) (fun x hx => ok x (by simp [hx])) fun y hy => ?_
      rcases List.mem_append.mp hy with hy | hy
      · exact h y hy
      · rw [List.mem_singleton.mp hy]
        exact pairAt_ok hp hs.1 (by omega)
  exact this l _ (List.Perm.refl _) ok fun y hy => by simp at hy
theorem hasAll_prs (many : Int) : HasAll many ((prsOf many).foldl (fun acc p => putK acc (kI p) (.int 0)) []) := by
  have : ∀ (ps : List (List Int)) (acc : LD) (p : List Int), p ∈ ps ∨ (∃ i, valV acc (kI p) = some (.int i)) → ∃ i, valV (ps.foldl (fun acc p => putK acc (kI p) (.int 0)) acc) (kI p) = some (.int i) := by
    intro ps
    induction ps with
    | nil =>
      intro acc p h
      rcases h with h | h
      · simp at h
      · exact h
    | cons x ps ih =>
      intro acc p h
      rw [List.foldl_cons]
      refine ih _ p ?_
      by_cases e : kI p = kI x
      · right
        exact ⟨0, by rw [valV_put, if_pos e]⟩
      · rcases h with h | ⟨i, h⟩
        · rcases List.mem_cons.mp h with rfl | h
          · exact absurd rfl e
          · exact .inl h
        · exact .inr ⟨i, by rw [valV_put, if_neg e]; exact h⟩
  intro low high h0 h1 h2
  exact this _ _ _ (.inl (mem_prs.mpr ⟨low, high, rfl, h0, h1, h2⟩))
theorem prs_len {many : Int} (h0 : 0 ≤ many) (h5 : many ≤ 5) : (prsOf many).length ≤ 25 := by
  have : ∀ n : Nat, n ≤ 5 → (prsOf n).length ≤ 25 := by decide +kernel
  have := this many.toNat (by omega)
  rwa [show ((many.toNat : Nat) : Int) = many by omega] at this
def complOf (many : Int) (lot : List Int) : List Int := (rng 0 many).filter fun d => !decide (d ∈ lot)
def leastOf (many : Int) (l : List Int) : List (List Int) := (allLots many).dropLast.foldl (fun found lot => if !(found.any fun fewer => fewer.all fun d => decide (d ∈ lot)) && looseIn many l (complOf many lot) then found ++ [lot] else found) []
def wovenB (many : Int) (l : List Int) : Bool := decide (tanglesOf many l = [rng 0 many])
end Mi
end
section
set_option Elab.async false
set_option linter.all false
set_option maxRecDepth 100000
set_option maxHeartbeats 4000000
/-! Mp21: more small things. -/
namespace Mp
open PySem PySem.Spec PyProof.Rows L2
section
variable {w : Wd} {X : Cx} {env : En} {O : Os} {σ : L2.St} {H : Hp} {a b c : Expr} {p pos : Pos} {i j k : Int}
theorem tv_chainLL (ha : EV w X a env O (.int i)) (hb : EV w X b env O (.int j)) (hc : EV w X c env O (.int k)) (hm : lastMarks [.LtE, .LtE] [b, c] = false := by with_unfolding_all rfl) : TV w X (.Compare a [.LtE, .LtE] [b, c] pos) env O (decide (i ≤ j) && decide (j ≤ k)) := fun σ H h Q q =>
  rt_of (pt_chain op_le op_le pe_c pe_c pe_c hm) (ha σ H h _ fun v H1 l1 r1 => hb σ H1 l1.1 _ fun u H2 l2 r2 => by
    rw [rp_v r1, rp_v r2]
    refine ⟨i, j, rfl, rfl, decide (i ≤ j), rfl, ?_⟩
    cases hp : decide (i ≤ j) with
    | true =>
      refine iteT (hc σ H2 l2.1 _ fun t H3 l3 r3 => ?_)
      rw [rp_v r3]
      exact ⟨j, k, rfl, rfl, decide (j ≤ k), rfl, by rw [hp] at q; exact q H3 ((l1.trans l2).trans l3)⟩
    | false => exact iteF ⟨false, rfl, by rw [hp] at q; exact q H2 (l1.trans l2)⟩)
end
theorem iL_app (a b : List Int) : iL (a ++ b) = iL a ++ iL b := by simp [iL]
theorem bns_pairK {w : Wd} (m n : Nat) (x y : D) : BnS w (gTup w.K 2 (gCons (gName m) (gCons (gName n) gNil))) (.tup [x, y]) (fun env => (env.put m (.d x)).put n (.d y)) := fun env O σ H v h r Kt q => by
  cases r with
  | tup h1 r1 =>
    rename_i a xs
    cases r1 with
    | cons rx r2 =>
      cases r2 with
      | cons ry r3 =>
        cases r3
        exact ⟨a, _, rfl, ex_t (mn_le _ _) h1, rfl, _, _, rfl, _, _, rfl, rfl, q _ ((h.set m rx).set n ry)⟩
theorem bns_tripleK {w : Wd} (m n k : Nat) (x y z : D) : BnS w (gTup w.K 3 (gCons (gName m) (gCons (gName n) (gCons (gName k) gNil)))) (.tup [x, y, z]) (fun env => ((env.put m (.d x)).put n (.d y)).put k (.d z)) := fun env O σ H v h r Kt q => by
  cases r with
  | tup h1 r1 =>
    rename_i a xs
    cases r1 with
    | cons rx r2 =>
      cases r2 with
      | cons ry r3 =>
        cases r3 with
        | cons rz r4 =>
          cases r4
          exact ⟨a, _, rfl, ex_t (mn_le _ _) h1, rfl, _, _, rfl, _, _, rfl, _, _, rfl, rfl, q _ (((h.set m rx).set n ry).set k rz)⟩
section
variable {w : Wd} {X : Cx} {env : En} {O : Os} {σ : L2.St} {H : Hp} {a b c : Expr} {p pos : Pos} {i j k : Int} {ds : List D}
/-- xs * k, lists -/
theorem en_repL (ha : EL w X a env O ds) (hb : EV w X b env O (.int i)) (h3 : -1000 ≤ i ∧ i ≤ 1000) (hz : ds.length ≤ 1000) : EN w X (.BinOp a .Mult b pos) env O (List.replicate i.toNat ds).flatten := fun σ H h Q q =>
  re_of (pe_op op_rep pe_c pe_c) (ha σ H h _ fun v xs H1 l1 nb e1 r1 => hb σ H1 l1.1 _ fun u H2 l2 r2 => by
    rw [rp_int r2]
    refine ⟨v, i, xs, rfl, rfl, l2.2 v _ nb e1, by omega, by omega, ?_, fun t ht => q t _ (l2.1.made ht ((r1.mono l2.ex).rep _)) ((l1.trans l2).mk ht)⟩
    rw [r1.length]
    have : ds.length * i.toNat ≤ 1000 * 1000 := Nat.mul_le_mul hz (by omega)
    exact Nat.le_trans this (by decide))
end
/-- xs[:-1], xs[-1] -/
theorem cut_m1 {α : Type} (xs : List α) : cut xs none (some (-1)) = xs.dropLast := by
  unfold cut
  rw [HT.sIx_none]
  show (xs.drop 0).take (HT.sIx xs.length xs.length (some (-1)) - 0) = _
  have : HT.sIx xs.length xs.length (some (-1)) = xs.length - 1 := by
    unfold HT.sIx
    simp
    omega
  rw [this, List.drop_zero, Nat.sub_zero, List.dropLast_eq_take]
theorem atI_m1 {α : Type} (xs : List α) (x : α) : atI (xs ++ [x]) (-1) = some x := by
  have : ixN (xs ++ [x]).length (-1) = some xs.length := by
    unfold ixN
    rw [if_neg (by decide), if_pos (by simp; omega)]
    congr 1
    simp
    omega
  unfold atI
  rw [this]
  simp
end Mp
end
section
set_option Elab.async false
set_option linter.all false
set_option maxRecDepth 100000
set_option maxHeartbeats 4000000
/-! Mp22: three names at once; a script that stays at hand while draws are made. -/
namespace Mp
open PySem PySem.Spec PyProof.Rows L2
theorem sqL_at {K : PySem.W.Frag} {H H' : Hp} {a : Addr} {xs : List V} (h : SqL K H a xs) (k : ∀ o, H a = some o → H' a = some o) : SqL K H' a xs := by
  rcases h with (h | ⟨o, h⟩) | h
  · exact .inl (.inl (k _ h))
  · exact .inl (.inr ⟨o, k _ h⟩)
  · exact .inr h
section
variable {w : Wd} {X : Cx} {env : En} {O : Os} {σ : L2.St} {H H1 H2 H' : Hp} {a b c : Expr} {p pos : Pos} {d1 d2 d3 : D} {x : Str} {k : Nat} {Dn : Ends} {rest : List Stmt} {i j : Int}
theorem ws_par3 (i j l : Nat) {y z u : Str} {py pz pu pt pt2 : Pos} {kt k2 : Nat} (hc : X.calm = true) (hN : X.N.Nodup) (hij : i ≠ j) (hil : i ≠ l) (hjl : j ≠ l) (ha : EV w X a env O d1) (hb : EV w X b env O d2) (hcc : EV w X c env O d3) (q : WPS w X (((env.put i (.d d1)).put j (.d d2)).put l (.d d3)) O rest Dn) (hi : X.N[i]? = some y := by rfl) (hj : X.N[j]? = some z := by rfl) (hl : X.N[l]? = some u := by rfl)
    (hy : X.env.scope.names.lookup y = some .local := by rfl) (hz : X.env.scope.names.lookup z = some .local := by rfl) (hu : X.env.scope.names.lookup u = some .local := by rfl) (h1 : starEach [a, b, c] X.env = (false, eval a X.env) :: starEach [b, c] X.env := by rfl) (h2 : starEach [b, c] X.env = (false, eval b X.env) :: starEach [c] X.env := by rfl) (h3 : starEach [c] X.env = (false, eval c X.env) :: starEach [] X.env := by rfl)
    (hw : swappedStores [.Tuple [.Name y py, .Name z pz, .Name u pu] kt pt] (.Tuple [a, b, c] k2 pt2) X.env = pure (some [y, z, u]) := by rfl) (hs : swapsWithSole [.Tuple [.Name y py, .Name z pz, .Name u pu] kt pt] (.Tuple [a, b, c] k2 pt2) pos.line X.env = pure false := by rfl) :
    WPS w X env O (.Assign [.Tuple [.Name y py, .Name z pz, .Name u pu] kt pt] (.Tuple [a, b, c] k2 pt2) pos :: rest) Dn :=
  ws_cons (ps_par3 hc hN hi hj hl hij hil hjl hy hz hu (pa_cons pe_c (pa_cons pe_c (pa_cons pe_c pa_nil h3) h2) h1) hw hs) fun σ H hs => ha σ H hs _ fun v H1 l1 r1 => hb σ H1 l1.1 _ fun v2 H2 l2 r2 => hcc σ H2 l2.1 _ fun v3 H3 l3 r3 => ⟨v, v2, v3, rfl, q _ H3 (((l3.1.set i ((r1.mono l2.ex).mono l3.ex)).set j (r2.mono l3.ex)).set l r3)⟩
theorem ev_lenS {n : Nat} {y : Str} {py nm : Pos} {a : Addr} {ns : List Int} (hi : env.s[n]? = some (.a a)) (hg : Gl X "len") (hm : X.mg "len" = none) (hS : ∀ σ H, Sd w env O σ H → SqL X.K H a (ns.map V.int)) (hN : X.N[n]? = some y := by rfl) (hv : Vis X.env.scope y := by first | exact Or.inl rfl | exact Or.inr (Or.inl rfl) | exact Or.inr (Or.inr rfl)) (hd : (y == ("__debug__" : Str)) = false := by decide) (hcd : (y == ("__classdict__" : Str)) = false := by decide)
    (he : starEach [.Name y py] X.env = (false, eval (.Name y py) X.env) :: starEach [] X.env := by rfl) : EV w X (.Call (.Name "len" nm) [.Name y py] [] pos) env O (.int (ns.length : Int)) := fun σ H h Q q =>
  re_of (pe_callB call_len_seq hg hm PySem.boot_len (pa_cons (pe_var hN hv hd hcd) pa_nil he) (by decide) (by decide) he rfl) ⟨_, h.adr n a hi, ⟨a, _, rfl, .inl (hS σ H h), by rw [List.length_map]; exact q _ H (.refl h) (.v rfl)⟩⟩
theorem ws_begin2 {K : PySem.W.Frag} {H0 : Hp} {n i : Nat} {y z : Str} {py pz p2 : Pos} {a : Addr} {ns : List Int} (hK : X.K = K) (hN : X.N.Nodup) (hni : n ≠ i) (hi : env.s[n]? = some (.a a)) (hS : SqL K H0 a (ns.map V.int)) (hl : ns.length ≤ 1000) (F : Def X.prog X.w X.K X.mg X.base x k (PB K)) (hr : Room k X.A) (hg : Gl X x)
    (q : ∀ (d l c : Addr) (cs : List Int) (H' : Hp) (hd : d ∈ [d, l, c]) (hl : l ∈ [d, l, c]), IsDr (dw K [d, l, c] H' d l c hd hl) d l c cs → (∀ H2, (∀ b o, b ∉ [d, l] → H' b = some o → H2 b = some o) → SqL K H2 a (ns.map V.int)) → WPS (dw K [d, l, c] H' d l c hd hl) X ⟨((List.replicate env.s.length .no).set n (.a a)).set i (.a d), []⟩ [] rest Dn)
    (hNi : X.N[n]? = some y := by rfl) (hNz : X.N[i]? = some z := by rfl) (hx : Loc X.env.scope z := by first | exact .inl rfl | exact .inr rfl) (hv : Vis X.env.scope y := by first | exact Or.inl rfl | exact Or.inr (Or.inl rfl) | exact Or.inr (Or.inr rfl)) (hd : (y == ("__debug__" : Str)) = false := by decide) (hcd : (y == ("__classdict__" : Str)) = false := by decide)
    (hdb : (x == ("__debug__" : Str)) = false := by decide) (he : starEach [.Name y py] X.env = (false, eval (.Name y py) X.env) :: starEach [] X.env := by rfl) (hs : swapsWith (.Call (.Name x p) [.Name y py] [] p2) (some (.Name z pz)) pos.line X.env = pure false := by rfl)
    (hf : X.fn z = true ∨ X.env.scope.names.lookup z = some .local := by first | exact .inl rfl | exact .inr rfl) : WPS (pw K [] H0) X env [] (.Assign [.Name z pz] (.Call (.Name x p) [.Name y py] [] p2) pos :: rest) Dn := by
  obtain ⟨f, fd, ps, F, hm, hk, hb⟩ := F
  refine ws_cons (ps_set hN hNz hx (pe_call F hr hg hm hk hb .nil pass0 (pa_cons (pe_var hNi hv hd hcd) pa_nil he) hdb he rfl) hs hf) fun σ H h => ?_
  have eH : Ex H0 H := fun b o e => h.ex b o (by simp [pw]) e
  refine ⟨.ref a, h.adr n a hi, ?_⟩
  refine ⟨a, ns, rfl, ex_l eH hS, hl, fun d l c cs H' e1 hdn hln hc n1 n2 n3 j hcc => ?_⟩
  have hd' : d ∈ [d, l, c] := by simp
  have hll : l ∈ [d, l, c] := by simp
  have nt : ∀ b ∈ [d, l, c], NT (H' b) := fun b hb => by
    have : b = d ∨ b = l ∨ b = c := by simpa using hb
    rcases this with z | z | z
    · rw [z]; exact j.nt.1
    · rw [z]; exact j.nt.2
    · rw [z]; exact nt_l hcc
  have hs2 : ∀ H2, (∀ b o, b ∉ [d, l] → H' b = some o → H2 b = some o) → SqL K H2 a (ns.map V.int) := fun H2 k2 => sqL_at (ex_l eH hS) fun o ho => k2 a o (by
    intro z
    have : a = d ∨ a = l := by simpa using z
    rcases this with z | z
    · rw [z, hdn] at ho; cases ho
    · rw [z, hln] at ho; cases ho) (e1 a o ho)
  have hlen : n < env.s.length := (List.getElem?_eq_some_iff.mp hi).1
  refine q d l c cs H' hd' hll ⟨rfl, rfl, by simp [dw], hd', hll, hcc, n2, n3, n1⟩ hs2 _ H' ⟨?_, fun m x hm => ?_, fun m p hm => ?_, List.nodup_nil, fun p hp => by simp at hp, fun q hq => by simp at hq, fun b o _ e => e, fun b hb => (nt b hb).1, nt, fun g hg => by simp at hg, j⟩
  · simp [h.len]
  · exfalso
    by_cases z : i = m
    · subst z
      rw [List.getElem?_set] at hm
      simp at hm
    · rw [List.getElem?_set_ne z] at hm
      by_cases z2 : n = m
      · subst z2
        rw [List.getElem?_set] at hm
        simp at hm
      · rw [List.getElem?_set_ne z2] at hm
        have := List.eq_of_mem_replicate (List.mem_of_getElem? hm)
        cases this
  · by_cases z : i = m
    · subst z
      have hlt : i < env.s.length := by
        have := (List.getElem?_eq_some_iff.mp hm).1
        simpa using this
      rw [List.getElem?_set_self (by simpa using hlt)] at hm
      cases hm
      exact List.getElem?_set_self (by rw [h.len]; exact hlt)
    · rw [List.getElem?_set_ne z] at hm
      by_cases z2 : n = m
      · subst z2
        rw [List.getElem?_set_self (by simpa using hlen)] at hm
        cases hm
        show (σ.set i (some (V.ref d)))[n]? = _
        rw [List.getElem?_set_ne (Ne.symm hni)]
        exact h.adr n a hi
      · rw [List.getElem?_set_ne z2] at hm
        have := List.eq_of_mem_replicate (List.mem_of_getElem? hm)
        cases this
end
section
variable {w : Wd} {X : Cx} {env : En} {O : Os} {σ : L2.St} {H : Hp} {a b c e : Expr} {p pos : Pos} {R : D → Prop} {q' : Bool}
theorem ex_ifV (h : TV w X c env O q') (h1 : q' = true → EX w X a env O R) (h2 : q' = false → EX w X b env O R) : EX w X (.IfExp c a b pos) env O R := fun σ H hs Q q =>
  re_of (pe_ifExp pt_c pe_c pe_c) (h σ H hs _ fun H' l => by
    cases q' with
    | true => exact h1 rfl σ H' l.1 Q fun x hx v H2 l2 r2 => q x hx v H2 (l.trans l2) r2
    | false => exact h2 rfl σ H' l.1 Q fun x hx v H2 l2 r2 => q x hx v H2 (l.trans l2) r2)
theorem tv_exB {z : Bool} (h : EX w X e env O R) (hR : ∀ x, R x → x = .bl z) (he : ∀ whole, isTrue e X.env whole = (do let v ← whole; standAt e.pos; holding [v] (truthy v)) := by intro _; rfl) : TV w X e env O z := fun σ H hs Q q =>
  rt_of (pt_val pe_c he) (h σ H hs _ fun x hx v H' l r => ⟨z, by rw [hR x hx] at r; exact rp_bl r, q H' l⟩)
end
theorem tI_list : ∀ ds : List D, (∀ d ∈ ds, ∃ l, d = tI l) → ∃ inner : List (List Int), ds = inner.map tI
  | [], _ => ⟨[], rfl⟩
  | d :: ds, h => by
    obtain ⟨l, rfl⟩ := h d (by simp)
    obtain ⟨inner, e⟩ := tI_list ds fun d hd => h d (by simp [hd])
    exact ⟨l :: inner, by rw [e]; rfl⟩
end Mp
end
section
set_option Elab.async false
set_option linter.all false
set_option maxRecDepth 100000
set_option maxHeartbeats 4000000
/-! Mp23: t[::-1]; comprehensions of two clauses. -/
namespace Mp
open PySem PySem.Spec PyProof.Rows L2
theorem pe_stepG {X : Cx} {e st : Expr} {te : TE} {ts : TO} {c : Int} {p2 pos : Pos} (he : PE X e te) (hst : PO X (some st) ts) (hrd : ∀ σ H (Q : Option Int → Hp → Prop), Q (some c) H → ts σ H Q) (hc : c ≠ 0) (hc1 : c ≠ 1) :
    PE X (.Subscript e (.Slice none none (some st) p2) pos) (fun σ H Q => te σ H fun x H1 => ∃ a xs, x = .ref a ∧ SqT X.K H1 a xs ∧ (pickS xs c).length ≤ sizeLine ∧ ∀ p, H1 p = none → Q (.ref p) (upd H1 p (.tup (pickS xs c)))) := by
  refine ⟨fun pins s σ H Q I h => ?_⟩
  refine Subscript_ (thn (he.run pins s σ H _ I h) fun v s1 ⟨x, H1, I1, r1, q1⟩ => ?_)
  obtain ⟨a, xs, rfl, hq, hz, q⟩ := q1
  refine wpAny_Slice (thn (po_none.run pins s1 σ H1 (fun o H2 => o = none ∧ H2 = H1) I1 ⟨rfl, rfl⟩) fun vl s2 ⟨l, H2, I2, pl, e2⟩ => thn (po_none.run pins s2 σ H2 (fun o H3 => o = none ∧ H3 = H2) I2 ⟨rfl, rfl⟩) fun vu s3 ⟨u, H3, I3, pu, e3⟩ => thn (hst.run pins s3 σ H3 (fun o H4 => o = some c ∧ H4 = H3) I3 (hrd _ _ _ ⟨rfl, rfl⟩)) fun vs s4 ⟨o, H4, I4, ps, e4⟩ => ?_)
  obtain ⟨rfl, rfl⟩ := e2
  obtain ⟨rfl, rfl⟩ := e3
  obtain ⟨rfl, rfl⟩ := e4
  cases pl
  cases pu
  cases ps with
  | int i t =>
    cases r1
    have I5 : L2.Inv X pins σ H4 { s4 with heap := s4.heap.push { cls := .type "slice", data := .fields #[.none, .none, .int c t] } } := I4.kept (t' := s4.toks) fun b ob q => Heap.get?_push_of_some _ q
    obtain ⟨its, r, ht, hzz⟩ := I5.tuple hq
    have hpk : Vals (pickS xs c) (pickS its c) := by
      rw [pick_eq, pick_eq, r.length]
      exact Vals.pick r _
    have hg : wpAny (model X.prog X.w) X.A (getItem (.ref a) (.ref s4.heap.objs.size)) (EP X pins σ Q) X.xe { s4 with heap := s4.heap.push { cls := .type "slice", data := .fields #[.none, .none, .int c t] } } := by
      refine getItem_tuple_step ht (Heap.IsSliceOf.new ..) hc hc1 ?_ (by rw [← hpk.length]; exact hz)
      refine ⟨.ref _, _, I5.laid (t' := s4.toks) (o := .tup (pickS xs c)) (fun b ob q => Heap.get?_push_of_some _ q) (Nat.le_refl _) ?_, rfl, q _ (I5.hok.fresh (Nat.le_refl _))⟩
      exact ⟨hz, _, hpk, IsTup.new _ _⟩
    show wpAny (model X.prog X.w) X.A (subscriptTail e (.Slice none none (some st) p2) (.ref a) (.ref s4.heap.objs.size)) (EP X pins σ Q) X.xe { s4 with heap := s4.heap.push { cls := .type "slice", data := .fields #[.none, .none, .int c t] } }
    exact tail_any (ops := [.ref a, .ref s4.heap.objs.size]) ht.typeIs PyProof.Rows.slot_tuple_getitem.lookup hg (by with_unfolding_all rfl)
theorem stm1 (n : Nat) : stLo n (-1) = (n : Int) - 1 ∧ stK n (-1) = n := by
  unfold stLo stK PySem.Builtin.Slice.sliceAdjust PySem.Builtin.Slice.slicePlaces
  simp
  omega
theorem pickS_m1 {α : Type} (l : List α) : pickS l (-1) = l.reverse := by
  obtain ⟨h1, h2⟩ := stm1 l.length
  unfold pickS
  rw [h1, h2]
  apply List.ext_getElem?
  intro i
  have key : ∀ k : Nat, k ≤ l.length → ((List.range k).filterMap fun (m : Nat) => l[(((l.length : Int) - 1) + (m : Int) * (-1)).toNat]?) = l.reverse.take k := by
    intro k
    induction k with
    | zero => intro _; rfl
    | succ k ih =>
      intro hk
      have hlt : k < l.reverse.length := by rw [List.length_reverse]; omega
      rw [List.range_succ, List.filterMap_append, ih (by omega), List.take_add_one, List.getElem?_eq_getElem hlt]
      have e : (((l.length : Int) - 1) + (k : Int) * (-1)).toNat = l.length - 1 - k := by omega
      have hlt2 : l.length - 1 - k < l.length := by omega
      simp only [List.filterMap_cons, List.filterMap_nil, e, List.getElem?_eq_getElem hlt2, Option.toList_some]
      rw [List.getElem_reverse]
  rw [key l.length (Nat.le_refl _), List.take_of_length_le (by simp)]
section
variable {w : Wd} {X : Cx} {env : En} {O : Os} {σ : L2.St} {H H1 H2 H' : Hp} {e a b : Expr} {es : List Expr} {p pos pos2 : Pos} {d d1 d2 : D} {i j : Int} {ds es' fs : List D} {x : Str} {k : Nat} {tg iter elt : Expr} {scope : Scope}
/-- t[::-1] -/
theorem ev_backU {kk : Nat} {p3 p4 : Pos} (hk : X.K = w.K) (ha : EU w X a env O ds) (hz : ds.length ≤ sizeLine) : EV w X (.Subscript a (.Slice none none (some (.UnaryOp .USub (.Constant (.int 1) kk p3) p4)) pos2) pos) env O (.tup ds.reverse) := fun σ H h Q q =>
  re_of (pe_stepG (c := -1) pe_c (po_some (pe_un un_neg pe_int)) (fun σ H Q q => ⟨1, rfl, -1, rfl, q⟩) (by decide) (by decide)) (ha σ H h _ fun v xs H1 l1 e1 r1 => by
    have rp := r1.pickS (-1)
    have rp2 := rp
    rw [pickS_m1 ds] at rp2
    exact ⟨v, xs, rfl, by rw [hk]; exact ex_t (mn_le _ _) e1, by rw [rp.length, pickS_m1, List.length_reverse]; exact hz, fun t ht => q _ _ (l1.trans (Lv.new l1.1 ht)) (Lv.newT l1.1 ht rp2)⟩)
/-- a walk, and any body -/
theorem walk_it {J : It} {n : Nat} {G : Hp → Prop} {Y : Nat → Hp → V → Hp → Prop} (w : Walk J n G Y) {Hs : Hp} {Qd : Hp → Prop} {body : V → Hp → (Hp → Prop) → Prop} (Pv : Nat → Hp → Prop) (h0 : Pv 0 Hs) (hG : ∀ i H, i ≤ n → Pv i H → G H)
    (hs : ∀ i x H H', i < n → Pv i H → Y i H x H' → body x H' (Pv (i + 1))) (hd : ∀ H, Pv n H → Qd H) :
    ∃ W : Nat → Nat → Hp → Prop, (∃ m, W 0 m Hs) ∧ ∀ i m H, W i m H → (J.stop i H ∧ Qd H) ∨ (J.go i H ∧ ∃ Nx : Hp → Prop, (∀ H', Nx H' → ∃ m', m' < m ∧ W (i + 1) m' H') ∧ ∀ x H', J.yld i H x H' → body x H' Nx) := by
  refine ⟨fun i m H => m = n - i ∧ i ≤ n ∧ Pv i H, ⟨n, by simp, Nat.zero_le _, h0⟩, ?_⟩
  rintro i m H ⟨rfl, hi, p⟩
  have q := hG i H hi p
  by_cases hlt : i < n
  · refine .inr ⟨w.goes i H hlt q, Pv (i + 1), fun H' p' => ⟨n - (i + 1), by omega, rfl, hlt, p'⟩, fun x H' y => hs i x H H' hlt p (w.yields i H x H' hlt q y)⟩
  · have e : i = n := by omega
    subst e
    exact .inl ⟨w.stops H q, hd H p⟩
/-- what the second clause walks -/
def IC1 {α : Type} (w : Wd) (X : Cx) (scope : Scope) (tg iter : Expr) (xs : List α) (en : α → En) (O : Os) (ys : α → List D) : Prop := ∃ wi, (∀ (s : Shared) (H : Hp) (C : Addr) (cl : List (Str × Addr)) (fp : List Addr), PI (X.blk s H scope (compEnvC scope cl C X.env) fp) tg iter wi) ∧
  ∀ x ∈ xs, ∀ q acc σ H, Sd w (en x) (O ++ [(q, .l acc)]) σ H → ∀ R : It → Hp → Prop,
  (∀ J Gd Y H1, Lv w (en x) (O ++ [(q, .l acc)]) σ H H1 → Walk J (ys x).length Gd Y → (∀ H2, (∀ b o, b ∉ w.B → b ≠ q → H1 b = some o → H2 b = some o) → Gd H2) → (∀ i H2 y H3, i < (ys x).length → (∀ b o, b ∉ w.B → b ≠ q → H1 b = some o → H2 b = some o) → Y i H2 y H3 → Yld w (w.G (O ++ [(q, .l acc)]) H1) (ys x) i H2 y H3) → R J H1) → wi σ H R
theorem ic1_R2 {α : Type} {nm : Pos} {xs : List α} {en : α → En} {f g : α → Int} (hg : ∀ (s : Shared) (H : Hp) (C : Addr) (cl : List (Str × Addr)) (fp : List Addr), Gl (X.blk s H scope (compEnvC scope cl C X.env) fp) "range") (hm : X.mg "range" = none)
    (ha : ∀ x ∈ xs, ∀ q acc s H0 C cl fp, EV w (X.blk s H0 scope (compEnvC scope cl C X.env) fp) a (en x) (O ++ [(q, .l acc)]) (.int (f x))) (hb : ∀ x ∈ xs, ∀ q acc s H0 C cl fp, EV w (X.blk s H0 scope (compEnvC scope cl C X.env) fp) b (en x) (O ++ [(q, .l acc)]) (.int (g x)))
    (hr : ∀ x ∈ xs, -(2 ^ 62) ≤ f x ∧ f x < 2 ^ 62 ∧ -(2 ^ 62) ≤ g x ∧ g x < 2 ^ 62) (hs : ∀ env, starEach [a, b] env = [(false, eval a env), (false, eval b env)] := by intro _; rfl) (hs2 : ∀ env, starEach [b] env = [(false, eval b env)] := by intro _; rfl) :
    IC1 w X scope tg (.Call (.Name "range" nm) [a, b] [] pos) xs en O (fun x => iL (rg (f x) (g x))) := by
  refine ⟨_, fun s H C cl fp => pi_range2 (hg s H C cl fp) hm (pa_cons (pe_cb s H C cl fp) (pa_cons (pe_cb s H C cl fp) pa_nil (by rw [hs2]; rfl)) (by rw [hs, hs2])) (hs _) (hs2 _), fun x hx q acc σ H h R k => ?_⟩
  show REb X scope a σ H _
  intro s H0 C cl fp
  refine ha x hx q acc s H0 C cl fp σ H h _ fun v H1 l1 r1 => ?_
  show REb X scope b σ H1 _
  intro s H0 C cl fp
  refine hb x hx q acc s H0 C cl fp σ H1 l1.1 _ fun u H2 l2 r2 => ?_
  refine ⟨f x, g x, by rw [rp_int r1, rp_int r2], hr x hx, ?_⟩
  refine k (Itr (f x) (g x - f x).toNat) (fun _ => True) (YFn fun k => .int (f x + k)) H2 (l1.trans l2) (by simp only [iL, rg, List.length_map, List.length_range]; exact walk_range) (fun _ _ => trivial) fun k H3 x' H4 hk kp y => ?_
  obtain ⟨e3, ex⟩ := y
  exact ⟨_, rg_get _ _ hk, .inl ⟨e3, by rw [ex]; exact .v rfl⟩⟩
theorem wipe_set2 {σ : L2.St} {v : Option V} {i j : Nat} (hij : i ≠ j) : L2.wipe ((L2.wipe σ [i, j]).set i v) [i, j] = L2.wipe σ [i, j] := by
  simp only [L2.wipe]
  rw [List.set_set, List.set_comm _ _ hij, List.set_set, List.set_set]
theorem bnd_name2 (i j : Nat) (hij : i ≠ j) (x : D) (env : En) : Bnd w (gName i) [i, j] x env ((wipeE env [i, j]).put i (.d x)) := fun O σ H v h r Kt q => q _ ((h.wipe [i, j]).set i r) (wipe_set2 hij)
/-- what is given, as data in the heap behind it -/
theorem yld_rp {O' : Os} {i : Nat} {G : Hp} {x : V} {H2 H3 : Hp} (s2 : Sd w env O' σ H2) (ex : Ex G (w.G O' H2)) (y : Yld w G ds i H2 x H3) : ∃ d, ds[i]? = some d ∧ Lv w env O' σ H2 H3 ∧ Rp w.K (w.G O' H3) x d ∧ ∀ b o, H2 b = some o → H3 b = some o := by
  obtain ⟨d, hd, yy⟩ := y
  refine ⟨d, hd, ?_⟩
  rcases yy with ⟨e3, rr⟩ | ⟨T, ys, es, rfl, hT, e3, ry, rfl⟩
  · subst e3
    exact ⟨.refl s2, rr.mono ex, fun b o e => e⟩
  · subst e3
    exact ⟨Lv.new s2 hT, Lv.newT s2 hT (ry.mono ex), fun b o e => Ex.new hT b o e⟩
/-- a comprehension of two clauses without tests -/
theorem en_lc2 {α β : Type} {f : α → D} {f1 : β → D} {r : α → β → D} {xs : List α} {ys : α → List β} {en : α → En} {en1 : α → β → En} {tg1 iter1 : Expr} {own' : List (Str × Nat)} {vs1 : List Nat} {g g1 : TG} (hc : X.calm = true) (hN : X.N.Nodup)
    (hi : IC w X tg iter env O (xs.map f)) (ok : BlkOk X.N X.env.scope scope own') (hv : ∀ i ∈ vs1, i ∈ own'.map (·.2))
    (hg : ∀ (s : Shared) (H : Hp) (C : Addr) (cl : List (Str × Addr)) (fp : List Addr), PG (X.blk s H scope (compEnvC scope cl C X.env) fp) tg g)
    (hg1 : ∀ (s : Shared) (H : Hp) (C : Addr) (cl : List (Str × Addr)) (fp : List Addr), PG (X.blk s H scope (compEnvC scope cl C X.env) fp) tg1 g1)
    (hz : (xs.flatMap ys).length < sizeLine) (hb : ∀ x ∈ xs, Bnd w g (own'.map (·.2)) (f x) env (en x)) (hi1 : IC1 w X scope tg1 iter1 xs en O (fun x => (ys x).map f1))
    (hb1 : ∀ x ∈ xs, ∀ y ∈ ys x, Bnd w g1 vs1 (f1 y) (en x) (en1 x y))
    (he : ∀ x ∈ xs, ∀ y ∈ ys x, ∀ q acc s H0 C cl fp, EV w (X.blk s H0 scope (compEnvC scope cl C X.env) fp) elt (en1 x y) (O ++ [(q, .l acc)]) (r x y))
    (hs : ∀ x, foldedSetIterable iter X.env x = pure x := by intro _; rfl) (hs1 : ∀ env x, foldedSetIterable iter1 env x = pure x := by intro _ _; rfl) :
    EN w X (.ListComp elt [⟨tg, iter, [], 0⟩, ⟨tg1, iter1, [], 0⟩] scope pos) env O (xs.flatMap fun x => (ys x).map (r x)) := fun σ H h Q q => by
  obtain ⟨wi, pi, hw⟩ := hi
  obtain ⟨wi1, pi1, hw1⟩ := hi1
  refine re_of (pe_lc2 (te := REb X scope elt) hc hN pi ok hv hg (fun _ _ _ _ _ => pts_nil) pi1 hg1 (fun _ _ _ _ _ => pts_nil) (fun s H C cl fp => pe_cb s H C cl fp) hs hs1) ?_
  refine hw σ H h _ fun J Gd Y H1 l1 wk kg ky Dn hD => ?_
  let pre : Nat → List D := fun i => (xs.take i).flatMap fun x => (ys x).map (r x)
  have nb0 : ∀ {e' : En} {σ' : L2.St} {acc : List D} {H2 : Hp}, Sd w e' (O ++ [(Dn, .l acc)]) σ' H2 → Dn ∉ w.B := fun s2 z => s2.disj (p := Dn) (by simp [own]) (w.bs _ z)
  refine walk_it wk (fun i H2 => (∀ b o, b ∉ w.B → H1 b = some o → H2 b = some o) ∧ Sd w env (O ++ [(Dn, .l (pre i))]) σ H2 ∧ Ex (w.G O H1) (w.G (O ++ [(Dn, .l (pre i))]) H2)) ⟨fun b o _ e => Ex.new hD b o e, ?_⟩ (fun i H2 _ z => kg H2 z.1) (fun i x H2 H3 hlt z y => ?_) (fun H2 z => ?_)
  · have z := l1.1.newE (c := .l []) (o := .lst []) hD ⟨[], upd_same, .nil⟩
    exact ⟨z.1, by show Ex _ (w.G (O ++ [(Dn, .l [])]) _); rw [z.2]; exact Same.refl _⟩
  · obtain ⟨k2, s2, ex2⟩ := z
    have hlt' : i < xs.length := by simpa using hlt
    obtain ⟨d, hd, l3, r3, k3⟩ := yld_rp s2 ex2 (ky i H2 x H3 hlt k2 y)
    have hxs : xs[i]? = some xs[i] := List.getElem?_eq_getElem hlt'
    have hd' : d = f xs[i] := by
      rw [List.getElem?_map, hxs] at hd
      exact (Option.some.inj hd).symm
    subst hd'
    have hmem : xs[i] ∈ xs := List.getElem_mem hlt'
    have tk : pre (i + 1) = pre i ++ (ys xs[i]).map (r xs[i]) := by
      show (xs.take (i + 1)).flatMap _ = _
      rw [List.take_add_one, hxs, List.flatMap_append]
      simp [pre]
    refine hb xs[i] hmem _ σ H3 x l3.1 r3 _ fun σ2 s4 hw2 => ⟨hw2, ?_⟩
    show wi1 σ2 H3 _
    have kH3 : ∀ b o, b ∉ w.B → H1 b = some o → H3 b = some o := fun b o hb e => k3 b o (k2 b o hb e)
    refine hw1 xs[i] hmem Dn _ σ2 H3 s4 _ fun J1 Gd1 Y1 H4 l4 wk1 kg1 ky1 => ?_
    have gx : Ex (w.G O H1) (w.G (O ++ [(Dn, .l (pre i))]) H3) := ex2.trans l3.ex
    have s34 : Lv w env (O ++ [(Dn, .l (pre i))]) σ H3 H4 := by
      have z := l3.1.growB (H' := H4) (fun b o hb e => l4.2 b o hb e) (fun b hb => l4.1.bt b (w.bs b hb)) l4.1.j
      exact ⟨z.1, l4.2⟩
    have exG4 : ∀ {acc : List D} {H5 : Hp}, (∀ b o, b ∉ w.B → b ≠ Dn → H4 b = some o → H5 b = some o) → Ex (w.G (O ++ [(Dn, .l (pre i))]) H4) (w.G (O ++ [(Dn, .l acc)]) H5) := fun {acc H5} k b o e => by
      have ho : own (O ++ [(Dn, Oc.l (pre i))]) = own (O ++ [(Dn, Oc.l acc)]) := by simp [own]
      have hb' : b ∉ own (O ++ [(Dn, Oc.l (pre i))]) ++ w.A0 := fun z => by
        rw [show w.G (O ++ [(Dn, .l (pre i))]) H4 b = none from mn_in z] at e; cases e
      rw [show w.G (O ++ [(Dn, .l (pre i))]) H4 b = H4 b from mn_out hb'] at e
      show mn (own (O ++ [(Dn, Oc.l acc)]) ++ w.A0) H5 b = some o
      rw [mn_out (by rw [← ho]; exact hb')]
      refine k b o (fun z => hb' (List.mem_append_right _ (w.bs b z))) (fun z => hb' (List.mem_append_left _ ?_)) e
      rw [z]; simp [own]
    refine walk_it wk1 (fun j H5 => (∀ b o, b ∉ w.B → b ≠ Dn → H4 b = some o → H5 b = some o) ∧ Sd w (en xs[i]) (O ++ [(Dn, .l (pre i ++ ((ys xs[i]).take j).map (r xs[i])))]) σ2 H5 ∧ Sd w env (O ++ [(Dn, .l (pre i ++ ((ys xs[i]).take j).map (r xs[i])))]) σ H5) ⟨fun b o _ _ e => e, ?_⟩ (fun j H5 _ z => ?_) (fun j yv H5 H6 hj z y => ?_) (fun H5 z => ?_)
    · simp only [List.take_zero, List.map_nil, List.append_nil]
      exact ⟨l4.1, s34.1⟩
    · exact kg1 H5 z.1
    · obtain ⟨k5, s5, s5'⟩ := z
      have hj' : j < (ys xs[i]).length := by simpa using hj
      obtain ⟨d, hd, l6, r6, k6⟩ := yld_rp s5 (exG4 k5) (ky1 j H5 yv H6 hj k5 y)
      have hys : (ys xs[i])[j]? = some (ys xs[i])[j] := List.getElem?_eq_getElem hj'
      have hd' : d = f1 (ys xs[i])[j] := by
        rw [List.getElem?_map, hys] at hd
        exact (Option.some.inj hd).symm
      subst hd'
      have hmem1 : (ys xs[i])[j] ∈ ys xs[i] := List.getElem_mem hj'
      refine hb1 xs[i] hmem _ hmem1 _ σ2 H6 yv l6.1 r6 _ fun σ3 s7 hw3 => ⟨hw3, ?_⟩
      show REb X scope elt σ3 H6 _
      intro s H0 C cl fp
      refine he xs[i] hmem _ hmem1 _ _ s H0 C cl fp σ3 H6 s7 _ fun v H7 l8 r8 => ?_
      obtain ⟨acc, eacc, racc⟩ := l8.1.get (k := O.length) last_ix
      have kk : ∀ b o, b ∉ w.B → H5 b = some o → H7 b = some o := fun b o hb e => l8.2 b o hb (k6 b o e)
      have tB : ∀ b ∈ w.B, NT (H7 b) := fun b hb => l8.1.bt b (w.bs b hb)
      have z1 := s5.growB kk tB l8.1.j
      have z2 := s5'.growB kk tB l8.1.j
      have tk1 : (ys xs[i]).take (j + 1) = (ys xs[i]).take j ++ [(ys xs[i])[j]] := by rw [List.take_add_one, hys]; rfl
      have ecur : pre i ++ ((ys xs[i]).take (j + 1)).map (r xs[i]) = (pre i ++ ((ys xs[i]).take j).map (r xs[i])) ++ [r xs[i] (ys xs[i])[j]] := by
        rw [tk1, List.map_append, ← List.append_assoc]
        rfl
      have zl : acc.length < sizeLine := by
        rw [racc.length]
        refine Nat.lt_of_le_of_lt ?_ hz
        have h1 : pre i ++ ((ys xs[i]).take (j + 1)).map (r xs[i]) ++ (((ys xs[i]).drop (j + 1)).map (r xs[i]) ++ (xs.drop (i + 1)).flatMap fun x => (ys x).map (r x)) = xs.flatMap fun x => (ys x).map (r x) := by
          rw [← List.append_assoc, List.append_assoc (pre i), ← List.map_append, List.take_append_drop, ← tk, ← List.flatMap_append, List.take_append_drop]
        have h2 := congrArg List.length h1
        have h3 : (xs.flatMap fun x => (ys x).map (r x)).length = (xs.flatMap ys).length := by
          rw [List.length_flatMap, List.length_flatMap]
          simp
        rw [h3, List.length_append, ecur, List.length_append] at h2
        simp only [List.length_singleton] at h2
        omega
      have o1 : (O ++ [(Dn, Oc.l (pre i ++ ((ys xs[i]).take j).map (r xs[i])))]).set O.length (Dn, .l ((pre i ++ ((ys xs[i]).take j).map (r xs[i])) ++ [r xs[i] (ys xs[i])[j]])) = O ++ [(Dn, .l (pre i ++ ((ys xs[i]).take (j + 1)).map (r xs[i])))] := by
        rw [List.set_append_right _ _ (Nat.le_refl _), Nat.sub_self, ecur]
        rfl
      have w1 := z1.1.write (k := O.length) (c := .l ((pre i ++ ((ys xs[i]).take j).map (r xs[i])) ++ [r xs[i] (ys xs[i])[j]])) (o := .lst (acc ++ [v])) last_ix ⟨_, upd_same, by
        exact RpA.app racc (.one r8)⟩
      have w2 := z2.1.write (k := O.length) (c := .l ((pre i ++ ((ys xs[i]).take j).map (r xs[i])) ++ [r xs[i] (ys xs[i])[j]])) (o := .lst (acc ++ [v])) last_ix ⟨_, upd_same, by
        exact RpA.app racc (.one r8)⟩
      rw [o1] at w1 w2
      refine ⟨acc, eacc, zl, fun b o hb hn e => ?_, w1.1, w2.1⟩
      rw [upd_ne hn]
      exact kk b o hb (k5 b o hb hn e)
    · obtain ⟨k5, s5, s5'⟩ := z
      have e : ((ys xs[i]).take ((ys xs[i]).map f1).length) = ys xs[i] := by simp
      rw [e, ← tk] at s5'
      have kD : ∀ b o, b ∉ w.B → H1 b = some o → H5 b = some o := fun b o hb e => k5 b o hb (fun z => by rw [z, hD] at e; cases e) (l4.2 b o hb (kH3 b o hb e))
      exact ⟨kD, s5', gx.trans (s34.ex.trans (exG4 k5))⟩
  · obtain ⟨k2, s2, ex2⟩ := z
    have tl : pre (xs.map f).length = xs.flatMap fun x => (ys x).map (r x) := by simp [pre]
    rw [tl] at s2
    exact q Dn H2 s2 fun b o hb e => k2 b o hb (l1.2 b o hb e)
end
end Mp
end
section
set_option Elab.async false
set_option linter.all false
set_option maxRecDepth 100000
set_option maxHeartbeats 4000000
/-! Mp24: names that hold defs: a walk over some, and a call. -/
namespace Mp
open PySem PySem.Spec PyProof.Rows L2
section
variable {w : Wd} {X : Cx} {env : En} {O : Os} {σ : L2.St} {H H1 H2 H' : Hp} {e a b c : Expr} {es : List Expr} {p pos pos2 : Pos} {d d1 d2 : D} {i j : Int} {ds es' : List D} {x : Str} {k : Nat} {Dn : Ends} {st : Stmt} {ss rest body orelse : List Stmt} {tg iter : Expr}
/-- a def of the module as a value -/
theorem pe_def {f : Addr} {nm : Pos} (hg : Gl X x) (hm : X.mg x = some (.ref f)) (hd : (x == ("__debug__" : Str)) = false := by decide) : PE X (.Name x nm) (tC (.ref f)) := pe_glob hg hm rfl hd
/-- a for over some defs -/
theorem ws_forA (n : Nat) {y : Str} {py lp : Pos} {ta : TA} (fs : List Addr) (I : Nat → En) (Oi : Nat → Os) (hc : X.calm = true) (hp' : PA X es ta) (hr : ∀ σ H (Q : List V → Hp → Prop), Q (fs.map V.ref) H → ta σ H Q) (hz : fs.length ≤ sizeLine) (hg : PG X (.Name y py) (gName n))
    (h0 : ∀ σ H g, Sd w (env.tell g) O σ H → Sd w ((I 0).tell g) (Oi 0) σ H)
    (hs : ∀ gh i f, fs[i]? = some f → WPS w X (((I i).tell gh).put n (.a f)) (Oi i) body { Dn with nx := Sd w ((I (i + 1)).tell gh) (Oi (i + 1)), ct := Sd w ((I (i + 1)).tell gh) (Oi (i + 1)), bk := RS X rest Dn })
    (hd : WPS w X (I fs.length) (Oi fs.length) rest Dn) (hsf : ∀ x, foldedSetIterable (.List es lp) X.env x = pure x := by intro _; rfl) (hp : PassesOwn (model X.prog X.w) X.A X.env X.xe := by exact PassesOwn.never) : WPS w X env O (.For (.Name y py) (.List es lp) body [] pos :: rest) Dn :=
  ws_cons (ps_for hp hc (pi_list (pe_lst hp')) hg pss_c hsf) fun σ H hs0 => by
    refine hr σ H _ ⟨by rw [List.length_map]; exact hz, fun q hq => ⟨q, rfl, ⟨_, .inl (.inl upd_same)⟩, ?_⟩⟩
    have l1 := Lv.new hs0 (o := .lst (fs.map V.ref)) hq
    have hG : w.G O (upd H q (.lst (fs.map V.ref))) q = some (.lst (fs.map V.ref)) := Lv.G_new hs0 hq
    let P : Gh := ⟨fun G => G q = some (.lst (fs.map V.ref)), fun G G' e r => e _ _ r⟩
    have hwk : Walk (Itl X.K q) fs.length (fun H => SqL X.K H q (fs.map V.ref)) (YAt (fs.map V.ref)) := by
      have := walk_list (K := X.K) (a := q) (xs := fs.map V.ref)
      rwa [List.length_map] at this
    refine for_it hwk (fun i => Sd w ((I i).tell P) (Oi i)) (h0 σ _ P (l1.1.tell P hG)) ?_ ?_ ?_
    · intro i σ H hi z
      exact .inl (.inl (mn_le _ _ _ _ (z.gh P (List.mem_cons_self ..))))
    · intro i x σ H2 H3 hlt z y
      obtain ⟨e3, ex⟩ := y
      subst e3
      have hf : fs[i]? = some fs[i] := List.getElem?_eq_getElem hlt
      have hx : x = .ref fs[i] := by
        rw [List.getElem?_map, hf] at ex
        exact (Option.some.inj ex).symm
      subst hx
      exact hs P i fs[i] hf _ H3 (z.setA (p := fs[i]) n)
    · exact fun σ H z => hd σ H z.hush
/-- a call of a name that holds a def -/
theorem ev_callL {R : List D → D → Prop} (n : Nat) {f : Addr} {fd : FuncData} {ps : List Str} (F : FnOk X.prog X.w X.K X.mg X.base CX0 k f fd ps (PF w.K R)) (hkp : PySem.W.keepIn X.K (.ref f) = true) (hb : Binds X.K fd ps []) (hi : env.s[n]? = some (.a f)) (hr : Room k X.A) (ha : AV w X (e :: es) env O ds) (hR : R ds d) (hN : X.N[n]? = some x := by rfl)
    (hv : Vis X.env.scope x := by first | exact Or.inl rfl | exact Or.inr (Or.inl rfl) | exact Or.inr (Or.inr rfl)) (hdb : (x == ("__debug__" : Str)) = false := by decide) (hcd : (x == ("__classdict__" : Str)) = false := by decide)
    (he : starEach (e :: es) X.env = (false, eval e X.env) :: starEach es X.env := by rfl) (hpl : (backTo pos (starEach es X.env)).any (·.1) = false := by rfl) : EV w X (.Call (.Name x p) (e :: es) [] pos) env O d := fun σ H h Q q => by
  refine re_of (pe_callL F hr hN hv hkp hb .nil pass0 pa_c hdb hcd he hpl) ⟨h.adr n f hi, ha σ H h _ fun vs H1 l1 r1 => ?_⟩
  rw [List.append_nil]
  refine ⟨own O ++ w.A0, ds, d, r1, hR, fun b hb => l1.1.there hb, fun v H2 e2 r2 => ?_⟩
  exact q v H2 (l1.trans (Lv.grow l1.1 e2)) r2
end
end Mp
end
section
set_option Elab.async false
set_option linter.all false
set_option maxRecDepth 100000
set_option maxHeartbeats 4000000
/-! Mp25: a name that takes a dict comprehension. -/
namespace Mp
open PySem PySem.Spec PyProof.Rows L2
section
variable {X : Cx}
theorem dcT_core {pins : List (Addr × Obj)} {s : Shared} {σ : L2.St} {H : Hp} {Q : VK} {use : Option (Value → Sem Unit)} {Qf : Value → Shared → Prop} {pos' : Pos} {kx vx tg iter : Expr} {scope : Scope} {own : List (Str × Nat)} {pos : Pos} {wi : TI} {g : TG} {tk tv : TE} (hu : X.A.units + 1 < cLine) (hc : X.calm = true) (hN : X.N.Nodup) (I : L2.Inv X pins σ H s) (hi : PI X tg iter wi) (ok : BlkOk X.N X.env.scope scope own)
    (hg : ∀ (s : Shared) (H : Hp) (C : Addr) (cl : List (Str × Addr)) (fp : List Addr), PG (X.blk s H scope (compEnvC scope cl C X.env) fp) tg g)
    (hk : ∀ (s : Shared) (H : Hp) (C : Addr) (cl : List (Str × Addr)) (fp : List Addr), PE (X.blk s H scope (compEnvC scope cl C X.env) fp) kx tk)
    (he : ∀ (s : Shared) (H : Hp) (C : Addr) (cl : List (Str × Addr)) (fp : List Addr), PE (X.blk s H scope (compEnvC scope cl C X.env) fp) vx tv) (hs : ∀ x, foldedSetIterable iter X.env x = pure x)
    (h : tDcT wi g tk tv (own.map (·.2)) σ H Q) (hRR : ∀ D C s' m H', L2.Inv X pins σ H' s' → Q (.ref D) H' → s'.heap.Ns C m → FpOk X pins H' C → compPost (model X.prog X.w) X.A X.xe use Qf (.ref D) C (.ok .next) s') :
    wpAny (model X.prog X.w) X.A (comprehension (.DictComp kx vx [⟨tg, iter, [], 0⟩] scope pos) scope X.env pos' newDict false (eval iter X.env) use) Qf X.xe s := by
  have hfree : ∀ y ∈ scope.names, y.2 = .free → ∃ c, X.env.cells.lookup y.1 = some c := fun y hy e => by
    rcases ok.free y hy e with k | k
    · exact I.ok.has _ (.inl k)
    · exact I.ok.has _ (.inr k)
  refine wpAny_comprehension_free (use := use) rfl hs (closure_ok hfree) ok.kind (fun y hy e => by rw [ok.uniq y hy, e])
    (thn (hi.run pins s σ H _ I h) fun xv s1 hx => thn hx fun itv s2 h2 => ?_)
  obtain ⟨it, fp, tn, J, H2, e, I2, T, st2, f2, q⟩ := h2
  subst e
  refine wpAny_newObj_type (newEnv_comp ?_)
  generalize hD : s2.heap.objs.size = Dd
  have hDn : H2 Dd = none := I2.hok.fresh (Nat.le_of_eq hD)
  obtain ⟨W, ⟨m0, w0⟩, turn⟩ := q Dd hDn
  generalize hs3 : ({ s2 with heap := s2.heap.push { cls := .type "dict", data := .dict #[] } } : Shared) = s3
  have I3 : L2.Inv X pins σ (upd H2 Dd (.dT [])) s3 := by
    rw [← hs3]
    refine I2.laid (t' := s2.toks) (fun b o e => Heap.get?_push_of_some _ e) (Nat.le_of_eq hD) ?_
    rw [← hD]
    exact dt_empty s2.heap I2.big
  have h3 : s3.heap = s2.heap.push { cls := .type "dict", data := .dict #[] } := by rw [← hs3]
  have sz : ∀ b ∈ fp, b < s2.heap.objs.size := fun b hb => by
    obtain ⟨o, e, _⟩ := T.obj _ _ st2 b hb
    exact Heap.lt_size e
  have f3 : ∀ b ∈ fp, FpOk X pins (upd H2 Dd (.dT [])) b ∧ b < s3.heap.objs.size := fun b hb => by
    have hlt := sz b hb
    refine ⟨⟨?_, (f2 b hb).2⟩, by rw [h3, Heap.size_push]; exact Nat.lt_succ_of_lt hlt⟩
    rw [upd_ne (by rw [← hD]; exact Nat.ne_of_lt hlt)]
    exact (f2 b hb).1
  have st3 : tn 0 s3.heap := T.keep _ _ _ st2 fun b _ o e => by rw [h3]; exact Heap.get?_push_of_some _ e
  have I4 := block_start I3 ok hN f3
  have pg := hg s3 (upd H2 Dd (.dT [])) s3.heap.objs.size (cellsFrom (s3.heap.objs.size + 1) scope.names (cloFrom X.env.cells scope.names [])) fp
  have pk := hk s3 (upd H2 Dd (.dT [])) s3.heap.objs.size (cellsFrom (s3.heap.objs.size + 1) scope.names (cloFrom X.env.cells scope.names [])) fp
  have pe := he s3 (upd H2 Dd (.dT [])) s3.heap.objs.size (cellsFrom (s3.heap.objs.size + 1) scope.names (cloFrom X.env.cells scope.names [])) fp
  show codeAny _ _ (.compStart (.DictComp kx vx [⟨tg, iter, [], 0⟩] scope pos) 0 (.ref it) (.ref Dd) (compEnvC scope (cellsFrom (s3.heap.objs.size + 1) scope.names (cloFrom X.env.cells scope.names [])) s3.heap.objs.size X.env)) (compPost (model X.prog X.w) X.A X.xe use Qf (.ref Dd) s3.heap.objs.size) { s3 with heap := pushCells (s3.heap.push { cls := .type "dict", data := .dict #[] }) scope.names }
  have nfp : ∀ b ∈ fp, (upd H2 Dd (.dT [])) b = none := fun b hb => (f3 b hb).1.1
  generalize hce : compEnvC scope (cellsFrom (s3.heap.objs.size + 1) scope.names (cloFrom X.env.cells scope.names [])) s3.heap.objs.size X.env = ce at I4 pg pk pe ⊢
  have cL : ce.locals = s3.heap.objs.size := by subst hce; rfl
  generalize hH3 : upd H2 Dd (.dT []) = H3 at I3 I4 pg pk pe w0 nfp f3
  generalize hs4 : ({ s3 with heap := pushCells (s3.heap.push { cls := .type "dict", data := .dict #[] }) scope.names } : Shared) = s4 at I4 ⊢
  have st4 : tn 0 s4.heap := T.keep _ _ _ st3 fun b _ o e => by rw [← hs4]; exact pushCells_keeps _ _ _ _ (Heap.get?_push_of_some _ e)
  have stat : ∀ {σ' : L2.St} {H' : Hp} {s' : Shared}, L2.Inv (X.blk s3 H3 scope ce fp) [] σ' H' s' → (∀ b ∈ fp, H' b = none) → ∀ b ∈ fp, FpOk (X.blk s3 H3 scope ce fp) [] H' b := fun {σ' H' s'} I' hn b hb =>
    ⟨hn b hb, (I'.ok.exf b hb).1, I'.ok.exfs b hb, .inl hb, fun x c e => (I'.ok.exf b hb).2 x c e, fun p hp => absurd (show p ∈ ([] : List (Addr × Obj)) ++ [] from hp) (by simp)⟩
  have loop : codeAny (model X.prog X.w) X.A (.compLoop (.DictComp kx vx [⟨tg, iter, [], 0⟩] scope pos) 0 (.ref it) (.ref Dd) ce) (compPost (model X.prog X.w) X.A X.xe use Qf (.ref Dd) s3.heap.objs.size) s4 := by
    refine compLoop_anyD (fun n s' => ∃ i H', L2.Inv (X.blk s3 H3 scope ce fp) [] (L2.wipe σ (own.map (·.2))) H' s' ∧ tn i s'.heap ∧ (∀ b ∈ fp, H' b = none) ∧ W i n H') ?_ m0 ⟨0, H3, I4, st4, nfp, w0⟩
    rintro n s5 ⟨i, H5, I5, st5, n5, w5⟩
    rcases turn i n H5 w5 with ⟨stop, qq⟩ | ⟨go, Nx, hNx, step⟩
    · have td := T.done (X.blk s3 H3 scope ce fp) rfl rfl rfl hc i [] s5 _ H5 (fun _ _ => False) I5 (stat I5 n5) st5 stop
      refine thnF td fun r s6 ⟨hr, I6⟩ => ?_
      subst hr
      have I7 : L2.Inv X pins σ H5 s6 := I3.call' (ch := fp) I6.os I6.base I6.hok I6.bare fun b hb => ⟨(f3 b hb).1.2.2.2.1, (f3 b hb).1.2.1, (f3 b hb).1.2.2.2.2.1, (f3 b hb).1.2.2.2.2.2⟩
      have nC : H5 s3.heap.objs.size = none := by
        have z : H5 ce.locals = none := I6.free
        rw [cL] at z
        exact z
      obtain ⟨m, hn, _⟩ := I6.loc
      have hn : s6.heap.Ns ce.locals m := hn
      rw [cL] at hn
      exact hRR Dd _ s6 m H5 I7 qq hn (I3.fpOk (Nat.le_refl _) nC)
    · have ti := T.item (X.blk s3 H3 scope ce fp) rfl rfl rfl hc i [] s5 _ H5 (fun _ _ => False) I5 (stat I5 n5) st5 go
      refine thnF ti fun r s6 ⟨u, hr, h6⟩ => ?_
      subst hr
      refine thnF h6 fun _ s7 ⟨x, H7, I7, r7, y7, st7, n7⟩ => ?_
      have I7' := I7.pinned (stat I7 n7) (T.obj _ _ st7)
      refine thnF (pg.run _ s7 _ H7 x u _ I7' r7 (step x H7 y7)) fun _ s8 ⟨σ8, H8, I8, hw8, q8⟩ => ?_
      refine thnF ((pts_nil (X := X.blk s3 H3 scope ce fp)).run _ s8 σ8 H8 (fun b H9 => b = true ∧ H9 = H8) I8 ⟨rfl, rfl⟩) fun b s9 ⟨H9, I9, hb9, e9⟩ => ?_
      subst hb9 e9
      have fin : ∀ {s' : Shared} {H' : Hp}, L2.Inv (X.blk s3 H3 scope ce fp) ([] ++ pinsAt fp s7.heap) σ8 H' s' → Nx H' → ∃ m, m < n ∧ ∃ i H', L2.Inv (X.blk s3 H3 scope ce fp) [] (L2.wipe σ (own.map (·.2))) H' s' ∧ tn i s'.heap ∧ (∀ b ∈ fp, H' b = none) ∧ W i m H' := fun {s' H'} I' nx => by
        obtain ⟨m', hm, w'⟩ := hNx H' nx
        have pin' : ∀ b ∈ fp, ∀ o, s7.heap.get? b = some o → s'.heap.get? b = some o ∧ H' b = none := fun b hb o e =>
          let z := I'.pin (b, o) (List.mem_append_right _ (List.mem_append_right _ (mem_pinsAt hb e)))
          ⟨z.1, z.2.1⟩
        have hl : (L2.wipe σ (own.map (·.2))).length = σ8.length := by rw [← hw8, wipe_length]
        refine ⟨m', hm, i + 1, H', (I'.unpinned (pins := [])).weak hl (fun j v e => ?_), T.keep _ _ _ st7 fun b hb o e => (pin' b hb o e).1, fun b hb => ?_, w'⟩
        · rw [← hw8] at e
          exact (wipe_some e).1
        · obtain ⟨o, e, _⟩ := T.obj _ _ st7 b hb
          exact (pin' b hb o e).2
      simp only [if_true]
      refine thnF (pk.run _ s9 σ8 H9 _ I9 q8) fun z s10 ⟨yk, H10, I10, r10, q10⟩ => ?_
      refine thnF (pe.run _ s10 σ8 H10 _ I10 q10) fun z2 s11 ⟨yv, H11, I11, r11, kvs, k, b, ek, hb11, hD11, hz11, nx⟩ => ?_
      subst ek
      obtain rfl : z = Value.ref b := r10
      exact d_dictSetT (X := X.blk s3 H3 scope ce fp) hu I11 hD11 hb11 hz11 r11 fun s12 I12 => fin I12 nx
  exact codeAny_compStart_dict loop (T.self X.A 0 _ _ _ st4 loop)
theorem sw_trueD {kx vx : Expr} {gs : List Comprehension} {scope : Scope} {pos py : Pos} {y : Str} {l : Nat} {env : Env} (hk : env.scope.kind = .function) (hy : env.scope.names.lookup y = some .local) (hl : (py.line == pos.line) = true)
    (ha : (scope.names.any fun (n, k) => n == y && (k == .local || k == .cell)) = false) : swapsWith (.DictComp kx vx gs scope pos) (some (.Name y py)) l env = pure true := by
  have ky : env.kindOf y = some .local := hy
  have hb : env.blockKind = .function := by unfold Env.blockKind; rw [hk]; rfl
  unfold swapsWith
  simp only [hb, ky, ha, Expr.pos, hl]
  rfl
theorem ps_setDcT {i : Nat} {y : Str} {py : Pos} {kx vx tg iter : Expr} {scope : Scope} {own : List (Str × Nat)} {pos spos : Pos} {wi : TI} {g : TG} {tk tv : TE} (hu : X.A.units + 1 < cLine) (hc : X.calm = true) (hN : X.N.Nodup) (hy : X.N[i]? = some y) (hyl : X.env.scope.names.lookup y = some .local)
    (hsw : swapsWith (.DictComp kx vx [⟨tg, iter, [], 0⟩] scope pos) (some (.Name y py)) spos.line X.env = pure true) (hi : PI X tg iter wi) (ok : BlkOk X.N X.env.scope scope own)
    (hg : ∀ (s : Shared) (H : Hp) (C : Addr) (cl : List (Str × Addr)) (fp : List Addr), PG (X.blk s H scope (compEnvC scope cl C X.env) fp) tg g)
    (hk : ∀ (s : Shared) (H : Hp) (C : Addr) (cl : List (Str × Addr)) (fp : List Addr), PE (X.blk s H scope (compEnvC scope cl C X.env) fp) kx tk)
    (he : ∀ (s : Shared) (H : Hp) (C : Addr) (cl : List (Str × Addr)) (fp : List Addr), PE (X.blk s H scope (compEnvC scope cl C X.env) fp) vx tv) (hs : ∀ x, foldedSetIterable iter X.env x = pure x := by intro _; rfl) :
    PS X (.Assign [.Name y py] (.DictComp kx vx [⟨tg, iter, [], 0⟩] scope pos) spos) (tAsg (tDcT wi g tk tv (own.map (·.2))) (gName i)) := by
  refine ⟨fun pins s σ H D I h => ?_⟩
  rw [exec_Assign_Name_used _ _ _ _ hsw]
  refine wpAny_bind (wpAny_standAt (wpAny_bind ?_))
  show wpAny _ X.A (do let _ ← comprehension (.DictComp kx vx [⟨tg, iter, [], 0⟩] scope pos) scope X.env (firstIterPos [⟨tg, iter, [], 0⟩] pos) newDict false (eval iter X.env) (some (assign (.Name y py) X.env))) _ _ s
  have h : tDcT wi g tk tv (own.map (·.2)) σ H (fun x H1 => gName i x σ H1 D.nx) := h
  refine wpAny_bind (thn (dcT_core (Qf := fun _ s' => SP X pins D .next s') hu hc hN I hi ok hg hk he hs h fun L C s' m H' I' q hn f => ?_) fun _ s' hq => wpAny_pure (wpAny_pure hq))
  show wpAny _ _ (assign (.Name y py) X.env (.ref L)) _ _ _
  refine wpAny_assign_Name (store_ok2 (v := V.ref L) I' hN hy (.inl hyl) rfl (fun s2 I2 ⟨a, sb, ha⟩ => ?_) (.inr hyl))
  obtain ⟨f0, f1, f2, f3, f4, f5⟩ := f
  have haC : C ≠ a := by
    rcases ha with z | z
    · rw [z]; exact f1
    · exact fun e => f4 y a z e.symm
  refine ⟨m, hn.sameBut sb haC, fun h3 sb3 => ?_⟩
  exact ⟨_, H', I2.turned (t' := s2.toks) (fun b o hb e => (sb3.2 b hb).trans e) f0 f1 f3 f4 f5, q⟩
end
section
variable {w : Wd} {X : Cx} {env : En} {O : Os} {σ : L2.St} {H H1 H2 H' : Hp} {p pos pos2 : Pos} {kx vx tg iter : Expr} {scope : Scope} {rest : List Stmt} {Dn : Ends}
theorem dc_run (j : Nat) {α : Type} {f : α → D} {kf : α → List L2.Key} {vf : α → V} {xs : List α} {y : Str} {py : Pos} (hu : X.A.units + 64 < cLine) (hc : X.calm = true) (hN : X.N.Nodup) (hi : IC w X (.Name y py) iter env O (xs.map f)) (ok : BlkOk X.N X.env.scope scope [(y, j)]) (hz : xs.length < sizeLine)
    (hg : ∀ (s : Shared) (H : Hp) (C : Addr) (cl : List (Str × Addr)) (fp : List Addr), PG (X.blk s H scope (compEnvC scope cl C X.env) fp) (.Name y py) (gName j))
    (hkx : ∀ x ∈ xs, ∀ q acc s H0 C cl fp, EV w (X.blk s H0 scope (compEnvC scope cl C X.env) fp) kx (env.put j (.d (f x))) (O ++ [(q, .t acc)]) (.tup ((kf x).map dK)))
    (hvx : ∀ x ∈ xs, ∀ q acc s H0 C cl fp, EV w (X.blk s H0 scope (compEnvC scope cl C X.env) fp) vx (env.put j (.d (f x))) (O ++ [(q, .t acc)]) (.v (vf x)))
    : ∃ wi, PI X (.Name y py) iter wi ∧ ∀ σ H, Sd w env O σ H → ∀ Q : VK, (∀ p H', Sd w env (O ++ [(p, .t (dcL kf vf xs))]) σ H' → (∀ b o, b ∉ w.B → H b = some o → H' b = some o) → Q (.ref p) H') → tDcT wi (gName j) (REb X scope kx) (REb X scope vx) [j] σ H Q := by
  obtain ⟨wi, pi, hw⟩ := hi
  refine ⟨wi, pi, fun σ H h Q q => ?_⟩
  refine hw σ H h _ fun J Gd Y H1 l1 wk kg ky Dn hD => ?_
  refine ⟨fun i m H2 => m = xs.length - i ∧ i ≤ xs.length ∧ (∀ b o, b ∉ w.B → H1 b = some o → H2 b = some o) ∧ Sd w env (O ++ [(Dn, .t (dcL kf vf (xs.take i)))]) σ H2 ∧ Ex (w.G O H1) (w.G (O ++ [(Dn, .t (dcL kf vf (xs.take i)))]) H2), ⟨_, rfl, Nat.zero_le _, fun b o _ e => Ex.new hD b o e, ?_⟩, ?_⟩
  · have z := l1.1.newE (c := .t []) (o := .dT []) hD upd_same
    refine ⟨z.1, ?_⟩
    show Ex (w.G O H1) (w.G (O ++ [(Dn, Oc.t [])]) (upd H1 Dn (HO.dT [])))
    rw [z.2]
    exact Same.refl _
  · rintro i m H2 ⟨rfl, hle, k2, s2, ex2⟩
    by_cases hlt : i < xs.length
    · have hlt2 : i < (xs.map f).length := by simpa using hlt
      refine .inr ⟨wk.goes i H2 hlt2 (kg H2 k2), fun H9 => i + 1 ≤ xs.length ∧ (∀ b o, b ∉ w.B → H1 b = some o → H9 b = some o) ∧ Sd w env (O ++ [(Dn, .t (dcL kf vf (xs.take (i + 1))))]) σ H9 ∧ Ex (w.G O H1) (w.G (O ++ [(Dn, .t (dcL kf vf (xs.take (i + 1))))]) H9), fun H9 h9 => ⟨xs.length - (i + 1), by omega, rfl, h9⟩, fun x H3 y => ?_⟩
      obtain ⟨d, hd, yy⟩ := ky i H2 x H3 hlt2 k2 (wk.yields i H2 x H3 hlt2 (kg H2 k2) y)
      have hxs : xs[i]? = some xs[i] := List.getElem?_eq_getElem hlt
      have hd' : d = f xs[i] := by
        rw [List.getElem?_map, hxs] at hd
        exact (Option.some.inj hd).symm
      have hmem : xs[i] ∈ xs := List.getElem_mem hlt
      have step : ∃ _ : Lv w env (O ++ [(Dn, .t (dcL kf vf (xs.take i)))]) σ H2 H3, Rp w.K (w.G (O ++ [(Dn, .t (dcL kf vf (xs.take i)))]) H3) x (f xs[i]) ∧ (∀ b o, b ∉ w.B → H1 b = some o → H3 b = some o) := by
        rw [← hd']
        rcases yy with ⟨e3, rr⟩ | ⟨T, ys, es, rfl, hT, e3, ry, rfl⟩
        · subst e3
          exact ⟨.refl s2, rr.mono ex2, k2⟩
        · subst e3
          exact ⟨Lv.new s2 hT, Lv.newT s2 hT (ry.mono ex2), fun b o hb e => Ex.new hT b o (k2 b o hb e)⟩
      obtain ⟨l3, r3, k3⟩ := step
      refine bnd_name j (f xs[i]) env _ σ H3 x l3.1 r3 _ fun σ2 s4 hw2 => ⟨hw2, ?_⟩
      have nb : Dn ∉ w.B := fun z => s2.disj (p := Dn) (by simp [own]) (w.bs _ z)
      show REb X scope kx σ2 H3 _
      intro s H0 C cl fp
      refine hkx xs[i] hmem _ _ s H0 C cl fp σ2 H3 s4 _ fun yk H4 l4 r4 => ?_
      obtain ⟨b, rfl, hb4⟩ := rp_key r4
      show REb X scope vx σ2 H4 _
      intro s' H0' C' cl' fp'
      refine hvx xs[i] hmem _ _ s' H0' C' cl' fp' σ2 H4 l4.1 _ fun yv H5 l5 r5 => ?_
      rw [rp_v r5]
      have hb5 : H5 b = some (.tup ((kf xs[i]).map kV)) := mn_le _ _ _ _ (l5.ex _ _ hb4)
      have eD : H5 Dn = some (.dT (dcL kf vf (xs.take i))) := l5.1.get (k := O.length) last_ix
      have zl : (dcL kf vf (xs.take i)).length < sizeLine := by
        have h1 := dcL_len kf vf (xs.take i) []
        have h2 : (xs.take i).length ≤ xs.length := by rw [List.length_take]; omega
        simp only [List.length_nil, Nat.zero_add] at h1
        exact Nat.lt_of_le_of_lt (Nat.le_trans h1 h2) hz
      have kk : ∀ b o, b ∉ w.B → H1 b = some o → H5 b = some o := fun b o hb e => l5.2 b o hb (l4.2 b o hb (k3 b o hb e))
      have z := s2.growB (H' := H5) (fun b o hb e => l5.2 b o hb (l4.2 b o hb (l3.2 b o hb e))) (fun b hb => l5.1.bt b (w.bs b hb)) l5.1.j
      refine ⟨_, kf xs[i], b, rfl, hb5, eD, zl, by omega, fun b o hb e => ?_, ?_⟩
      · have hne : b ≠ Dn := fun q' => by rw [q', hD] at e; cases e
        rw [upd_ne hne]
        exact kk b o hb e
      · have tk : xs.take (i + 1) = xs.take i ++ [xs[i]] := by rw [List.take_add_one, hxs]; rfl
        have ed : dcL kf vf (xs.take (i + 1)) = putK (dcL kf vf (xs.take i)) (kf xs[i]) (vf xs[i]) := by
          rw [tk]
          simp only [dcL, List.foldl_append, List.foldl_cons, List.foldl_nil]
        have wr := z.1.write (k := O.length) (c := .t (dcL kf vf (xs.take (i + 1)))) (o := .dT (putK (dcL kf vf (xs.take i)) (kf xs[i]) (vf xs[i]))) last_ix (by rw [ed]; exact upd_same)
        have es : (O ++ [(Dn, Oc.t (dcL kf vf (xs.take i)))]).set O.length (Dn, .t (dcL kf vf (xs.take (i + 1)))) = O ++ [(Dn, .t (dcL kf vf (xs.take (i + 1))))] := by
          rw [List.set_append_right _ _ (Nat.le_refl _), Nat.sub_self]
          rfl
        rw [es] at wr
        refine ⟨wr.1, ?_⟩
        rw [wr.2]
        exact ex2.trans z.2
    · have e : i = xs.length := by omega
      subst e
      have hl : (xs.map f).length = xs.length := by simp
      refine .inl ⟨hl ▸ wk.stops H2 (kg H2 k2), ?_⟩
      rw [List.take_length] at s2
      exact q Dn H2 s2 fun b o hb e => k2 b o hb (l1.2 b o hb e)
/-- name = {k: v for y in ..}, keys tuples -/
theorem ws_dc (i j : Nat) {α : Type} {f : α → D} {kf : α → List L2.Key} {vf : α → V} {xs : List α} {y z : Str} {py pz : Pos} (hu : X.A.units + 64 < cLine) (hc : X.calm = true) (hN : X.N.Nodup) (hi : IC w X (.Name y py) iter env O (xs.map f)) (ok : BlkOk X.N X.env.scope scope [(y, j)]) (hz : xs.length < sizeLine)
    (hg : ∀ (s : Shared) (H : Hp) (C : Addr) (cl : List (Str × Addr)) (fp : List Addr), PG (X.blk s H scope (compEnvC scope cl C X.env) fp) (.Name y py) (gName j))
    (hkx : ∀ x ∈ xs, ∀ q acc s H0 C cl fp, EV w (X.blk s H0 scope (compEnvC scope cl C X.env) fp) kx (env.put j (.d (f x))) (O ++ [(q, .t acc)]) (.tup ((kf x).map dK)))
    (hvx : ∀ x ∈ xs, ∀ q acc s H0 C cl fp, EV w (X.blk s H0 scope (compEnvC scope cl C X.env) fp) vx (env.put j (.d (f x))) (O ++ [(q, .t acc)]) (.v (vf x)))
    (q : ∀ p, WPS w X (env.put i (.a p)) (O ++ [(p, .t (dcL kf vf xs))]) rest Dn) (hy : X.N[i]? = some z := by rfl) (hyl : X.env.scope.names.lookup z = some .local := by rfl) (hs : ∀ x, foldedSetIterable iter X.env x = pure x := by intro _; rfl)
    (hsw : swapsWith (.DictComp kx vx [⟨.Name y py, iter, [], 0⟩] scope pos) (some (.Name z pz)) pos2.line X.env = pure true := by exact sw_trueD rfl rfl rfl (by decide +kernel)) : WPS w X env O (.Assign [.Name z pz] (.DictComp kx vx [⟨.Name y py, iter, [], 0⟩] scope pos) pos2 :: rest) Dn := by
  obtain ⟨wi, pi, run⟩ := dc_run j hu hc hN hi ok hz hg hkx hvx
  refine ws_cons (ps_setDcT (own := [(y, j)]) (tk := REb X scope kx) (tv := REb X scope vx) (by omega) hc hN hy hyl hsw pi ok hg (fun s H C cl fp => pe_cb s H C cl fp) (fun s H C cl fp => pe_cb s H C cl fp) hs) fun σ H hs => ?_
  exact run σ H hs _ fun p H' h' ex => q p _ H' (h'.setA i)
end
end Mp
end
section
set_option Elab.async false
set_option linter.all false
set_option maxRecDepth 100000
set_option maxHeartbeats 4000000
namespace Q95
open PySem PySem.Spec PyProof.Rows L2 Mp
open Mi
section
variable {P : Program} {wl : World} {K : PySem.W.Frag} {mg : Str → Option Value} {base : Heap}
def R_order_of : List D → D → Prop := fun ds d => ∃ (many : Int) (l : List Int), ds = [.int many, tI l] ∧ 0 ≤ many ∧ many ≤ 5 ∧ okD many l ∧ d = tI (lineOf many l)
def R_undone_of : List D → D → Prop := fun ds d => ∃ l : List Int, ds = [tI l] ∧ l.length ≤ 100000 ∧ d = tI (undo l)
def R_end_order : List D → D → Prop := fun ds d => ∃ (many : Int) (l : List Int), ds = [.int many, tI l] ∧ 2 ≤ many ∧ many ≤ 5 ∧ okD many l ∧ d = tI (lineOf many l)
def R_undone : List D → D → Prop := fun ds d => ∃ (many : Int) (l : List Int), ds = [.int many, tI l] ∧ 2 ≤ many ∧ many ≤ 5 ∧ okD many l ∧ d = tI (undo l)
def R_mirrored : List D → D → Prop := fun ds d => ∃ (many : Int) (l : List Int), ds = [.int many, tI l] ∧ 2 ≤ many ∧ many ≤ 5 ∧ okD many l ∧ d = tI (mir l)
def R_turned_about : List D → D → Prop := fun ds d => ∃ (many : Int) (l : List Int), ds = [.int many, tI l] ∧ 2 ≤ many ∧ many ≤ 5 ∧ okD many l ∧ d = tI (turn many l)
theorem tI_map (g : Int → Int) (l : List Int) : tI (l.map g) = D.tup (l.map fun s => D.int (g s)) := by
  show D.tup ((l.map g).map D.int) = _
  rw [List.map_map]
  rfl
theorem k_order_of (T : Txt K mg) : Def P wl K mg base "order_of" 1 (PF K R_order_of) := by
  refine def_pure T.h_order_of T.g_order_of sc_order_of T.bd_order_of (fun ds d ⟨_, _, h, _⟩ => by rw [h]; rfl) (by decide) fun cdv A outer s H E L Dn ds d hr hR q hn => ?_
  obtain ⟨many, l, rfl, h0, h5, ok, rfl⟩ := hR
  refine ws_new 2 sc_order_of.nd (en_lstR rfl rfl T.b_list (gv_1 rfl T.b_range (ev_var 0 rfl)) (by simp only [RgOk]; omega)) fun pl => ?_
  refine ws_for (f := fun d env => env.put 3 (.d d)) (fun i => ⟨[.d (.int many), .d (tI l), .a pl, .no, .no], []⟩) (fun i => [(pl, .l (iL (lineOf many (l.take i))))]) rfl (iv_U rfl (ev_var 1 rfl)) (pg_name sc_order_of.nd rfl (.inl rfl)) (fun d _ => bns_name 3 d) (fun σ H g h => h) (fun gh i d hd => ?_) ?_
  · obtain ⟨st, hst, rfl⟩ := get_map hd
    have hm' := ok.1 st (List.mem_of_getElem? hst)
    simp only [okS] at hm'
    have hll := lineOf_len many (l.take i)
    have hnx : lineOf many (l.take (i + 1)) = swp (lineOf many (l.take i)) st.natAbs := by
      unfold lineOf
      rw [fold_take _ _ _ hst]
    generalize lineOf many (l.take i) = line at hll hnx
    rw [hnx]
    refine ws_set 4 sc_order_of.nd (ev_absC rfl T.b_abs (ev_var 3 rfl)) ?_
    refine ws_swap 2 0 (st.natAbs - 1) st.natAbs (d1 := .int (line.getD st.natAbs 0)) (d2 := .int (line.getD (st.natAbs - 1) 0)) rfl rfl rfl (ev_ixL (el_var 2 0 rfl rfl) (ev_var 4 rfl) (atI_ints (by omega))) (ev_ixL (el_var 2 0 rfl rfl) (ev_sub (ev_var 4 rfl) ev_int) (atI_to (n := st.natAbs - 1) (by omega) (atI_ints (by omega))))
      (fun ds' => ev_sub (ev_var 4 rfl) ev_int) (fun ds' => ev_var 4 rfl) (by omega) rfl (by rw [List.length_map]; omega) (by rw [List.length_map]; omega) (ws_nil fun σ H h => ?_) (hg := ?_)
    · have e3 : iL (swp line st.natAbs) = ((iL line).set (st.natAbs - 1) (.int (line.getD st.natAbs 0))).set st.natAbs (.int (line.getD (st.natAbs - 1) 0)) := by simp [iL, swp, List.map_set]
      rw [e3]
      exact h.wk (.keep (.keep (.keep (.drop (.drop .nil)))))
    · exact pg_tup rfl (pgs_cons (pg_sub (pe_var rfl (.inl rfl) (by decide) (by decide)) pe_c set_list) (pgs_cons (pg_sub (pe_var rfl (.inl rfl) (by decide) (by decide)) pe_c set_list) pgs_nil))
  · rw [List.length_map, List.take_length]
    exact ws_ret (ev_tupL rfl T.b_tuple (el_var 2 0 rfl rfl)) q
theorem k_undone_of (T : Txt K mg) : Def P wl K mg base "undone_of" 1 (PF K R_undone_of) := by
  refine def_pure T.h_undone_of T.g_undone_of sc_undone_of T.bd_undone_of (fun ds d ⟨_, h, _⟩ => by rw [h]; rfl) (by decide) fun cdv A outer s H E L Dn ds d hr hR q hn => ?_
  obtain ⟨l, rfl, hl, rfl⟩ := hR
  exact ws_ret (EV.to (ev_tupL rfl T.b_tuple (EN.l (LC.n (lc_n 1 (f := D.int) (r := fun s => D.int (0 - s)) (xs := l.reverse) (ic_U rfl (eu_of (EV.to (ev_backU rfl (eu_of (ev_var 0 rfl)) (by rw [List.length_map]; exact sz_of (by omega))) (by rw [← List.map_reverse])))) (blkOk_by (N := n_undone_of) (sc := defScope s_undone_of) (by decide +kernel)) (sz_lt (by rw [List.length_reverse]; omega)) (fun _ _ _ _ _ => pg_name sc_undone_of.nd rfl (.inl rfl))
    (fun x hx q acc s' H0 C cl fp => ev_sub ev_int (ev_var 1 rfl))) rfl sc_undone_of.nd))) (tI_map _ _).symm) q
theorem k_end_order (T : Txt K mg) : Def P wl K mg base "end_order" 6 (PF K R_end_order) := by
  refine def_pure T.h_end_order T.g_end_order sc_end_order T.bd_end_order (fun ds d ⟨_, _, h, _⟩ => by rw [h]; rfl) (by decide) fun cdv A outer s H E L Dn ds d hr hR q hn => ?_
  obtain ⟨many, l, rfl, h2, h5, ok, rfl⟩ := hR
  exact ws_expr (ev_call (k_need_one T) hr rfl (av_cons (ev_var 0 rfl) (av_cons (ev_var 1 rfl) av_nil)) ⟨many, l, rfl, h2, h5, ok, rfl⟩)
    (ws_ret (ev_call (k_order_of T) (hr.mono (by decide)) rfl (av_cons (ev_var 0 rfl) (av_cons (ev_var 1 rfl) av_nil)) ⟨many, l, rfl, by omega, h5, ok, rfl⟩) q)
theorem k_undone (T : Txt K mg) : Def P wl K mg base "undone" 6 (PF K R_undone) := by
  refine def_pure T.h_undone T.g_undone sc_undone T.bd_undone (fun ds d ⟨_, _, h, _⟩ => by rw [h]; rfl) (by decide) fun cdv A outer s H E L Dn ds d hr hR q hn => ?_
  obtain ⟨many, l, rfl, h2, h5, ok, rfl⟩ := hR
  exact ws_expr (ev_call (k_need_one T) hr rfl (av_cons (ev_var 0 rfl) (av_cons (ev_var 1 rfl) av_nil)) ⟨many, l, rfl, h2, h5, ok, rfl⟩)
    (ws_ret (ev_call (k_undone_of T) (hr.mono (by decide)) rfl (av_cons (ev_var 1 rfl) av_nil) ⟨l, rfl, ok.2, rfl⟩) q)
theorem k_mirrored (T : Txt K mg) : Def P wl K mg base "mirrored" 6 (PF K R_mirrored) := by
  refine def_pure T.h_mirrored T.g_mirrored sc_mirrored T.bd_mirrored (fun ds d ⟨_, _, h, _⟩ => by rw [h]; rfl) (by decide) fun cdv A outer s H E L Dn ds d hr hR q hn => ?_
  obtain ⟨many, l, rfl, h2, h5, ok, rfl⟩ := hR
  have hl := ok.2
  exact ws_expr (ev_call (k_need_one T) hr rfl (av_cons (ev_var 0 rfl) (av_cons (ev_var 1 rfl) av_nil)) ⟨many, l, rfl, h2, h5, ok, rfl⟩)
    (ws_ret (EV.to (ev_tupL rfl T.b_tuple (EN.l (LC.n (lc_n 2 (f := D.int) (r := fun s => D.int (0 - s)) (xs := l) (ic_U rfl (eu_of (ev_var 1 rfl))) (blkOk_by (N := n_mirrored) (sc := defScope s_mirrored) (by decide +kernel)) (sz_lt (by omega)) (fun _ _ _ _ _ => pg_name sc_mirrored.nd rfl (.inl rfl))
    (fun x hx q acc s' H0 C cl fp => ev_sub ev_int (ev_var 2 rfl))) rfl sc_mirrored.nd))) (tI_map _ _).symm) q)
theorem k_turned_about (T : Txt K mg) : Def P wl K mg base "turned_about" 6 (PF K R_turned_about) := by
  refine def_pure T.h_turned_about T.g_turned_about sc_turned_about T.bd_turned_about (fun ds d ⟨_, _, h, _⟩ => by rw [h]; rfl) (by decide) fun cdv A outer s H E L Dn ds d hr hR q hn => ?_
  obtain ⟨many, l, rfl, h2, h5, ok, rfl⟩ := hR
  have hl := ok.2
  exact ws_expr (ev_call (k_need_one T) hr rfl (av_cons (ev_var 0 rfl) (av_cons (ev_var 1 rfl) av_nil)) ⟨many, l, rfl, h2, h5, ok, rfl⟩)
    (ws_ret (EV.to (ev_tupL rfl T.b_tuple (EN.l (LC.n (lc_n 2 (f := D.int) (r := fun s => D.int (if 0 < s then many - s else 0 - s - many)) (xs := l) (ic_U rfl (eu_of (ev_var 1 rfl))) (blkOk_by (N := n_turned_about) (sc := defScope s_turned_about) (by decide +kernel)) (sz_lt (by omega)) (fun _ _ _ _ _ => pg_name sc_turned_about.nd rfl (.inl rfl))
    (fun x hx q acc s' H0 C cl fp => ev_if (tv_gt (ev_var 2 rfl) ev_int) (fun h => EV.to (ev_sub (ev_var 0 rfl) (ev_var 2 rfl)) (by rw [if_pos (of_decide_eq_true h)])) (fun h => EV.to (ev_sub (ev_sub ev_int (ev_var 2 rfl)) (ev_var 0 rfl)) (by rw [if_neg (of_decide_eq_false h)])))) rfl sc_turned_about.nd))) (tI_map _ _).symm) q)
def R_pairs_of : List D → D → Prop := fun ds d => ∃ many : Int, ds = [.int many] ∧ 0 ≤ many ∧ many ≤ 5 ∧ d = .lst ((prsOf many).map tI)
def R_swapped : List D → D → Prop := fun ds d => ∃ (order : List Int) (a : Nat), ds = [tI order, .int (a : Int)] ∧ a + 1 < order.length ∧ order.length ≤ 1000 ∧ d = tI (swapD order a)
def R_pair_at : List D → D → Prop := fun ds d => ∃ (order : List Int) (a : Nat), ds = [tI order, .int (a : Int)] ∧ a + 1 < order.length ∧ order.length ≤ 1000 ∧ d = tI (pairD order a)
abbrev dM (z : List Int × Bool) : D := .tup [tI z.1, .bl z.2]
def R_met : List D → D → Prop := fun ds d => ∃ (many : Int) (l : List Int), ds = [.int many, tI l] ∧ 0 ≤ many ∧ many ≤ 5 ∧ okD many l ∧ d = .lst ((metSt many l).2.map dM)
def R_meetings : List D → Oc → Prop := fun ds c => ∃ (many : Int) (l : List Int), ds = [.int many, tI l] ∧ 2 ≤ many ∧ many ≤ 5 ∧ okD many l ∧ c = .t (meetD many l)
theorem k_pairs_of (T : Txt K mg) : Def P wl K mg base "pairs_of" 1 (PF K R_pairs_of) := by
  refine def_pure T.h_pairs_of T.g_pairs_of sc_pairs_of T.bd_pairs_of (fun ds d ⟨_, h, _⟩ => by rw [h]; rfl) (by decide) fun cdv A outer s H E L Dn ds d hr hR q hn => ?_
  obtain ⟨many, rfl, h0, h5, rfl⟩ := hR
  have hz : ((rng 0 many).flatMap fun x => rng (x + 1) many).length ≤ 5 * 5 := by
    rw [List.length_flatMap]
    have : ∀ m : List Int, (∀ x ∈ m, 0 ≤ x) → (m.map fun x => (rng (x + 1) many).length).sum ≤ m.length * 5 := by
      intro m
      induction m with
      | nil => intro _; simp
      | cons x m ih =>
        intro h
        have a := ih fun y hy => h y (by simp [hy])
        have b := h x (by simp)
        have c : (rng (x + 1) many).length ≤ 5 := by rw [rng_len]; omega
        simp only [List.map_cons, List.sum_cons, List.length_cons, Nat.succ_mul]
        omega
    refine Nat.le_trans (this _ fun x hx => (mem_rng.mp hx).1) ?_
    rw [rng_len]
    exact Nat.mul_le_mul (by omega) (Nat.le_refl _)
  refine ws_ret (EV.to (EN.v (en_lc2 (f := D.int) (f1 := D.int) (r := fun x y => tI [x, y]) (xs := rng 0 many) (ys := fun x => rng (x + 1) many) (own' := [("one", 1), ("other", 2)]) (vs1 := [2]) (en := fun x => (wipeE ⟨[.d (.int many), .no, .no], []⟩ [1, 2]).put 1 (.d (.int x))) (en1 := fun x y => ((wipeE ⟨[.d (.int many), .no, .no], []⟩ [1, 2]).put 1 (.d (.int x))).put 2 (.d (.int y)))
    rfl sc_pairs_of.nd (ic_R1 rfl T.b_range (ev_var 0 rfl) (by omega)) (blkOk_by (N := n_pairs_of) (sc := defScope s_pairs_of) (by decide +kernel)) (by decide) (fun _ _ _ _ _ => pg_name sc_pairs_of.nd rfl (.inl rfl)) (fun _ _ _ _ _ => pg_name sc_pairs_of.nd rfl (.inl rfl)) (sz_lt (by omega)) (fun x hx => bnd_name2 1 2 (by decide) _ _)
    (ic1_R2 (fun _ _ _ _ _ => rfl) T.b_range (fun x hx q acc s H0 C cl fp => ev_add (ev_var 1 rfl) ev_int) (fun x hx q acc s H0 C cl fp => ev_var 0 rfl) (fun x hx => by have := mem_rng.mp hx; omega))
    (fun x hx y hy => bnd_name 2 _ _) (fun x hx y hy q acc s H0 C cl fp => ev_tup (av_cons (ev_var 1 rfl) (av_cons (ev_var 2 rfl) av_nil)) (sz_of (by simp))))) ?_) q
  unfold prsOf
  rw [List.map_flatMap]
  simp only [List.map_map]
  rfl
theorem k_swapped (T : Txt K mg) : Def P wl K mg base "swapped" 1 (PF K R_swapped) := by
  refine def_pure T.h_swapped T.g_swapped sc_swapped T.bd_swapped (fun ds d ⟨_, _, h, _⟩ => by rw [h]; rfl) (by decide) fun cdv A outer s H E L Dn ds d hr hR q hn => ?_
  obtain ⟨order, a, rfl, h1, h2, rfl⟩ := hR
  refine ws_ret (EV.to (ev_tup (av_starU rfl (eu_of (ev_slU rfl (eu_of (ev_var 0 rfl)) ov_none (ov_some (ev_var 1 rfl)))) (av_cons (ev_ixU rfl (eu_of (ev_var 0 rfl)) (ev_add (ev_var 1 rfl) ev_int) (atI_to (n := a + 1) (by omega) (atI_ints h1))) (av_cons (ev_ixU rfl (eu_of (ev_var 0 rfl)) (ev_var 1 rfl) (atI_ints (by omega))) (av_starU rfl (eu_of (ev_slU rfl (eu_of (ev_var 0 rfl)) (ov_some (EV.to (ev_add (ev_var 1 rfl) ev_int) (show D.int ((a : Int) + 2) = .int ((a + 2 : Nat) : Int) by simp))) ov_none)) av_nil)))) ?_) ?_) q
  · rw [cut_to, cut_from]
    simp only [List.length_append, List.length_cons, List.length_nil, List.length_take, List.length_drop, List.length_map]
    exact sz_of (by omega)
  · rw [cut_to, cut_from]
    unfold swapD
    simp [iL, List.map_take, List.map_drop]
theorem k_pair_at (T : Txt K mg) : Def P wl K mg base "pair_at" 1 (PF K R_pair_at) := by
  refine def_pure T.h_pair_at T.g_pair_at sc_pair_at T.bd_pair_at (fun ds d ⟨_, _, h, _⟩ => by rw [h]; rfl) (by decide) fun cdv A outer s H E L Dn ds d hr hR q hn => ?_
  obtain ⟨order, a, rfl, h1, h2, rfl⟩ := hR
  exact ws_ret (ev_tup (av_cons (ev_min2 rfl rfl T.b_min (ev_ixU rfl (eu_of (ev_var 0 rfl)) (ev_var 1 rfl) (atI_ints (by omega))) (ev_ixU rfl (eu_of (ev_var 0 rfl)) (ev_add (ev_var 1 rfl) ev_int) (atI_to (n := a + 1) (by omega) (atI_ints h1))))
    (av_cons (ev_max2 rfl rfl T.b_max (ev_ixU rfl (eu_of (ev_var 0 rfl)) (ev_var 1 rfl) (atI_ints (by omega))) (ev_ixU rfl (eu_of (ev_var 0 rfl)) (ev_add (ev_var 1 rfl) ev_int) (atI_to (n := a + 1) (by omega) (atI_ints h1)))) av_nil)) (sz_of (by simp))) q
theorem k_met (T : Txt K mg) : Def P wl K mg base "met" 2 (PF K R_met) := by
  refine def_pure T.h_met T.g_met sc_met T.bd_met (fun ds d ⟨_, _, h, _⟩ => by rw [h]; rfl) (by decide) fun cdv A outer s H E L Dn ds d hr hR q hn => ?_
  obtain ⟨many, l, rfl, h0, h5, ok, rfl⟩ := hR
  refine ws_parVO 2 3 rfl sc_met.nd (by decide) (ev_tupR rfl rfl T.b_tuple (gv_1 rfl T.b_range (ev_var 0 rfl)) (by simp only [RgOk]; omega)) (fun g => (en_lst av_nil (sz_of (by simp))).o) fun pf => ?_
  refine ws_for (f := fun d env => env.put 4 (.d d)) (fun i => ⟨[.d (.int many), .d (tI l), .d (tI (lineOf many (l.take i))), .a pf, .no], []⟩) (fun i => [(pf, .l ((metSt many (l.take i)).2.map dM))]) rfl (iv_U rfl (ev_var 1 rfl)) (pg_name sc_met.nd rfl (.inl rfl)) (fun d _ => bns_name 4 d) (fun σ H g h => h) (fun gh i d hd => ?_) ?_
  · obtain ⟨st, hst, rfl⟩ := get_map hd
    have hm' := ok.1 st (List.mem_of_getElem? hst)
    simp only [okS] at hm'
    have hl := ok.2
    have hll := lineOf_len many (l.take i)
    have hline : lineOf many (l.take (i + 1)) = swp (lineOf many (l.take i)) st.natAbs := by
      unfold lineOf
      rw [fold_take _ _ _ hst]
    have hmet : (metSt many (l.take (i + 1))).2 = (metSt many (l.take i)).2 ++ [(pairAt (lineOf many (l.take i)) st.natAbs, decide (0 < st))] := by
      rw [← metSt_1]
      unfold metSt
      rw [fold_take _ _ _ hst]
    have hfl := metSt_len many (l.take i)
    rw [List.length_take] at hfl
    rw [hline, hmet]
    generalize lineOf many (l.take i) = line at hll
    generalize (metSt many (l.take i)).2 = found at hfl
    refine ws_app 3 0 (d := dM (pairAt line st.natAbs, decide (0 < st))) rfl rfl (ev_tup (av_cons (EV.to (ev_call (k_pair_at T) hr rfl (av_cons (ev_var 2 rfl) (av_cons (EV.to (ev_sub (ev_absC rfl T.b_abs (ev_var 4 rfl)) ev_int) (show D.int ((st.natAbs : Int) - 1) = .int ((st.natAbs - 1 : Nat) : Int) by congr 2; omega)) av_nil)) ⟨line, st.natAbs - 1, rfl, by omega, by omega, rfl⟩) (by rw [pairD_at _ hm'.1])) (av_cons (ev_gt (ev_var 4 rfl) ev_int) av_nil)) (sz_of (by simp))) (sz_lt (by rw [List.length_map]; omega)) ?_
    refine ws_set 2 sc_met.nd (EV.to (ev_call (k_swapped T) hr rfl (av_cons (ev_var 2 rfl) (av_cons (EV.to (ev_sub (ev_absC rfl T.b_abs (ev_var 4 rfl)) ev_int) (show D.int ((st.natAbs : Int) - 1) = .int ((st.natAbs - 1 : Nat) : Int) by congr 2; omega)) av_nil)) ⟨line, st.natAbs - 1, rfl, by omega, by omega, rfl⟩) (by rw [swapD_swp hm'.1 (by omega)])) (ws_nil fun σ H h => ?_)
    rw [List.map_append]
    exact h.wk (.keep (.keep (.keep (.keep (.drop .nil)))))
  · refine ws_retO 3 0 rfl rfl ?_
    rw [List.length_map, List.take_length]
    exact q
end
end Q95
end
section
set_option Elab.async false
set_option linter.all false
set_option maxRecDepth 100000
set_option maxHeartbeats 4000000
namespace Q95
open PySem PySem.Spec PyProof.Rows L2 Mp
open Mi
section
variable {P : Program} {wl : World} {K : PySem.W.Frag} {mg : Str → Option Value} {base : Heap}
theorem dc0_len (xs : List (List Int)) : (xs.foldl (fun (acc : LD) p => putK acc (kI p) (.int 0)) []).length ≤ xs.length := by
  have := dcL_len kI (fun _ : List Int => V.int 0) xs []
  simpa using this
theorem k_meetings (T : Txt K mg) : Def P wl K mg base "meetings" 5 (PN K R_meetings) := by
  refine def_new T.h_meetings T.g_meetings sc_meetings T.bd_meetings (fun ds d ⟨_, _, h, _⟩ => by rw [h]; rfl) (by decide) fun cdv A outer s H E L Dn ds d hr hR q => ?_
  obtain ⟨many, l, rfl, h2, h5, ok, rfl⟩ := hR
  have hpl := prs_len (many := many) (by omega) h5
  refine ws_expr (ev_call (k_need_many T) (hr.mono (by decide)) rfl (av_cons (ev_var 0 rfl) av_nil) ⟨many, rfl, h2, h5, rfl⟩) ?_
  refine ws_expr (ev_call (k_need_dance T) (hr.mono (by decide)) rfl (av_cons (ev_var 0 rfl) (av_cons (ev_var 1 rfl) (av_cons ev_str av_nil))) ⟨many, l, _, rfl, ok, rfl⟩) ?_
  refine ws_dc 3 2 (f := tI) (kf := kI) (vf := fun _ => V.int 0) (xs := prsOf many) (un64 hr) rfl sc_meetings.nd (ic_L (el_of (ev_call (k_pairs_of T) (hr.mono (by decide)) rfl (av_cons (ev_var 0 rfl) av_nil) ⟨many, rfl, by omega, h5, rfl⟩))) (blkOk_by (N := n_meetings) (sc := defScope s_meetings) (by decide +kernel)) (sz_lt (by omega)) (fun _ _ _ _ _ => pg_name sc_meetings.nd rfl (.inl rfl))
    (fun x hx q acc s' H0 C cl fp => EV.to (ev_var 2 rfl) (by rw [kI_d]))
    (fun x hx q acc s' H0 C cl fp => ev_int) fun pf => ?_
  let st : Nat → LD := fun i => ((metSt many l).2.take i).foldl (fun acc z => putK acc (kI z.1) (.int (getI acc (kI z.1) + 1))) ((prsOf many).foldl (fun acc p => putK acc (kI p) (.int 0)) [])
  have hst : ∀ i, HasAll many (st i) ∧ (st i).length ≤ 25 := by
    intro i
    have hp : ∀ z ∈ (metSt many l).2.take i, ∃ low high : Int, z.1 = [low, high] ∧ 0 ≤ low ∧ low < high ∧ high < many := fun z hz => met_pairs ok.1 z (List.mem_of_mem_take hz)
    have key : ∀ (zs : List (List Int × Bool)) (acc : LD), (∀ z ∈ zs, ∃ low high : Int, z.1 = [low, high] ∧ 0 ≤ low ∧ low < high ∧ high < many) → HasAll many acc → acc.length ≤ 25 → HasAll many (zs.foldl (fun acc z => putK acc (kI z.1) (.int (getI acc (kI z.1) + 1))) acc) ∧ (zs.foldl (fun acc z => putK acc (kI z.1) (.int (getI acc (kI z.1) + 1))) acc).length ≤ 25 := by
      intro zs
      induction zs with
      | nil => intro acc _ h1 h2; exact ⟨h1, h2⟩
      | cons z zs ih =>
        intro acc hz h1 h2
        rw [List.foldl_cons]
        refine ih _ (fun y hy => hz y (by simp [hy])) (hasAll_put h1 _ _) ?_
        obtain ⟨low, high, e, g0, g1, g2⟩ := hz z (by simp)
        obtain ⟨v, hv⟩ := h1 low high g0 g1 g2
        unfold putK
        rw [if_pos]
        · rw [List.length_map]; exact h2
        · rw [e, valV_any, hv]; rfl
    exact key _ _ hp (hasAll_prs many) (Nat.le_trans (dc0_len _) hpl)
  refine ws_for (f := fun d env => match d with | .tup [x, y] => (env.put 2 (.d x)).put 4 (.d y) | _ => env) (g := gTup K 2 (gCons (gName 2) (gCons (gName 4) gNil))) (fun i => ⟨[.d (.int many), .d (tI l), .no, .a pf, .no], []⟩) (fun i => [(pf, .t (st i))]) rfl (iv_L (ev_call (k_met T) (hr.mono (by decide)) rfl (av_cons (ev_var 0 rfl) (av_cons (ev_var 1 rfl) av_nil)) ⟨many, l, rfl, by omega, h5, ok, rfl⟩)) (pg_tup rfl (pgs_cons (pg_name sc_meetings.nd rfl (.inl rfl)) (pgs_cons (pg_name sc_meetings.nd rfl (.inl rfl)) pgs_nil))) (fun d hd => ?_) (fun σ H g h => h) (fun gh i d hd => ?_) ?_
  · obtain ⟨z, _, rfl⟩ := List.mem_map.mp hd
    exact bns_pairK 2 4 _ _
  · obtain ⟨z, hz, rfl⟩ := get_map hd
    obtain ⟨h1, h2'⟩ := hst i
    obtain ⟨low, high, e, g0, g1, g2⟩ := met_pairs ok.1 z (List.mem_of_getElem? hz)
    obtain ⟨v, hv⟩ := h1 low high g0 g1 g2
    rw [← e] at hv
    have hgi : getI (st i) (kI z.1) = v := by unfold getI; rw [hv]
    have hnx : st (i + 1) = putK (st i) (kI z.1) (.int (v + 1)) := by
      show ((metSt many l).2.take (i + 1)).foldl _ _ = _
      rw [fold_take _ _ _ hz, ← hgi]
    rw [hnx]
    refine ws_daug 3 0 (ks := kI z.1) (i := v) (j := 1) (un64 hr) rfl rfl (EV.to (ev_var 2 rfl) (by rw [kI_d])) hv ev_int (sz_lt (by omega)) (ws_nil fun σ H h => ?_)
    exact h.wk (.keep (.keep (.drop (.keep (.drop .nil)))))
  · rw [List.length_map]
    have : st (metSt many l).2.length = meetD many l := by
      show ((metSt many l).2.take _).foldl _ _ = _
      rw [List.take_length]
      rfl
    rw [this]
    exact ws_retN 3 0 rfl rfl q
def R_least_leavings : List D → D → Prop := fun ds d => ∃ (many : Int) (l : List Int), ds = [.int many, tI l] ∧ 2 ≤ many ∧ many ≤ 5 ∧ okD many l ∧ d = .lst ((leastOf many l).map tI)
def R_is_woven : List D → D → Prop := fun ds d => ∃ (many : Int) (l : List Int), ds = [.int many, tI l] ∧ 2 ≤ many ∧ many ≤ 5 ∧ okD many l ∧ d = .bl (wovenB many l)
theorem k_is_woven (T : Txt K mg) : Def P wl K mg base "is_woven" 10 (PF K R_is_woven) := by
  refine def_pure T.h_is_woven T.g_is_woven sc_is_woven T.bd_is_woven (fun ds d ⟨_, _, h, _⟩ => by rw [h]; rfl) (by decide) fun cdv A outer s H E L Dn ds d hr hR q hn => ?_
  obtain ⟨many, l, rfl, h2, h5, ok, rfl⟩ := hR
  exact ws_expr (ev_call (k_need_one T) (hr.mono (by decide)) rfl (av_cons (ev_var 0 rfl) (av_cons (ev_var 1 rfl) av_nil)) ⟨many, l, rfl, h2, h5, ok, rfl⟩)
    (ws_ret (ev_eqE (f := fun x : List (List Int) => D.lst (x.map tI)) (x := tanglesOf many l) (y := [rng 0 many]) rfl (un64 hr) (eqe_lst eqe_tI) (by decide) (EV.f (ev_call (k_tangles_of T) hr rfl (av_cons (ev_var 0 rfl) (av_cons (ev_var 1 rfl) av_nil)) ⟨many, l, rfl, h2, h5, ok, rfl⟩)) (EV.f (ev_lst (av_cons (ev_tupR rfl rfl T.b_tuple (gv_1 rfl T.b_range (ev_var 0 rfl)) (by simp only [RgOk]; omega)) av_nil) (sz_of (by simp))))) q)
theorem k_least_leavings (T : Txt K mg) : Def P wl K mg base "least_leavings" 9 (PF K R_least_leavings) := by
  refine def_pure T.h_least_leavings T.g_least_leavings sc_least_leavings T.bd_least_leavings (fun ds d ⟨_, _, h, _⟩ => by rw [h]; rfl) (by decide) fun cdv A outer s H E L Dn ds d hr hR q hn => ?_
  obtain ⟨many, l, rfl, h2, h5, ok, rfl⟩ := hR
  have hle := allLots_len (many := many) (by omega) h5
  let step : List (List Int) → List Int → List (List Int) := fun found lot => if !(found.any fun fewer => fewer.all fun d => decide (d ∈ lot)) && looseIn many l (complOf many lot) then found ++ [lot] else found
  have hsl : ∀ (lots f : List (List Int)), (lots.foldl step f).length ≤ f.length + lots.length := by
    intro lots
    induction lots with
    | nil => intro f; simp
    | cons x lots ih =>
      intro f
      rw [List.foldl_cons]
      have := ih (step f x)
      have : (step f x).length ≤ f.length + 1 := by simp only [step]; split <;> simp
      simp only [List.length_cons]
      omega
  have hmem : ∀ (lots f : List (List Int)), (∀ x ∈ f, x ∈ allLots many) → (∀ x ∈ lots, x ∈ allLots many) → ∀ x ∈ lots.foldl step f, x ∈ allLots many := by
    intro lots
    induction lots with
    | nil => intro f h _; exact h
    | cons y lots ih =>
      intro f h1 h2
      rw [List.foldl_cons]
      refine ih _ (fun x hx => ?_) fun x hx => h2 x (by simp [hx])
      simp only [step] at hx
      split at hx
      · rcases List.mem_append.mp hx with hx | hx
        · exact h1 x hx
        · rw [List.mem_singleton.mp hx]; exact h2 y (by simp)
      · exact h1 x hx
  have hdl : ∀ x ∈ (allLots many).dropLast, x ∈ allLots many := fun x hx => (List.dropLast_sublist _).mem hx
  refine ws_expr (ev_call (k_need_one T) (hr.mono (by decide)) rfl (av_cons (ev_var 0 rfl) (av_cons (ev_var 1 rfl) av_nil)) ⟨many, l, rfl, h2, h5, ok, rfl⟩) ?_
  refine ws_parOO 2 3 rfl sc_least_leavings.nd (by decide) (eo_call (k_loose_lots T) hr rfl (av_cons (ev_var 0 rfl) (av_cons (ev_var 1 rfl) av_nil)) ⟨many, l, rfl, h2, h5, ok, rfl⟩) (fun p => (en_lst av_nil (sz_of (by simp))).o) fun pl pf => ?_
  refine ws_for (f := fun d env => env.put 4 (.d d)) (ds := ((allLots many).dropLast).map tI) (fun i => ⟨[.d (.int many), .d (tI l), .a pl, .a pf, .no, .no, .no, .no], []⟩) (fun i => [(pl, .t (dcLoose many l)), (pf, .l ((((allLots many).dropLast.take i).foldl step []).map tI))]) rfl (iv_L (EV.to (ev_slL (el_of (ev_call (k_all_lots T) (hr.mono (by decide)) rfl (av_cons (ev_var 0 rfl) av_nil) ⟨many, rfl, by omega, h5, rfl⟩)) ov_none (ov_some (ev_neg ev_int))) (by rw [cut_m1, List.map_dropLast]))) (pg_name sc_least_leavings.nd rfl (.inr rfl)) (fun d _ => bns_name 4 d) (fun σ H g h => h) (fun gh i d hd => ?_) ?_
  · obtain ⟨lot, hlot, rfl⟩ := get_map hd
    have hL := (allLots_iff (many := many) (by omega)).mp (hdl lot (List.mem_of_getElem? hlot))
    have hlen := hL.len' (by omega)
    have hfl := hsl ((allLots many).dropLast.take i) []
    have hfm := hmem ((allLots many).dropLast.take i) [] (fun x hx => by simp at hx) fun x hx => hdl x (List.mem_of_mem_take hx)
    rw [List.length_take, List.length_dropLast, List.length_nil] at hfl
    have hnx : ((allLots many).dropLast.take (i + 1)).foldl step [] = step (((allLots many).dropLast.take i).foldl step []) lot := fold_take _ _ _ hlot
    rw [hnx]
    generalize ((allLots many).dropLast.take i).foldl step [] = found at hfl hfm
    have hC : Lot many (complOf many lot) := ⟨(by
      unfold complOf rng
      exact List.Pairwise.filter _ (by
        rw [List.pairwise_map]
        exact List.pairwise_lt_range.imp fun h => by omega)), fun x hx => mem_rng.mp (List.mem_filter.mp hx).1⟩
    refine ws_if (p := !(found.any fun fewer => fewer.all fun d => decide (d ∈ lot))) ?_ (fun hq => ?_) (fun hq => ?_)
    · refine tv_not (tv_val (ev_anyF rfl rfl T.b_any (EN.l (LC.n (lc_n 7 (f := tI) (r := fun fewer => D.bl (fewer.all fun d => decide (d ∈ lot))) (xs := found) (ic_L (el_var 3 1 rfl rfl)) (blkOk_by (N := n_least_leavings) (sc := defScope s_least_leavings) (by decide +kernel)) (sz_lt (by omega)) (fun _ _ _ _ _ => pg_name sc_least_leavings.nd rfl (.inl rfl)) (fun x hx q acc s' H0 C cl fp => ?_)) rfl sc_least_leavings.nd))))
      have hxl := ((allLots_iff (many := many) (by omega)).mp (hfm x hx)).len' (by omega)
      exact ev_allF rfl rfl T.b_all (EN.l (LC.n (lc_n 6 (f := D.int) (r := fun d => D.bl (decide (d ∈ lot))) (xs := x) (ic_U rfl (eu_of (ev_var 7 rfl))) (blkOk_by (N := n_least_leavings) (sc := relS ⟨.function, [(".0", .local), ("fewer", .local), ("all", .globalImplicit), ("lot", .free)], false, false, []⟩ (defScope s_least_leavings)) (by decide +kernel)) (sz_lt (by omega)) (fun _ _ _ _ _ => pg_name sc_least_leavings.nd rfl (.inl rfl)) (fun y hy q acc s' H0 C cl fp => ev_inU rfl (ev_var 6 rfl) (eu_of (ev_var 4 rfl)))) rfl sc_least_leavings.nd))
    · refine ws_set 5 (d := tI (complOf many lot)) sc_least_leavings.nd (EV.to (ev_tupL rfl T.b_tuple (EN.l (LC.n (lc_f 6 (f := D.int) (r := D.int) (cf := fun d => !decide (d ∈ lot)) (xs := rng 0 many) (ic_R1 rfl T.b_range (ev_var 0 rfl) (by omega)) (blkOk_by (N := n_least_leavings) (sc := defScope s_least_leavings) (by decide +kernel)) (sz_lt (by rw [rng_len]; omega)) (fun _ _ _ _ _ => pg_name sc_least_leavings.nd rfl (.inl rfl)) (fun y hy q acc s' H0 C cl fp => tv_notInU rfl (ev_var 6 rfl) (eu_of (ev_var 4 rfl))) (fun y hy _ q acc s' H0 C cl fp => ev_var 6 rfl)) rfl sc_least_leavings.nd))) rfl) ?_
      refine ws_if (p := looseIn many l (complOf many lot)) (tv_val (ev_dgetO 2 0 (ks := kI (complOf many lot)) (un64 hr) rfl (.inl rfl) (EV.to (ev_var 5 rfl) (by rw [kI_d])) (loose_val (by omega) hC) rfl)) (fun hq2 => ?_) (fun hq2 => ?_)
      · refine ws_app 3 1 rfl rfl (ev_var 4 rfl) (sz_lt ?_) (ws_go (ws_go (ws_nil fun σ H h => ?_) rfl) rfl)
        · rw [List.length_map]; omega
        · have : step found lot = found ++ [lot] := by simp only [step]; rw [hq, hq2]; rfl
          rw [this, List.map_append]
          exact h.wk (.keep (.keep (.keep (.keep (.drop (.drop (.keep (.keep .nil))))))))
      · refine ws_go (ws_go (ws_nil fun σ H h => ?_) rfl) rfl
        have : step found lot = found := by simp only [step]; rw [hq, hq2]; rfl
        rw [this]
        exact h.wk (.keep (.keep (.keep (.keep (.drop (.drop (.keep (.keep .nil))))))))
    · refine ws_go (ws_nil fun σ H h => ?_) rfl
      have : step found lot = found := by simp only [step]; rw [hq]; rfl
      rw [this]
      exact h.wk (.keep (.keep (.keep (.keep (.drop (.keep (.keep (.keep .nil))))))))
  · refine ws_retO 3 1 rfl rfl ?_
    rw [List.length_map, List.take_length]
    exact q
end
end Q95
end
section
set_option linter.all false
set_option maxRecDepth 100000
/-! M10: what the law k95 asks, in plain Lean. -/
namespace Mi
open Mp L2
def whereOf (line lot : List Int) : List Int := (line.zipIdx.filter fun z => decide (z.1 ∈ lot)).map fun z => (z.2 : Int)
def sortedLots (lots : List (List Int)) : List (List Int) := (srt ltPT (lots.map fun lot => ((lot.length : Int), lot))).map (·.2)
def backLot (many : Int) (lot : List Int) : List Int := (lot.map fun d => many - 1 - d).reverse
def toldOf (k : Nat) (many : Int) (l : List Int) : List (List Int) := if k = 0 then tanglesOf many l else leastOf many l
structure SideW (many : Int) (l lot : List Int) : Prop where
  isl : Lot many lot
  len : 2 ≤ lot.length
  there : Lot many (whereOf (lineOf many l) lot) ∧ 2 ≤ (whereOf (lineOf many l) lot).length
  und : leftOf many (undo l) (whereOf (lineOf many l) lot) = undo (leftOf many l lot)
  mir : leftOf many (mir l) lot = mir (leftOf many l lot)
  back : Lot many (backLot many lot)
  trn : leftOf many (turn many l) (backLot many lot) = turn lot.length (leftOf many l lot)
structure NumW (many : Int) (l lot other : List Int) : Prop where
  isl : Lot many lot
  len : 2 ≤ lot.length
  there : Lot many (whereOf (lineOf many l) lot) ∧ 2 ≤ (whereOf (lineOf many l) lot).length
  cat : leftOf many (l ++ other) lot = leftOf many l lot ++ leftOf many other (whereOf (lineOf many l) lot)
  lead : ∀ z ∈ leadsD lot.length (leftOf many l lot), ∃ a b x : Int, z = (kI [a, b], .int x) ∧ (0 ≤ a ∧ a < lot.length) ∧ (0 ≤ b ∧ b < lot.length) ∧ valV (leadsD lot.length (leftOf many l lot)) (kI [a, b]) = some (.int x) ∧ valV (leadsD many l) (kI [lot.getD a.toNat 0, lot.getD b.toNat 0]) = some (.int x)
  meet : ∀ z ∈ meetD lot.length (leftOf many l lot), ∃ a b x : Int, z = (kI [a, b], .int x) ∧ (0 ≤ a ∧ a < lot.length) ∧ (0 ≤ b ∧ b < lot.length) ∧ valV (meetD lot.length (leftOf many l lot)) (kI [a, b]) = some (.int x) ∧ valV (meetD many l) (kI [lot.getD a.toNat 0, lot.getD b.toNat 0]) = some (.int x)
  two : 2 < lot.length → Lot many (without lot (lot.getLastD 0)) ∧ 2 ≤ (without lot (lot.getLastD 0)).length ∧ Lot lot.length (rng 0 (without lot (lot.getLastD 0)).length) ∧ leftOf lot.length (leftOf many l lot) (rng 0 (without lot (lot.getLastD 0)).length) = leftOf many l (without lot (lot.getLastD 0))
structure TangW (many : Int) (l : List Int) : Prop where
  und : ∀ k, k < 2 → toldOf k many (undo l) = sortedLots ((toldOf k many l).map fun lot => whereOf (lineOf many l) lot)
  mir : ∀ k, k < 2 → toldOf k many (mir l) = toldOf k many l
  trn : ∀ k, k < 2 → toldOf k many (turn many l) = sortedLots ((toldOf k many l).map fun lot => backLot many lot)
  meet : ∀ lot ∈ leastOf many l, ∀ knot ∈ tanglesOf many l, (knot.filter fun d => decide (d ∈ lot)) ≠ []
  non : decide (tanglesOf many l = []) = decide (leastOf many l = [[]])
theorem Lot.mono {many : Int} {lot : List Int} (h : Lot many lot) : backLot many lot = (lot.map fun d => many - 1 - d).reverse := rfl
theorem back_sorted {many : Int} {lot : List Int} (h : Lot many lot) : (backLot many lot).Pairwise (· ≤ ·) ∧ (backLot many lot).Perm (lot.map fun d => many - 1 - d) := by
  unfold backLot
  refine ⟨?_, List.reverse_perm _⟩
  rw [List.pairwise_reverse, List.pairwise_map]
  exact h.1.imp fun {a b} q => by omega
theorem where_asc (line lot : List Int) : (whereOf line lot).Pairwise (· < ·) := by
  unfold whereOf
  rw [List.pairwise_map]
  refine List.Pairwise.filter _ ?_
  have : ∀ (l : List Int) (k : Nat), (l.zipIdx k).Pairwise (fun a b => (a.2 : Int) < b.2) := by
    intro l
    induction l with
    | nil => intro k; simp
    | cons x l ih =>
      intro k
      rw [List.zipIdx_cons, List.pairwise_cons]
      refine ⟨fun z hz => ?_, ih (k + 1)⟩
      have := List.le_snd_of_mem_zipIdx hz
      show (k : Int) < z.2
      omega
  exact this line 0
end Mi
end
section
set_option Elab.async false
set_option linter.all false
set_option maxRecDepth 100000
set_option maxHeartbeats 4000000
/-! Mp26: sorted of ints; arguments that draw. -/
namespace Mp
open PySem PySem.Spec PyProof.Rows L2
def AX (w : Wd) (X : Cx) (es : List Expr) (env : En) (O : Os) (R : List D → Prop) : Prop := ∀ σ H, Sd w env O σ H → ∀ Q : List V → Hp → Prop, (∀ ds, R ds → ∀ vs H', Lv w env O σ H H' → RpA w.K (w.G O H') vs ds → Q vs H') → RA X es σ H Q
section
variable {w : Wd} {X : Cx} {env : En} {O : Os} {σ : L2.St} {H H1 H2 H' : Hp} {e a b c : Expr} {es : List Expr} {p pos pos2 : Pos} {d1 d2 : D} {i j : Int} {ds es' : List D} {x : Str} {k : Nat} {Dn : Ends} {st : Stmt} {ss rest body orelse : List Stmt} {tg iter : Expr} {d l c' : Addr} {cs : List Int} {R1 : D → Prop} {RR : List D → Prop}
theorem ax_nil : AX w X [] env O (fun ds => ds = []) := fun σ H h Q q => ra_of pa_nil (q [] rfl [] H (.refl h) .nil)
theorem ax_cons (ha : EX w X a env O R1) (hr : AX w X es env O RR) (hs : starEach (a :: es) X.env = (false, eval a X.env) :: starEach es X.env := by rfl) : AX w X (a :: es) env O (fun ds => ∃ d ds', ds = d :: ds' ∧ R1 d ∧ RR ds') := fun σ H h Q q =>
  ra_of (pa_cons pe_c pa_c hs) (ha σ H h _ fun d hd v H1 l1 r1 => hr σ H1 l1.1 _ fun ds hds vs H2 l2 r2 => q (d :: ds) ⟨d, ds, rfl, hd, hds⟩ (v :: vs) H2 (l1.trans l2) (.cons (r1.mono l2.ex) r2))
theorem AV.ax (h : AV w X es env O ds) : AX w X es env O (fun x => x = ds) := fun σ H hs Q q => h σ H hs Q fun vs H' l r => q ds rfl vs H' l r
theorem ex_lst (h : AX w X es env O RR) (hz : ∀ ds, RR ds → ds.length ≤ sizeLine) : EX w X (.List es pos) env O (fun x => ∃ ds, x = .lst ds ∧ RR ds) := fun σ H hs Q q =>
  re_of (pe_lst pa_c) (h σ H hs _ fun ds hds vs H1 l1 r1 => ⟨by rw [r1.length]; exact hz ds hds, fun t ht => q _ ⟨ds, rfl, hds⟩ _ _ (l1.trans (Lv.new l1.1 ht)) (Lv.newL l1.1 ht r1)⟩)
theorem ex_tup {kk : Nat} (h : AX w X es env O RR) (hz : ∀ ds, RR ds → ds.length ≤ sizeLine) : EX w X (.Tuple es kk pos) env O (fun x => ∃ ds, x = .tup ds ∧ RR ds) := fun σ H hs Q q =>
  re_of (pe_tup pa_c) (h σ H hs _ fun ds hds vs H1 l1 r1 => ⟨by rw [r1.length]; exact hz ds hds, fun t ht => q _ ⟨ds, rfl, hds⟩ _ _ (l1.trans (Lv.new l1.1 ht)) (Lv.newT l1.1 ht r1)⟩)
/-- a draw whose arguments draw -/
theorem ex_callDX {P : List D → Prop} {R : List D → D → Prop} {y : Str} {py : Pos} (D : IsDr w d l c' cs) (n : Nat) (hi : env.s[n]? = some (.a d)) (F : Def X.prog X.w X.K X.mg X.base x k (PD w.K P R)) (hr : Room k X.A) (hg : Gl X x) (ha : AX w X es env O RR) (hP : ∀ ds, RR ds → P ds)
    (hN : X.N[n]? = some y := by rfl) (hv : Vis X.env.scope y := by first | exact Or.inl rfl | exact Or.inr (Or.inl rfl) | exact Or.inr (Or.inr rfl)) (hd : (y == ("__debug__" : Str)) = false := by decide) (hcd : (y == ("__classdict__" : Str)) = false := by decide)
    (hdb : (x == ("__debug__" : Str)) = false := by decide) (he : starEach (.Name y py :: es) X.env = (false, eval (.Name y py) X.env) :: starEach es X.env := by rfl) (hpl : (backTo pos (starEach es X.env)).any (·.1) = false := by rfl) : EX w X (.Call (.Name x p) (.Name y py :: es) [] pos) env O (fun v => ∃ ds, RR ds ∧ R ds v) := fun σ H h Q q => by
  obtain ⟨f, fd, ps, F, hm, hk, hb⟩ := F
  refine re_of (pe_call F hr hg hm hk hb .nil pass0 (pa_cons (pe_var hN hv hd hcd) pa_c he) hdb he hpl) ⟨.ref d, h.adr n d hi, ha σ H h _ fun ds hds vs H1 l1 r1 => ?_⟩
  show PD w.K P R ((V.ref d :: vs) ++ []) H1 Q E0
  rw [List.append_nil]
  refine ⟨own O ++ w.A0, d, l, c', cs, vs, ds, rfl, r1, hP ds hds, fun b hb => l1.1.there hb, ⟨List.mem_append_right _ D.da, List.mem_append_right _ D.la, List.mem_append_right _ D.ca⟩, ⟨D.dl, D.cd, D.cl⟩, l1.1.drw D, l1.1.cells D, fun v H2 x k2 nt j2 hR r2 => ?_⟩
  exact q x ⟨ds, hds, hR⟩ v H2 (l1.trans (l1.1.draw D k2 j2)) r2
/-- a call whose arguments draw -/
theorem ex_callX {R : List D → D → Prop} (F : Def X.prog X.w X.K X.mg X.base x k (PF w.K R)) (hr : Room k X.A) (hg : Gl X x) (ha : AX w X (e :: es) env O RR) (hR : ∀ ds, RR ds → ∃ v, R ds v) (hdb : (x == ("__debug__" : Str)) = false := by decide)
    (he : starEach (e :: es) X.env = (false, eval e X.env) :: starEach es X.env := by rfl) (hpl : (backTo pos (starEach es X.env)).any (·.1) = false := by rfl) : EX w X (.Call (.Name x p) (e :: es) [] pos) env O (fun v => ∃ ds, RR ds ∧ R ds v) := fun σ H h Q q => by
  obtain ⟨f, fd, ps, F, hm, hk, hb⟩ := F
  refine re_of (pe_call F hr hg hm hk hb .nil pass0 pa_c hdb he hpl) (ha σ H h _ fun ds hds vs H1 l1 r1 => ?_)
  rw [List.append_nil]
  obtain ⟨v0, hv0⟩ := hR ds hds
  refine ⟨own O ++ w.A0, ds, v0, r1, hv0, fun b hb => l1.1.there hb, fun v H2 e2 r2 => ?_⟩
  exact q v0 ⟨ds, hds, hv0⟩ v H2 (l1.trans (Lv.grow l1.1 e2)) r2
/-- t * n, where t draws -/
theorem ex_repU {RA : D → Prop} (hk : X.K = w.K) (ha : EX w X a env O RA) (hRA : ∀ x, RA x → ∃ ds, x = .tup ds ∧ ds ≠ [] ∧ ds.length ≤ 1000) (hb : EV w X b env O (.int i)) (h2 : 2 ≤ i) (h3 : i ≤ 1000) : EX w X (.BinOp a .Mult b pos) env O (fun y => ∃ ds, RA (.tup ds) ∧ y = .tup (List.replicate i.toNat ds).flatten) := fun σ H h Q q =>
  re_of (pe_op op_repT pe_c pe_c) (ha σ H h _ fun x hx v H1 l1 r1 => hb σ H1 l1.1 _ fun u H2 l2 r2 => by
    obtain ⟨ds, rfl, hne, hz⟩ := hRA x hx
    rw [rp_int r2]
    cases r1 with
    | tup e1 r1 =>
      rename_i a' xs
      refine ⟨a', i, xs, rfl, rfl, by rw [hk]; exact ex_t (mn_le _ _) (ex_e l2.ex e1), ?_, h2, h3, by rw [r1.length]; exact hz, fun t ht => q _ ⟨ds, hx, rfl⟩ _ _ ((l1.trans l2).trans (Lv.new l2.1 ht)) (Lv.newT l2.1 ht ((r1.mono l2.ex).rep _))⟩
      intro z
      subst z
      cases ds with
      | nil => exact hne rfl
      | cons _ _ => cases r1)
end
end Mp
end
section
set_option Elab.async false
set_option linter.all false
set_option maxRecDepth 100000
set_option maxHeartbeats 4000000
/-! Mp27: lists of dicts of one's own; walks over dicts that an expression gives. -/
namespace Mp
open PySem PySem.Spec PyProof.Rows L2
section
variable {w : Wd} {X : Cx} {env : En} {O : Os} {σ : L2.St} {H H1 H2 H' : Hp} {e a b c : Expr} {es : List Expr} {p pos pos2 : Pos} {d d1 d2 : D} {i j : Int} {ds es' : List D} {x : Str} {k : Nat} {Dn : Ends} {st : Stmt} {ss rest body orelse : List Stmt} {tg iter : Expr} {kvs : List (List L2.Key × V)} {ks : List L2.Key} {v : V} {oc c1 c2 : Oc}
/-- x = [e1, e2], two objects of one's own -/
theorem ws_set2O (i : Nat) {y : Str} {py lp : Pos} (hN : X.N.Nodup) (h1 : EO w X a env O c1) (h2 : ∀ p, EO w X b env (O ++ [(p, c1)]) c2) (q : ∀ p1 p2, WPS w X (env.put i (.d (.lst [.v (.ref p1), .v (.ref p2)]))) ((O ++ [(p1, c1)]) ++ [(p2, c2)]) rest Dn)
    (hi : X.N[i]? = some y := by rfl) (hx : Loc X.env.scope y := by first | exact .inl rfl | exact .inr rfl) (ha : starEach [a, b] X.env = (false, eval a X.env) :: starEach [b] X.env := by rfl) (hb : starEach [b] X.env = (false, eval b X.env) :: starEach [] X.env := by rfl) (hs : swapsWith (.List [a, b] lp) (some (.Name y py)) pos.line X.env = pure false := by rfl)
    (hf : X.fn y = true ∨ X.env.scope.names.lookup y = some .local := by first | exact .inl rfl | exact .inr rfl) : WPS w X env O (.Assign [.Name y py] (.List [a, b] lp) pos :: rest) Dn :=
  ws_cons (ps_set hN hi hx (pe_lst (pa_cons pe_c (pa_cons pe_c pa_nil hb) ha)) hs hf) fun σ H hs0 => by
    refine h1 σ H hs0 _ fun p1 H1 s1 k1 => h2 p1 σ H1 s1 _ fun p2 H2 s2 k2 => ⟨sz_of (by simp), fun t ht => ?_⟩
    have l3 := Lv.new s2 (o := .lst [.ref p1, .ref p2]) ht
    exact q p1 p2 _ _ (l3.1.set i (Lv.newL s2 ht (.cons (.v rfl) (.cons (.v rfl) .nil))))
/-- e[k], where e comes to a dict of one's own -/
theorem ev_dgetE (m : Nat) {q' : Addr} (hu : X.A.units + 64 < cLine) (ha : EV w X a env O (.v (.ref q'))) (hk : O[m]? = some (q', .t kvs) ∨ ∃ od, O[m]? = some (q', .z od kvs)) (hb : EV w X b env O (.tup (ks.map dK))) (hv : valV kvs ks = some v) (hf : flat v = true) (hs : NoSl b := by intro _ _; rfl) : EV w X (.Subscript a b pos) env O (.v v) := fun σ H h Q q =>
  re_of (pe_dget (by omega) pe_c pe_c hs) (ha σ H h _ fun x H1 l1 r1 => hb σ H1 l1.1 _ fun y H2 l2 r2 => by
    obtain ⟨t, rfl, ht⟩ := rp_key r2
    have rd : Rd H2 q' (.dT kvs) := by
      rcases hk with hk | ⟨od, hk⟩
      · exact .inl (l2.1.get hk)
      · exact .inr ⟨od, l2.1.get hk⟩
    exact ⟨q', v, rp_v r1, .inr ⟨kvs, ks, t, rd, rfl, mn_le _ _ _ _ ht, hv.symm⟩, q _ H2 (l1.trans l2) (.v hf)⟩)
/-- for k in e, where e comes to a dict of one's own -/
theorem ws_forE {g : TG} {f : D → En → En} (m : Nat) {q' : Addr} (I : Nat → En) (Oi : Obj → Nat → Os) (hc : X.calm = true) (he : ∀ od, EV w X e (I 0) (Oi od 0) (.v (.ref q'))) (hk : O[m]? = some (q', .t kvs)) (hg : PG X tg g) (hb : ∀ z ∈ kvs, BnS w g (.tup (z.1.map dK)) (f (.tup (z.1.map dK))))
    (hO : ∀ od i, i ≤ kvs.length → (Oi od i)[m]? = some (q', .z od kvs))
    (h0 : ∀ od σ H, Sd w env (O.set m (q', .z od kvs)) σ H → Sd w (I 0) (Oi od 0) σ H)
    (hs : ∀ od i z, kvs[i]? = some z → ∀ Dn' : Ends, Dn'.nx = Sd w (I (i + 1)) (Oi od (i + 1)) → WPS w X (f (.tup (z.1.map dK)) (I i)) (Oi od i) body Dn')
    (hd : ∀ od, WPS w X (I kvs.length) ((Oi od kvs.length).set m (q', .t kvs)) rest Dn)
    (hsf : ∀ x, foldedSetIterable e X.env x = pure x := by intro _; rfl) (hp : PassesOwn (model X.prog X.w) X.A X.env X.xe := by exact PassesOwn.never) : WPS w X env O (.For tg e body [] pos :: rest) Dn := by
  refine ws_cons (ps_lock (ps_for hp hc (pi_keys pe_c) hg pss_c hsf)) fun σ H hs0 => ?_
  refine ⟨q', .dT kvs, hs0.get hk, trivial, fun od => ?_⟩
  have w1 := (hs0.write (c := .z od kvs) (o := .frz od (.dT kvs)) hk upd_same).1
  have s0 := h0 od _ _ w1
  refine he od σ _ s0 _ fun v H1 l1 r1 => ?_
  refine ⟨q', od, rp_v r1, .inr ⟨kvs, l1.1.get (hO od 0 (Nat.zero_le _)), ?_⟩⟩
  refine for_it walk_keysT (fun i => Sd w (I i) (Oi od i)) l1.1 ?_ ?_ ?_
  · exact fun i σ H hi z => z.get (hO od i hi)
  · intro i x σ H2 H3 hlt z y
    obtain ⟨rfl, k, v, q, hkv, rfl, hq⟩ := y
    have r := rp_keyT z hq
    refine hb (k, v) (List.mem_of_getElem? hkv) _ _ σ H3 _ z r _ fun σ2 s2 => ?_
    exact hs od i (k, v) hkv _ rfl σ2 H3 s2
  · intro σ H z
    have hz := hO od kvs.length (Nat.le_refl _)
    refine ⟨z.get hz, ?_⟩
    exact hd od σ _ (z.write (c := .t kvs) (o := .dT kvs) hz upd_same).1
/-- sorted(xs), ints -/
theorem en_sortI {l m : List Int} {nm : Pos} (hk : X.K = w.K) (hg : Gl X "sorted") (hm : X.mg "sorted" = none) (ha : EL w X a env O (iL l)) (hp : m.Perm l) (hs : m.Pairwise (· ≤ ·)) (he : starEach [a] X.env = (false, eval a X.env) :: starEach [] X.env := by rfl) : EN w X (.Call (.Name "sorted" nm) [a] [] pos) env O (iL m) := fun σ H h Q q =>
  re_of (pe_callB cr_sortedI hg hm (by decide +kernel) (pa_cons pe_c pa_nil he) (by decide) (by decide) he rfl) (ha σ H h _ fun v xs H1 l1 nb e1 r1 => by
    have ex := r1.ints
    subst ex
    refine ⟨v, l, rfl, .inl (.inl e1), fun ns' p' h1 h2 hp' => ?_⟩
    have e2 : ns' = m := List.Perm.eq_of_pairwise (le := (· ≤ ·)) (fun a b _ _ h1 h2 => Int.le_antisymm h1 h2) h2 hs (h1.trans hp.symm)
    subst e2
    exact q p' _ (l1.1.made hp' (.of_ints _)) (l1.mk hp'))
/-- a, b, c = e1, e2, e3 where a name is not a plain local one -/
theorem ws_par3c (i j l : Nat) {y z u : Str} {py pz pu pt pt2 : Pos} {kt k2 : Nat} {d3 : D} (hk : X.K = w.K) (ha : EV w X a env O d1) (hb : EV w X b env O d2) (hcc : EV w X c env O d3) (q : WPS w X (((env.put i (.d d1)).put j (.d d2)).put l (.d d3)) O rest Dn)
    (hg : PG X (.Tuple [.Name y py, .Name z pz, .Name u pu] kt pt) (gTup X.K 3 (gCons (gName i) (gCons (gName j) (gCons (gName l) gNil))))) (h1 : starEach [a, b, c] X.env = (false, eval a X.env) :: starEach [b, c] X.env := by rfl) (h2 : starEach [b, c] X.env = (false, eval b X.env) :: starEach [c] X.env := by rfl) (h3 : starEach [c] X.env = (false, eval c X.env) :: starEach [] X.env := by rfl)
    (hs : swapsWithSole [.Tuple [.Name y py, .Name z pz, .Name u pu] kt pt] (.Tuple [a, b, c] k2 pt2) pos.line X.env = pure false := by rfl) (hw : swappedStores [.Tuple [.Name y py, .Name z pz, .Name u pu] kt pt] (.Tuple [a, b, c] k2 pt2) X.env = pure none := by rfl) :
    WPS w X env O (.Assign [.Tuple [.Name y py, .Name z pz, .Name u pu] kt pt] (.Tuple [a, b, c] k2 pt2) pos :: rest) Dn :=
  ws_cons (ps_asg (pe_tup (pa_cons pe_c (pa_cons pe_c (pa_cons pe_c pa_nil h3) h2) h1)) hg hs hw) fun σ H hs => ha σ H hs _ fun v H1 l1 r1 => hb σ H1 l1.1 _ fun u H2 l2 r2 => hcc σ H2 l2.1 _ fun t H3 l3 r3 => ⟨by show 3 ≤ sizeLine; decide, fun T hT =>
    have l4 := Lv.new (o := .tup [v, u, t]) l3.1 hT
    ⟨T, _, rfl, .inl (.inl upd_same), rfl, _, _, rfl, _, _, rfl, _, _, rfl, rfl, q _ _ (((l4.1.set i (r1.mono ((l2.trans l3).trans l4).ex)).set j (r2.mono (l3.trans l4).ex)).set l (r3.mono l4.ex))⟩⟩
end
end Mp
end
section
set_option Elab.async false
set_option linter.all false
set_option maxRecDepth 100000
set_option maxHeartbeats 4000000
namespace Q95
open PySem PySem.Spec PyProof.Rows L2 Mp
open Mi
section
variable {P : Program} {wl : World} {K : PySem.W.Frag} {mg : Str → Option Value} {base : Heap}
def R__law_turn_back : List D → D → Prop := fun ds d => ∃ l : List Int, ds = [tI l] ∧ l.length ≤ 100000 ∧ d = tI (undo l)
abbrev R__law_left := R_left_of
abbrev R__law_lots := R_all_lots
def R__law_where : List D → D → Prop := fun ds d => ∃ line lot : List Int, ds = [tI line, tI lot] ∧ line.length ≤ 1000 ∧ d = tI (whereOf line lot)
def R__law_sorted_lots : List D → D → Prop := fun ds d => ∃ lots : List (List Int), ds = [.lst (lots.map tI)] ∧ lots.length ≤ 1000 ∧ d = .lst ((sortedLots lots).map tI)
theorem k__law_turn_back (T : Txt K mg) : Def P wl K mg base "_law_turn_back" 1 (PF K R__law_turn_back) := by
  refine def_pure T.h__law_turn_back T.g__law_turn_back sc__law_turn_back T.bd__law_turn_back (fun ds d ⟨_, h, _⟩ => by rw [h]; rfl) (by decide) fun cdv A outer s H E L Dn ds d hr hR q hn => ?_
  obtain ⟨l, rfl, hl, rfl⟩ := hR
  exact ws_ret (EV.to (ev_tupL rfl T.b_tuple (EN.l (LC.n (lc_n 1 (f := D.int) (r := fun s => D.int (0 - s)) (xs := l.reverse) (ic_U rfl (eu_of (EV.to (ev_backU rfl (eu_of (ev_var 0 rfl)) (by rw [List.length_map]; exact sz_of (by omega))) (by rw [← List.map_reverse])))) (blkOk_by (N := n__law_turn_back) (sc := defScope s__law_turn_back) (by decide +kernel)) (sz_lt (by rw [List.length_reverse]; omega)) (fun _ _ _ _ _ => pg_name sc__law_turn_back.nd rfl (.inl rfl))
    (fun x hx q acc s' H0 C cl fp => ev_sub ev_int (ev_var 1 rfl))) rfl sc__law_turn_back.nd))) (tI_map _ _).symm) q
theorem k__law_left (T : Txt K mg) : Def P wl K mg base "_law_left" 1 (PF K R__law_left) := by
  refine def_pure T.h__law_left T.g__law_left sc__law_left T.bd__law_left (fun ds d ⟨_, _, _, h, _⟩ => by rw [h]; rfl) (by decide) fun cdv A outer s H E L Dn ds d hr hR q hn => ?_
  obtain ⟨many, l, stay, rfl, h0, h5, ok, rfl⟩ := hR
  refine ws_parVO 3 4 rfl sc__law_left.nd (by decide) (EN.v (en_lstR rfl rfl T.b_list (gv_1 rfl T.b_range (ev_var 0 rfl)) (by simp only [RgOk]; omega))) (fun g => (en_lst av_nil (sz_of (by simp))).o) fun pf => ?_
  refine ws_for (f := fun d env => env.put 5 (.d d)) (fun i => ⟨[.d (.int many), .d (tI l), .d (tI stay), .d (lI (leftSt many (l.take i) stay).1), .a pf, .no, .no, .no, .no], []⟩) (fun i => [(pf, .l (iL (leftSt many (l.take i) stay).2))]) rfl (iv_U rfl (ev_var 1 rfl)) (pg_name sc__law_left.nd rfl (.inl rfl)) (fun d _ => bns_name 5 d) (fun σ H g h => h) (fun gh i d hd => ?_) ?_
  · obtain ⟨st, hst, rfl⟩ := get_map hd
    have hm' := ok.1 st (List.mem_of_getElem? hst)
    simp only [okS] at hm'
    have hll : (leftSt many (l.take i) stay).1.length = many.toNat := by
      rw [leftSt, leftSt_len, rng_len]; simp
    have hfl : (leftSt many (l.take i) stay).2.length ≤ l.length := by
      have := leftSt_le stay (l.take i) (rng 0 many, [])
      simp only [List.length_nil, Nat.zero_add, List.length_take] at this
      rw [leftSt]
      omega
    have hnx : leftSt many (l.take (i + 1)) stay = leftStep stay (leftSt many (l.take i) stay) st := by
      rw [leftSt, leftSt, fold_take _ _ _ hst]
    generalize leftSt many (l.take i) stay = z at hll hfl hnx
    obtain ⟨line, found⟩ := z
    simp only at hll hfl
    rw [hnx]
    dsimp only
    refine ws_set 6 sc__law_left.nd (ev_absC rfl T.b_abs (ev_var 5 rfl)) ?_
    refine ws_ifJ (q' := decide (line.getD (st.natAbs - 1) 0 ∈ stay ∧ line.getD st.natAbs 0 ∈ stay)) ⟨[.d (.int many), .d (tI l), .d (tI stay), .d (lI line), .a pf, .d (.int st), .d (.int (st.natAbs : Int)), .no, .no], [gh]⟩ [(pf, .l (iL (leftStep stay (line, found) st).2))] ?_ (fun hq => ?_) (fun hq => ?_) ?_
    · refine TV.to (tv_and2 (tv_inU rfl (ev_ixL (el_of (ev_var 3 rfl)) (ev_sub (ev_var 6 rfl) ev_int) (atI_to (n := st.natAbs - 1) (by omega) (atI_ints (by omega)))) (eu_of (ev_var 2 rfl))) (fun _ => tv_inU rfl (ev_ixL (el_of (ev_var 3 rfl)) (ev_var 6 rfl) (atI_ints (by omega))) (eu_of (ev_var 2 rfl)))) ?_
      rw [Bool.decide_and]
    · have hc := of_decide_eq_true hq
      refine ws_set 7 (d := .int (((line.take st.natAbs).filter (· ∈ stay)).length : Int)) sc__law_left.nd (EV.to (ev_lenL rfl T.b_len (EN.l (LC.n (lc_f 8 (f := D.int) (r := D.int) (cf := fun x => decide (x ∈ stay)) (xs := line.take st.natAbs) (ic_L (el_of (EV.to (ev_slL (el_of (ev_var 3 rfl)) ov_none (ov_some (ev_var 6 rfl))) (by rw [cut_to, iL, List.map_take])))) (blkOk_by (N := n__law_left) (sc := defScope s__law_left) (by decide +kernel)) (sz_lt (by simp; omega)) (fun _ _ _ _ _ => pg_name sc__law_left.nd rfl (.inl rfl))
        (fun x hx q acc s' H0 C cl fp => tv_inU rfl (ev_var 8 rfl) (eu_of (ev_var 2 rfl))) (fun x hx _ q acc s' H0 C cl fp => ev_var 8 rfl)) rfl sc__law_left.nd))) (by rw [List.length_map])) ?_
      refine ws_app 4 0 (d := .int (if 0 < st then (((line.take st.natAbs).filter (· ∈ stay)).length : Int) else 0 - (((line.take st.natAbs).filter (· ∈ stay)).length : Int))) rfl rfl (ev_if (tv_gt (ev_var 5 rfl) ev_int) (fun h => EV.to (ev_var 7 rfl) (by rw [if_pos (of_decide_eq_true h)])) (fun h => EV.to (ev_sub ev_int (ev_var 7 rfl)) (by rw [if_neg (of_decide_eq_false h)]))) (sz_lt (by rw [List.length_map]; have := ok.2; omega)) (ws_nil fun σ H h => ?_)
      have e2 : (leftStep stay (line, found) st).2 = found ++ [if 0 < st then (((line.take st.natAbs).filter (· ∈ stay)).length : Int) else 0 - (((line.take st.natAbs).filter (· ∈ stay)).length : Int)] := by
        simp only [leftStep]
        rw [if_pos hc]
      have e3 : ∀ z : Int, iL (found ++ [z]) = iL found ++ [D.int z] := fun z => by simp [iL]
      rw [e2, e3]
      exact h.wk (.keep (.keep (.keep (.keep (.keep (.keep (.keep (.drop (.keep .nil)))))))))
    · have hc := of_decide_eq_false hq
      refine ws_nil fun σ H h => ?_
      have e2 : (leftStep stay (line, found) st).2 = found := by
        simp only [leftStep]
        rw [if_neg hc]
      rw [e2]
      exact h
    · refine ws_set 3 (d := lI (swp line st.natAbs)) sc__law_left.nd (EV.to (ev_catL (el_of (ev_catL (el_of (EV.to (ev_slL (el_of (ev_var 3 rfl)) ov_none (ov_some (EV.to (ev_sub (ev_var 6 rfl) ev_int) (show D.int ((st.natAbs : Int) - 1) = .int ((st.natAbs - 1 : Nat) : Int) by congr 2; omega)))) (by rw [cut_to]))) (el_of (ev_lst (av_cons (ev_ixL (el_of (ev_var 3 rfl)) (ev_var 6 rfl) (atI_ints (by omega))) (av_cons (ev_ixL (el_of (ev_var 3 rfl)) (ev_sub (ev_var 6 rfl) ev_int) (atI_to (n := st.natAbs - 1) (by omega) (atI_ints (by omega)))) av_nil)) (sz_of (by simp)))) ?_)) (el_of (EV.to (ev_slL (el_of (ev_var 3 rfl)) (ov_some (EV.to (ev_add (ev_var 6 rfl) ev_int) (show D.int ((st.natAbs : Int) + 1) = .int ((st.natAbs + 1 : Nat) : Int) by simp))) ov_none) (by rw [cut_from]))) ?_) ?_) (ws_nil fun σ H h => ?_)
      · simp only [List.length_take, List.length_map, List.length_cons, List.length_nil]
        exact sz_of (by omega)
      · simp only [List.length_append, List.length_take, List.length_drop, List.length_map, List.length_cons, List.length_nil]
        exact sz_of (by omega)
      · rw [← swapD_swp hm'.1 (by omega)]
        unfold swapD
        rw [show st.natAbs - 1 + 1 = st.natAbs by omega, show st.natAbs - 1 + 2 = st.natAbs + 1 by omega]
        simp [lI, iL, List.map_take, List.map_drop]
      · have e1 : (leftStep stay (line, found) st).1 = swp line st.natAbs := rfl
        rw [e1]
        exact h.wk (.keep (.keep (.keep (.keep (.keep (.drop (.drop (.keep (.keep .nil)))))))))
  · refine ws_ret (EV.to (ev_tupL rfl T.b_tuple (el_var 4 0 rfl rfl)) ?_) q
    rw [List.length_map, List.take_length]
    rfl
theorem k__law_lots (T : Txt K mg) : Def P wl K mg base "_law_lots" 1 (PF K R__law_lots) := by
  refine def_pure T.h__law_lots T.g__law_lots sc__law_lots T.bd__law_lots (fun ds d ⟨_, h, _⟩ => by rw [h]; rfl) (by decide) fun cdv A outer s H E L Dn ds d hr hR q hn => ?_
  obtain ⟨many, rfl, h0, h5, rfl⟩ := hR
  refine ws_set 1 (d := .lst ((lotsN 0).map tI)) sc__law_lots.nd (EV.to (ev_lst (av_cons ev_tup0 av_nil) (sz_of (by simp))) rfl) ?_
  have hl : ∀ n : Nat, n ≤ 5 → (lotsN n).length ≤ 32 := by decide
  refine ws_for (f := fun d env => env.put 2 (.d d)) (fun i => ⟨[.d (.int many), .d (.lst ((lotsN i).map tI)), .no, .no, .no], []⟩) (fun i => []) rfl (iv_R1 rfl T.b_range (ev_var 0 rfl) (by omega)) (pg_name sc__law_lots.nd rfl (.inr rfl)) (fun d _ => bns_name 2 d) (fun σ H g h => h) (fun gh i d hd => ?_) ?_
  · obtain ⟨rfl, hi⟩ := rg_at hd
    have hli := hl i (by omega)
    have hle := hl (i + 1) (by omega)
    have en : (lotsN (i + 1)) = lotsN i ++ (lotsN i).map fun lot => lot ++ [(i : Int)] := by
      simp [lotsN, List.range_succ]
    refine ws_set 1 (d := .lst ((lotsN (i + 1)).map tI)) sc__law_lots.nd (EV.to (ev_catL (el_of (ev_var 1 rfl)) (EN.l (LC.n (lc_n 3 (f := tI) (r := fun lot => tI (lot ++ [(i : Int)])) (xs := lotsN i) (ic_L (el_of (ev_var 1 rfl))) (blkOk_by (N := n__law_lots) (sc := defScope s__law_lots) (by decide +kernel)) (sz_lt (by omega)) (fun _ _ _ _ _ => pg_name sc__law_lots.nd rfl (.inl rfl))
      (fun x hx q acc s' H0 C cl fp => EV.to (ev_catU rfl (eu_of (ev_var 3 rfl)) (eu_of (ev_tup (av_cons (ev_var 2 rfl) av_nil) (sz_of (by simp)))) ?_) ?_)) rfl sc__law_lots.nd)) ?_) ?_) (ws_nil fun σ H h => h.wk (.keep (.keep (.drop (.keep (.keep .nil))))))
    · have := (lotsN_ok i x hx).len' (by omega)
      simp only [List.length_map, List.length_cons, List.length_nil]
      exact sz_of (by omega)
    · rw [Int.zero_add]
      simp [iL]
    · simp only [List.length_map]
      exact sz_of (by omega)
    · rw [en, List.map_append, List.map_map]
      rfl
  · have hn : (iL (Mp.rg 0 many)).length = many.toNat := by simp [Mp.rg]
    rw [hn]
    have hln := hl many.toNat (by omega)
    refine ws_ret (EV.to (EN.v (LC.n (lc_p rfl 4 3 (by decide) (cf := fun _ => true) (f1 := fun p : Int × List Int => .int p.1) (f2 := fun p => tI p.2) (r := fun p => tI p.2) (xs := srt ltPT (lenP (lotsN many.toNat))) ?hi (blkOk_by (N := n__law_lots) (sc := defScope s__law_lots) (by decide +kernel)) ?_ (fun _ _ _ _ _ => pg_tup rfl (pgs_cons (pg_name sc__law_lots.nd rfl (.inl rfl)) (pgs_cons (pg_name sc__law_lots.nd rfl (.inl rfl)) pgs_nil))) (fun x hx q acc s' H0 C cl fp => ev_var 3 rfl)) rfl sc__law_lots.nd)) ?_) q
    case hi => exact (ic_L (EN.l (en_sortPairs (l := lenP (lotsN many.toNat)) rfl (by have := hr.un; omega) rfl T.b_sorted (EL.to (EN.l (LC.n (lc_n 3 (f := tI) (r := fun lot : List Int => dPT ((lot.length : Int), lot)) (xs := lotsN many.toNat) (ic_L (el_of (ev_var 1 rfl))) (blkOk_by (N := n__law_lots) (sc := defScope s__law_lots) (by decide +kernel)) (sz_lt (by omega)) (fun _ _ _ _ _ => pg_name sc__law_lots.nd rfl (.inl rfl))
      (fun x hx q acc s' H0 C cl fp => ev_tup (av_cons (ev_lenUm rfl rfl T.b_len (eu_of (ev_var 3 rfl))) (av_cons (ev_var 3 rfl) av_nil)) (sz_of (by simp)))) rfl sc__law_lots.nd)) (by rw [List.map_map]; rfl)))))
    · refine sz_lt ?_
      rw [((tot_PT.srt_ok _).1).length_eq, List.length_map]
      omega
    · unfold allLots
      rw [List.map_map]
      rfl
theorem k__law_where (T : Txt K mg) : Def P wl K mg base "_law_where" 1 (PF K R__law_where) := by
  refine def_pure T.h__law_where T.g__law_where sc__law_where T.bd__law_where (fun ds d ⟨_, _, h, _⟩ => by rw [h]; rfl) (by decide) fun cdv A outer s H E L Dn ds d hr hR q hn => ?_
  obtain ⟨line, lot, rfl, hl, rfl⟩ := hR
  refine ws_ret (EV.to (ev_tupL rfl T.b_tuple (EN.l (en_sortI (l := whereOf line lot) (m := whereOf line lot) rfl rfl T.b_sorted (EL.to (EN.l (LC.n (lc_pf rfl 2 3 (by decide) (f1 := fun z : Int × Nat => .int (z.2 : Int)) (f2 := fun z => .int z.1) (r := fun z => .int (z.2 : Int)) (cf := fun z => decide (z.1 ∈ lot)) (xs := line.zipIdx) ?hi (blkOk_by (N := n__law_where) (sc := defScope s__law_where) (by decide +kernel)) (sz_lt ?_) (fun _ _ _ _ _ => pg_tup rfl (pgs_cons (pg_name sc__law_where.nd rfl (.inl rfl)) (pgs_cons (pg_name sc__law_where.nd rfl (.inl rfl)) pgs_nil)))
    (fun x hx q acc s' H0 C cl fp => tv_inU rfl (ev_var 3 rfl) (eu_of (ev_var 1 rfl))) (fun x hx _ q acc s' H0 C cl fp => ev_var 2 rfl)) rfl sc__law_where.nd)) ?_) (List.Perm.refl _) ((where_asc line lot).imp fun h => by omega)))) rfl) q
  case hi =>
    have hE : enumD (iL line) = line.zipIdx.map fun z => .tup [.int (z.2 : Int), .int z.1] := by
      unfold enumD iL
      rw [List.zipIdx_map, List.map_map]
      rfl
    rw [← hE]
    exact ic_of (iv_enum false rfl rfl T.b_enumerate (ev_var 0 rfl))
  · rw [List.length_zipIdx]; omega
  · unfold whereOf
    rw [iL, List.map_map]
    rfl
theorem k__law_sorted_lots (T : Txt K mg) : Def P wl K mg base "_law_sorted_lots" 1 (PF K R__law_sorted_lots) := by
  refine def_pure T.h__law_sorted_lots T.g__law_sorted_lots sc__law_sorted_lots T.bd__law_sorted_lots (fun ds d ⟨_, h, _⟩ => by rw [h]; rfl) (by decide) fun cdv A outer s H E L Dn ds d hr hR q hn => ?_
  obtain ⟨lots, rfl, hl, rfl⟩ := hR
  refine ws_ret (EV.to (EN.v (LC.n (lc_p rfl 2 1 (by decide) (cf := fun _ => true) (f1 := fun p : Int × List Int => .int p.1) (f2 := fun p => tI p.2) (r := fun p => tI p.2) (xs := srt ltPT (lenP lots)) ?hi (blkOk_by (N := n__law_sorted_lots) (sc := defScope s__law_sorted_lots) (by decide +kernel)) ?_ (fun _ _ _ _ _ => pg_tup rfl (pgs_cons (pg_name sc__law_sorted_lots.nd rfl (.inl rfl)) (pgs_cons (pg_name sc__law_sorted_lots.nd rfl (.inl rfl)) pgs_nil))) (fun x hx q acc s' H0 C cl fp => ev_var 1 rfl)) rfl sc__law_sorted_lots.nd)) ?_) q
  case hi => exact (ic_L (EN.l (en_sortPairs (l := lenP lots) rfl (by have := hr.un; omega) rfl T.b_sorted (EL.to (EN.l (LC.n (lc_n 1 (f := tI) (r := fun lot : List Int => dPT ((lot.length : Int), lot)) (xs := lots) (ic_L (el_of (ev_var 0 rfl))) (blkOk_by (N := n__law_sorted_lots) (sc := defScope s__law_sorted_lots) (by decide +kernel)) (sz_lt (by omega)) (fun _ _ _ _ _ => pg_name sc__law_sorted_lots.nd rfl (.inl rfl))
    (fun x hx q acc s' H0 C cl fp => ev_tup (av_cons (ev_lenUm rfl rfl T.b_len (eu_of (ev_var 1 rfl))) (av_cons (ev_var 1 rfl) av_nil)) (sz_of (by simp)))) rfl sc__law_sorted_lots.nd)) (by rw [List.map_map]; rfl)))))
  · refine sz_lt ?_
    rw [((tot_PT.srt_ok _).1).length_eq, List.length_map]
    omega
  · unfold sortedLots
    rw [List.map_map]
    rfl
end
end Q95
end
section
set_option Elab.async false
set_option linter.all false
set_option maxRecDepth 100000
set_option maxHeartbeats 4000000
namespace Q95
open PySem PySem.Spec PyProof.Rows L2 Mp
section
variable {P : Program} {wl : World} {K : PySem.W.Frag} {mg : Str → Option Value} {base : Heap}
def P__law_mixed : List D → Prop := fun ds => ds = []
def R__law_mixed : List D → D → Prop := fun _ x => Is (fun _ => True) x
def P__law_take : List D → Prop := fun ds => ∃ n : Int, ds = [.int n] ∧ 0 < n ∧ n < 1073741824
def R__law_take : List D → D → Prop := fun ds x => ∃ n : Int, ds = [.int n] ∧ Is (fun i => 0 ≤ i ∧ i < n) x
theorem k__law_mixed (T : Txt K mg) : Def P wl K mg base "_law_mixed" 1 (PD K P__law_mixed R__law_mixed) := by
  refine def_draw T.h__law_mixed T.g__law_mixed sc__law_mixed T.bd__law_mixed (fun ds h => by rw [h]; rfl) (by decide) fun cdv A outer s HH E L Dn ds d la c cs hd hla DR hr hP q hn => ?_
  obtain rfl := hP
  refine ws_drPut DR 0 rfl (by have := hr.un; omega) (ex_add (ex_drI DR 0 rfl (by have := hr.un; omega) (dr_turn la c)) ev_int.is) (dp_turn la c) ?_
  refine ws_parX 1 2 rfl sc__law_mixed.nd (by decide) (ex_intC rfl T.b_int (ex_drI DR 0 rfl (by have := hr.un; omega) (dr_turn la c))) ev_int.is ?_
  rintro _ _ ⟨t, rfl, _⟩ ⟨f, rfl, _⟩
  refine ws_forG (f := fun d env => env.put 3 (.d d)) (fun gh n σ H => ∃ f : Int, ∃ x3 x4 x5, Sd (dw K L HH d la c hd hla) ((⟨[.a d, .d (.int t), .d (.int f), x3, x4, x5], []⟩ : En).tell gh) [] σ H) rfl (iv_L (ev_lst (av_cons ev_int (av_cons ev_int (av_cons ev_int av_nil))) (sz_of (by simp)))) (pg_name sc__law_mixed.nd rfl (.inl rfl)) (fun d _ => bns_name 3 d) (fun gh σ H h => ⟨f, _, _, _, h⟩) (fun gh n σ H _ h => ?_) (fun gh n dd hdd σ H h => ?_) (fun gh σ H h => ?_)
  · obtain ⟨f, x3, x4, x5, h⟩ := h
    exact ⟨_, _, h⟩
  · obtain ⟨f, x3, x4, x5, h⟩ := h
    refine ⟨_, _, h, ?_⟩
    have hg : ∃ g : Int, dd = .int g ∧ 0 < g ∧ g < 2147483648 := by
      have := List.mem_of_getElem? hdd
      simp only [List.mem_cons, List.not_mem_nil, or_false] at this
      rcases this with z | z | z <;> exact ⟨_, z, by decide, by decide⟩
    obtain ⟨g, rfl, g0, g1⟩ := hg
    refine ws_setX 4 sc__law_mixed.nd (ex_mod (ex_add (ex_mul (EV.is (ev_var 1 rfl)) ev_int.is (fun i j _ hj => .inr (by subst hj; exact ⟨by decide, by decide⟩))) (ex_fdiv (EV.is (ev_var 3 rfl)) ev_int.is (fun i j _ hj => by subst hj; exact ⟨by decide, by decide⟩))) (EV.is (ev_var 3 rfl)) (fun j hj => by subst hj; omega)) ?_
    rintro _ ⟨b, rfl, i, j, _, rfl, rfl⟩
    have hb := fmod_bd (i := i) g0
    refine ws_forC (f := fun x env => env.put 5 (.d x)) DR 0 (fun n σ H => ∃ b : Int, ∃ x5, (0 ≤ b ∧ b < 2147483648) ∧ Sd (dw K L HH d la c hd hla) ((⟨[.a d, .d (.int t),   .d (.int f), .d (.int j), .d (.int b), x5], []⟩ : En).tell gh) [] σ H) rfl (by have := hr.un; omega) rfl (pg_name sc__law_mixed.nd rfl (.inl rfl)) (fun x => bns_name 5 x) (fun σ H h => ⟨_, _, ⟨hb.1, by omega⟩, h⟩) (fun n σ H h => by obtain ⟨b, x5, _, h⟩ := h; exact ⟨_, _, h⟩) (fun n v hv σ H h => ?_) (fun σ H h => ?_)
    · obtain ⟨b, x5, hb, h⟩ := h
      refine ⟨_, _, h, ?_⟩
      refine ws_setX 4 sc__law_mixed.nd (ex_mod (ex_add (ex_mul (EV.is (ev_var 4 rfl)) ev_int.is (fun i j _ hj => .inr (by subst hj; exact ⟨by decide, by decide⟩))) (ex_intC rfl T.b_int (EV.is (ev_var 5 rfl)))) (EV.is (ev_var 3 rfl)) (fun j hj => by subst hj; omega)) ?_
      rintro _ ⟨b2, rfl, i, j', _, rfl, rfl⟩
      have hb2 := fmod_bd (i := i) g0
      exact ws_nil fun σ H h => ⟨_, _, ⟨hb2.1, by omega⟩, h⟩
    · obtain ⟨b, x5, hb, h⟩ := h
      refine (?_ : WPS (dw K L HH d la c hd hla) _ _ [] _ _) σ H h
      refine ws_setX 2 sc__law_mixed.nd (ex_add (ex_mul (EV.is (ev_var 2 rfl)) ev_int.is (fun i j _ hj => .inr (by subst hj; exact ⟨by decide, by decide⟩))) (ex_mod (ex_pow (EV.is (ev_var 4 rfl)) ev_int.is (fun i j hi hj => by subst hi hj; exact ⟨by decide, by decide, by omega⟩)) (EV.is (ev_var 3 rfl)) (fun j hj => by subst hj; omega))) ?_
      rintro _ ⟨f2, rfl, _⟩
      exact ws_nil fun σ H h => ⟨_, _, _, _, h⟩
  · obtain ⟨f, x3, x4, x5, h⟩ := h
    refine (?_ : WPS (dw K L HH d la c hd hla) _ _ [] _ _) σ H h.hush
    exact ws_retX (EV.is (ev_var 2 rfl)) (fun y hy => q y (by obtain ⟨i, rfl, _⟩ := hy; exact ⟨i, rfl, trivial⟩))
theorem k__law_take (T : Txt K mg) : Def P wl K mg base "_law_take" 2 (PD K P__law_take R__law_take) := by
  refine def_draw T.h__law_take T.g__law_take sc__law_take T.bd__law_take (fun ds ⟨_, h, _⟩ => by rw [h]; rfl) (by decide) fun cdv A outer s HH E L Dn ds d la c cs hd hla DR hr hP q hn => ?_
  obtain ⟨n, rfl, h0, h1⟩ := hP
  refine ws_ifX (tx_eq (ex_drI DR 0 rfl (by have := hr.un; omega) (dr_rest la c)) ev_int.is) ⟨[.a d, .d (.int n), .no], []⟩ [] ?_ (ws_nil fun σ H h => h) ?_
  · exact ws_drPut DR 0 rfl (by have := hr.un; omega) (ex_drPop DR 0 rfl rfl (by have := hr.un; omega) (EX.mono (ex_callD DR 0 rfl (k__law_mixed T) hr rfl av_nil rfl) (fun x h => h))) (dp_rest la c) (ws_nil fun σ H h => h)
  · refine ws_setX 2 sc__law_take.nd (ex_mod (ex_intC rfl T.b_int (ex_drI DR 0 rfl (by have := hr.un; omega) (dr_rest la c))) (EV.is (ev_var 1 rfl)) (fun j hj => by subst hj; omega)) ?_
    rintro _ ⟨b2, rfl, i, j, _, rfl, rfl⟩
    have hb2 := fmod_bd (i := i) h0
    refine ws_drPut DR 0 rfl (by have := hr.un; omega) (ex_fdiv (ex_intC rfl T.b_int (ex_drI DR 0 rfl (by have := hr.un; omega) (dr_rest la c))) (EV.is (ev_var 1 rfl)) (fun i j _ hj => by subst hj; exact ⟨by omega, by omega⟩)) (dp_rest la c) ?_
    exact ws_retX (EV.is (ev_var 2 rfl)) (fun y hy => q y (by obtain ⟨i, rfl, rfl⟩ := hy; exact ⟨_, rfl, _, rfl, hb2⟩))
theorem k__law_begun (T : Txt K mg) : Def P wl K mg base "_law_begun" 1 (PB K) := by
  refine ⟨_, _, _, T.h__law_begun.ok sc__law_begun (fun vs H Q E h => ?_) (fun cdv A outer s H vs Q E hr h => ?_), T.g__law_begun, T.h__law_begun.kp, T.bd__law_begun⟩
  · obtain ⟨a, ns, rfl, _⟩ := h
    rfl
  · obtain ⟨a, ns, rfl, hS, hlen, q⟩ := h
    have s0 := sd_startA (K := K) (H := H) (N := n__law_begun) (a := a) (by decide)
    have hS2 : ∀ {env : En} {O : Os} σ H2, Sd (pw K [] H) env O σ H2 → ∀ H', (∀ b o, b ∉ (pw K [] H).B → H2 b = some o → H' b = some o) → SqL K H' a (ns.map V.int) := fun σ H2 h H' k => ex_l (fun b o e => k b o (by simp [pw]) (h.ex b o (by simp [pw]) e)) hS
    refine ⟨_, pss_c, (?_ : WPS (pw K [] H) (BX P wl K mg base n__law_begun "_law_begun" s__law_begun T.f__law_begun cdv A outer s H E) ⟨[.a a, .no, .no], []⟩ [] (defBody s__law_begun) { nx := fun _ H' => Q .non H', rt := Q }) _ H s0⟩
    refine ws_lcO 1 rfl sc__law_begun.nd (lc_f 2 (f := D.int) (cf := fun g => decide (1000000000000000000 ≤ (g.natAbs : Int))) (r := fun g => D.int ((g.natAbs : Int) - 1000000000000000000)) (ic_S (n := 0) rfl hS2) (blkOk_by (N := n__law_begun) (sc := defScope s__law_begun) (by decide +kernel)) (sz_lt (by omega)) (fun _ _ _ _ _ => pg_name sc__law_begun.nd rfl (.inl rfl))
      (fun x hx q acc s' H0 C cl fp => TV.to (tv_ge (ev_absC rfl T.b_abs (ev_var 2 rfl)) (ev_pow ev_int ev_int ⟨by decide, by decide, by decide⟩)) rfl)
      (fun x hx _ q acc s' H0 C cl fp => EV.to (ev_sub (ev_absC rfl T.b_abs (ev_var 2 rfl)) (ev_pow ev_int ev_int ⟨by decide, by decide, by decide⟩)) rfl)) ?_
    intro l
    refine ws_cons (ps_ret (pe_disp (pps_cons pe_str pe_c (pps_cons pe_str pe_c (pps_cons pe_str pe_c (pps_cons pe_str pe_c pps_nil)))) rfl rfl (by decide) (by decide))) fun σ H1 h1 p hp => ?_
    have l2 := Lv.new (o := .dK []) h1 hp
    refine re_own 1 l2.1 rfl ?_
    refine re_of pe_int ?_
    refine (?lc : EN (pw K [] H) (BX P wl K mg base n__law_begun "_law_begun" s__law_begun T.f__law_begun cdv A outer s H E) _ ⟨[.a a, .a l, .no], []⟩ [(l, .l ((ns.filter fun g => decide (1000000000000000000 ≤ (g.natAbs : Int))).map fun g => D.int ((g.natAbs : Int) - 1000000000000000000)))] (ns.map fun g => D.int (g.natAbs : Int))) σ _ l2.1 _ fun c H3 h3 k3 => ?_
    case lc => exact LC.n (lc_n 2 (f := D.int) (r := fun g => D.int (g.natAbs : Int)) (ic_S (n := 0) rfl hS2) (blkOk_by (N := n__law_begun) (sc := defScope s__law_begun) (by decide +kernel)) (sz_lt (by omega)) (fun _ _ _ _ _ => pg_name sc__law_begun.nd rfl (.inl rfl))
      (fun x hx q acc s' H0 C cl fp => ev_absC rfl T.b_abs (ev_var 2 rfl))) rfl sc__law_begun.nd
    refine re_of pe_int ?_
    have ep : H3 p = some (.dK []) := k3 p _ (by simp [pw]) upd_same
    obtain ⟨xs, el, rl⟩ := h3.get (k := 0) (p := l) rfl
    obtain ⟨ys, ec, rc⟩ := h3.get (k := 1) (p := c) rfl
    have exs : xs = ((ns.filter fun g => decide (1000000000000000000 ≤ (g.natAbs : Int))).map fun g => (g.natAbs : Int) - 1000000000000000000).map V.int := RpA.ints (l := (ns.filter fun g => decide (1000000000000000000 ≤ (g.natAbs : Int))).map fun g => (g.natAbs : Int) - 1000000000000000000) (by simpa [iL, Function.comp_def] using rl)
    have eys : ys = (ns.map fun g => (g.natAbs : Int)).map V.int := RpA.ints (l := ns.map fun g => (g.natAbs : Int)) (by simpa [iL, Function.comp_def] using rc)
    subst exs eys
    have npl : p ≠ l := fun z => by rw [z, el] at ep; cases ep
    have npc : c ≠ p := fun z => by rw [← z, ec] at ep; cases ep
    have nd := h3.nd
    have ncl : c ≠ l := fun z => by rw [z] at nd; simp [own] at nd
    refine ⟨ep, [(.inr "large", .ref l), (.inr "rest", .int 0), (.inr "cells", .ref c), (.inr "turn", .int 0)], rfl, by simp, ?_⟩
    have e03 : Ex H H3 := fun b o e => h3.ex b o (by simp [pw]) e
    have hp0 : H p = none := by
      cases z : H p with
      | none => rfl
      | some o => exact absurd (h1.ex p o (by simp [pw]) z) (by rw [hp]; simp)
    refine q p l c _ _ (fun b o e => ?_) hp0 (h3.fr l (by simp [own])) (h3.fr c (by simp [own])) npl npc ncl ⟨0, 0, _, upd_same, by rw [upd_ne npl.symm]; exact el⟩ (by rw [upd_ne npc]; exact ec)
    rw [upd_ne fun z => by rw [z, hp0] at e; cases e]
    exact e03 b o e
end
end Q95
end
section
set_option Elab.async false
set_option linter.all false
set_option maxRecDepth 100000
set_option maxHeartbeats 4000000
namespace Q95
open PySem PySem.Spec PyProof.Rows L2 Mp
open Mi
section
variable {P : Program} {wl : World} {K : PySem.W.Frag} {mg : Str → Option Value} {base : Heap}
def R_side_of : List D → D → Prop := fun ds d => ∃ (many : Int) (l : List Int), ds = [.int many, tI l] ∧ 2 ≤ many ∧ many ≤ 5 ∧ okD many l ∧ d = .int (sideOf many l)
abbrev R_side := R_side_of
def R_seen_behind : List D → D → Prop := fun ds d => ∃ (many : Int) (l : List Int), ds = [.int many, tI l] ∧ l.length ≤ 100000 ∧ d = tI (seenB many l)
def R_noughts_ahead : List D → D → Prop := fun ds d => ∃ (many : Int) (l : List Int), ds = [.int many, tI l] ∧ 2 ≤ many ∧ many ≤ 5 ∧ okD many l ∧ d = dOpt (noughts many l)
def R_span_of : List D → D → Prop := fun ds d => ∃ (many : Int) (l : List Int), ds = [.int many, tI l] ∧ 2 ≤ many ∧ many ≤ 5 ∧ okD many l ∧ (noughts many l ≠ none → noughts many (seenB many l) ≠ none) ∧ d = dOpt2 (spanOf many l)
abbrev R_span := R_span_of
theorem atI_0 {x : Int} {r : List Int} : atI (iL (x :: r)) 0 = some (D.int x) := atI_to (n := 0) rfl (atI_nat rfl)
theorem numbers_len {many : Int} {l : List Int} (h2 : 2 ≤ many) (ok : okD many l) : ((numbersIn many l).length : Int) = 2 * many := by
  have := allLed_len l (base0 many) (base_len' h2) ok.1
  rw [numbersIn, this]
  exact base_len' h2
theorem seen_ok {many : Int} {l : List Int} (ok : okD many l) : okD many (seenB many l) := by
  refine ⟨fun s hs => ?_, by rw [seenB, List.length_map]; exact ok.2⟩
  obtain ⟨t, ht, rfl⟩ := List.mem_map.mp hs
  have := ok.1 t ht
  simp only [okS] at *
  split <;> omega
end
end Q95
end
section
set_option Elab.async false
set_option linter.all false
set_option maxRecDepth 100000
set_option maxHeartbeats 4000000
namespace Q95
open PySem PySem.Spec PyProof.Rows L2 Mp
open Mi
section
variable {P : Program} {wl : World} {K : PySem.W.Frag} {mg : Str → Option Value} {base : Heap}
def okW (count : Int) (l : List Int) : Prop := (∀ s ∈ l, okS count s) ∧ l.length ≤ 1000
theorem okW.d {count : Int} {l : List Int} (h : okW count l) : okD count l := ⟨h.1, Nat.le_trans h.2 (by decide)⟩
def R_passed : List D → D → Prop := fun ds d => ∃ start left right sign : Int, ds = [.int start, .int left, .int right, .int sign] ∧ (0 ≤ start ∧ start ≤ 1000) ∧ (0 ≤ left ∧ left ≤ 5) ∧ (0 ≤ right ∧ right ≤ 5) ∧ (sign = 1 ∨ sign = -1) ∧ d = lI (passed start left right sign)
def R_widened_of : List D → D → Prop := fun ds d => ∃ sizes l : List Int, ds = [tI sizes, tI l] ∧ Sizes sizes ∧ okW sizes.length l ∧ d = tI (widenedOf sizes l)
def R_are_sizes : List D → D → Prop := fun ds d => ∃ sizes : List Int, ds = [tI sizes] ∧ Sizes sizes ∧ d = .bl true
def R_need_sizes : List D → D → Prop := fun ds d => ∃ sizes : List Int, ds = [tI sizes] ∧ Sizes sizes ∧ d = .non
abbrev R_widened := R_widened_of
def R_lots_of : List D → D → Prop := fun ds d => ∃ sizes : List Int, ds = [tI sizes] ∧ Sizes sizes ∧ d = .lst ((lotsOf sizes).map tI)
end
end Q95
end
section
set_option Elab.async false
set_option linter.all false
set_option maxRecDepth 100000
set_option maxHeartbeats 4000000
namespace Q95
open PySem PySem.Spec PyProof.Rows L2 Mp
open Mi
section
variable {P : Program} {wl : World} {K : PySem.W.Frag} {mg : Str → Option Value} {base : Heap}
def R_parts_of : List D → D → Prop := fun ds d => ∃ (many : Int) (l sizes : List Int), ds = [.int many, tI l, tI sizes] ∧ 2 ≤ many ∧ many ≤ 5 ∧ okW many l ∧ Sizes sizes ∧ d = .tup [tI (outerOf many l sizes), .lst ((innerOf many l sizes).map tI)]
def R_together : List D → D → Prop := fun ds d => ∃ (sizes outer : List Int) (inner : List (List Int)), ds = [tI sizes, tI outer, .lst (inner.map tI)] ∧ Sizes sizes ∧ okW sizes.length outer ∧ (∀ x ∈ inner, x.length ≤ 1000) ∧ d = tI (together sizes outer inner)
def R_do_move_as_one : List D → D → Prop := fun ds d => ∃ (many : Int) (l sizes : List Int), ds = [.int many, tI l, tI sizes] ∧ 2 ≤ many ∧ many ≤ 5 ∧ okW many l ∧ Sizes sizes ∧ sizes.sum = many ∧ d = .bl (moveAsOne many l sizes)
def R_all_divisions : List D → D → Prop := fun ds d => ∃ many : Int, ds = [.int many] ∧ 2 ≤ many ∧ many ≤ 5 ∧ d = .lst ((allDivs many).map tI)
def R_blocks : List D → D → Prop := fun ds d => ∃ (many : Int) (l : List Int), ds = [.int many, tI l] ∧ 2 ≤ many ∧ many ≤ 5 ∧ okW many l ∧ d = .lst ((blocksOf many l).map tI)
def R_block_parts : List D → D → Prop := fun ds d => ∃ (many : Int) (l sizes : List Int), ds = [.int many, tI l, tI sizes] ∧ 2 ≤ many ∧ many ≤ 5 ∧ okW many l ∧ Sizes sizes ∧ sizes.sum = many ∧ moveAsOne many l sizes = true ∧ d = .tup [tI (outerOf many l sizes), .lst ((innerOf many l sizes).map tI)]
def R_is_list : List D → D → Prop := fun ds d => ∃ l : List (List Int), ds = [.lst (l.map tI)] ∧ d = .bl true
def okIn (sizes : List Int) (inner : List (List Int)) : Prop := inner.length = sizes.length ∧ ∀ z ∈ sizes.zip inner, okW z.1 z.2
def R_are_inner : List D → D → Prop := fun ds d => ∃ (sizes : List Int) (inner : List (List Int)), ds = [tI sizes, .lst (inner.map tI)] ∧ Sizes sizes ∧ okIn sizes inner ∧ d = .bl true
def R_put_together : List D → D → Prop := fun ds d => ∃ (sizes outer : List Int) (inner : List (List Int)), ds = [tI sizes, tI outer, .lst (inner.map tI)] ∧ Sizes sizes ∧ okW sizes.length outer ∧ okIn sizes inner ∧ d = tI (together sizes outer inner)
theorem left_len {many : Int} {l lot : List Int} : (leftOf many l lot).length ≤ l.length := by
  have := leftSt_le lot l (rng 0 many, [])
  simpa [leftOf, leftSt] using this
theorem lot_leftW {many : Int} {l lot : List Int} (h0 : 0 ≤ many) (ok : okW many l) : okW lot.length (leftOf many l lot) := ⟨(lot_left h0 ok.d).1, Nat.le_trans left_len ok.2⟩
theorem outer_ok {many : Int} {l sizes : List Int} (h0 : 0 ≤ many) (ok : okW many l) (hz : Sizes sizes) : okW sizes.length (outerOf many l sizes) := by
  have := lot_leftW (lot := (lotsOf sizes).map fun lot => lot.getD 0 0) h0 ok
  rw [List.length_map, (lots_of fun s hs => (hz.2.1 s hs).1).2] at this
  exact this
end
end Q95
end
section
set_option Elab.async false
set_option linter.all false
set_option maxRecDepth 100000
set_option maxHeartbeats 4000000
namespace Q95
open PySem PySem.Spec PyProof.Rows L2 Mp
open Mi
section
variable {P : Program} {wl : World} {K : PySem.W.Frag} {mg : Str → Option Value} {base : Heap}
def P__law_pick : List D → Prop := fun ds => ∃ dl : List D, ds = [.lst dl] ∧ 0 < dl.length ∧ dl.length ≤ 1000
def R__law_pick : List D → D → Prop := fun ds x => ∃ dl : List D, ds = [.lst dl] ∧ x ∈ dl
def P__law_dance : List D → Prop := fun ds => ∃ m most : Int, ds = [.int m, .int most] ∧ 2 ≤ m ∧ m ≤ 5 ∧ 0 ≤ most ∧ most ≤ 10
def R__law_dance : List D → D → Prop := fun ds x => ∃ (m most : Int) (l : List Int), ds = [.int m, .int most] ∧ x = tI l ∧ (∀ s ∈ l, okS m s) ∧ (l.length : Int) ≤ most
def P__law_sizes : List D → Prop := fun ds => ∃ c : Int, ds = [.int c] ∧ 2 ≤ c ∧ c ≤ 4
def R__law_sizes : List D → D → Prop := fun ds x => ∃ (c : Int) (s : List Int), ds = [.int c] ∧ x = tI s ∧ Sizes s ∧ (s.length : Int) = c
def R__law_begins : List D → D → Prop := fun ds d => ∃ sizes : List Int, ds = [tI sizes] ∧ sizes.length ≤ 5 ∧ d = lI (begOf sizes)
def R__law_longer : List D → D → Prop := fun ds d => ∃ (lots : List (List Int)) (dn : List Int), ds = [.lst (lots.map tI), lI dn] ∧ lots.length ≤ 1000 ∧ dn.length ≤ 5 ∧ (∀ lot ∈ lots, lot.length ≤ 1000) ∧ d = .lst ((longerOf lots dn).map tI)
def R__law_choices : List D → D → Prop := fun ds d => ∃ (sizes lot : List Int), ds = [tI sizes, tI lot] ∧ Sizes sizes ∧ (∀ k ∈ lot, 0 ≤ k ∧ k < sizes.length) ∧ lot.length ≤ 4 ∧ d = .lst ((choicesOf sizes lot).map tI)
theorem k__law_pick (T : Txt K mg) : Def P wl K mg base "_law_pick" 3 (PD K P__law_pick R__law_pick) := by
  refine def_draw T.h__law_pick T.g__law_pick sc__law_pick T.bd__law_pick (fun ds ⟨_, h, _⟩ => by rw [h]; rfl) (by decide) fun cdv A outer s HH E L Dn ds d la c cs hd hla DR hr hP q hn => ?_
  obtain ⟨dl, rfl, h0, h1⟩ := hP
  refine ws_retX (ex_ixL (A := fun i => 0 ≤ i ∧ i < dl.length) (el_of (ev_var 1 rfl)) (EX.mono (ex_callD DR 0 rfl (k__law_take T) hr rfl (av_cons (ev_lenL rfl T.b_len (el_of (ev_var 1 rfl))) av_nil) ⟨_, rfl, by omega, by omega⟩) (fun x hx => ?_)) (fun i hi => ?_)) (fun y hy => q y ?_)
  · obtain ⟨n, e, hx⟩ := hx
    injection e with e _
    injection e with e
    injection e with e
    subst e
    exact hx
  · obtain ⟨n, rfl⟩ : ∃ n : Nat, i = (n : Int) := ⟨i.toNat, by omega⟩
    exact ⟨dl[n]'(by omega), atI_nat (List.getElem?_eq_getElem _)⟩
  · obtain ⟨i, hi, hy⟩ := hy
    obtain ⟨n, rfl⟩ : ∃ n : Nat, i = (n : Int) := ⟨i.toNat, by omega⟩
    rw [atI_nat (List.getElem?_eq_getElem (show n < dl.length by omega))] at hy
    exact ⟨dl, rfl, by rw [← Option.some.inj hy]; exact List.getElem_mem _⟩
theorem take_is {n : Int} {x : D} (h : R__law_take [.int n] x) : Is (fun i => 0 ≤ i ∧ i < n) x := by
  obtain ⟨m, e, hx⟩ := h
  injection e with e _
  injection e with e
  injection e with e
  subst e
  exact hx
theorem k__law_dance (T : Txt K mg) : Def P wl K mg base "_law_dance" 3 (PD K P__law_dance R__law_dance) := by
  refine def_draw T.h__law_dance T.g__law_dance sc__law_dance T.bd__law_dance (fun ds ⟨_, _, h, _⟩ => by rw [h]; rfl) (by decide) fun cdv A outer s HH E L Dn ds d la c cs hd hla DR hr hP q hn => ?_
  obtain ⟨m, most, rfl, h2, h5, hm0, hm1⟩ := hP
  refine ws_new 3 sc__law_dance.nd (en_lst av_nil (sz_of (by simp))) fun pf => ?_
  refine ws_forRX (A := fun i => 0 ≤ i ∧ i < most + 1) (g := gName 4) (f := fun d env => env.put 4 (.d d)) (fun n i => ⟨[], []⟩) (fun n gh i σ H => ∃ l : List Int, ∃ x4 x5, ((∀ s ∈ l, okS m s) ∧ l.length = i ∧ n ≤ most) ∧ Sd (dw K L HH d la c hd hla) ((⟨[.a d, .d (.int m), .d (.int most), .a pf, x4, x5], []⟩ : En).tell gh) [(pf, .l (iL l))] σ H) rfl rfl T.b_range (EX.mono (ex_callD DR 0 rfl (k__law_take T) hr rfl (av_cons (ev_add (ev_var 2 rfl) ev_int) av_nil) ⟨_, rfl, by omega, by omega⟩) (fun x hx => take_is hx)) (fun i hi => by omega) (pg_name sc__law_dance.nd rfl (.inl rfl)) (fun d => bns_name 4 d)
    (fun n hn gh σ H h => ⟨[], _, _, ⟨by simp, rfl, by omega⟩, h⟩) (fun n hn gh i σ H h => by obtain ⟨l, x4, x5, _, h⟩ := h; exact ⟨_, _, h⟩) (fun n hn gh i hi σ H h => ?_) (fun n hn gh σ H h => ?_)
  · obtain ⟨l, x4, x5, ⟨hl1, hl2, hl3⟩, h⟩ := h
    refine ⟨_, _, h, ?_⟩
    refine ws_setX 5 sc__law_dance.nd (ex_add ev_int.is (EX.mono (ex_callD DR 0 rfl (k__law_take T) hr rfl (av_cons (ev_sub (ev_var 1 rfl) ev_int) av_nil) ⟨_, rfl, by omega, by omega⟩) (fun x hx => take_is hx))) ?_
    rintro _ ⟨s, rfl, a, b, rfl, hb, rfl⟩
    refine ws_appX (R := fun x => ∃ t, x = D.int t ∧ okS m t) 3 0 rfl rfl (ex_if (tx_eq (EX.mono (ex_callD DR 0 rfl (k__law_take T) hr rfl (av_cons ev_int av_nil) ⟨_, rfl, by decide, by decide⟩) (fun x hx => take_is hx)) ev_int.is) (EX.mono (EV.ex (ev_var 5 rfl)) (fun x hx => ⟨_, hx, by simp only [okS]; omega⟩)) (EX.mono (EV.ex (ev_sub ev_int (ev_var 5 rfl))) (fun x hx => ⟨_, hx, by simp only [okS]; omega⟩))) (sz_lt (by rw [List.length_map]; omega)) ?_
    rintro _ ⟨t, rfl, ht⟩
    refine ws_nil fun σ H h => ⟨l ++ [t], .d (.int (i : Int)), .d (.int (1 + b)), ⟨fun s hs => ?_, by simp [hl2], hl3⟩, ?_⟩
    · rcases List.mem_append.mp hs with hs | hs
      · exact hl1 s hs
      · rw [List.mem_singleton.mp hs]; exact ht
    · rw [iL_app]
      exact h
  · obtain ⟨l, x4, x5, ⟨hl1, hl2, hl3⟩, h⟩ := h
    refine (?_ : WPS (dw K L HH d la c hd hla) _ _ _ _ _) σ H h.hush
    exact ws_ret (ev_tupL rfl T.b_tuple (el_var 3 0 rfl rfl)) (q _ ⟨m, most, l, rfl, rfl, hl1, by omega⟩)
theorem sum_set (l : List Int) (t : Nat) (x : Int) (h : l[t]? = some x) (y : Int) : (l.set t y).sum = l.sum - x + y := by
  induction l generalizing t with
  | nil => simp at h
  | cons z l ih =>
    cases t with
    | zero =>
      simp at h
      subst h
      simp only [List.set_cons_zero, List.sum_cons]
      omega
    | succ t =>
      have := ih t (by simpa using h)
      simp only [List.set_cons_succ, List.sum_cons]
      omega
theorem last_app (l : List Int) (h : l ≠ []) : ∃ p x, l = p ++ [x] ∧ l.getLastD 0 = x := ⟨l.dropLast, l.getLast h, (List.dropLast_concat_getLast h).symm, by
  rw [List.getLastD_eq_getLast?, List.getLast?_eq_some_getLast h]; rfl⟩
end
end Q95
end
section
set_option Elab.async false
set_option linter.all false
set_option maxRecDepth 100000
set_option maxHeartbeats 4000000
namespace Q95
open PySem PySem.Spec PyProof.Rows L2 Mp
open Mi
section
variable {P : Program} {wl : World} {K : PySem.W.Frag} {mg : Str → Option Value} {base : Heap}
theorem undo_ok {many : Int} {l : List Int} (ok : okD many l) : okD many (undo l) := by
  refine ⟨fun s hs => ?_, by unfold undo; rw [List.length_map, List.length_reverse]; exact ok.2⟩
  unfold undo at hs
  obtain ⟨t, ht, rfl⟩ := List.mem_map.mp hs
  have := ok.1 t (List.mem_reverse.mp ht)
  simp only [okS] at *
  omega
theorem mir_ok {many : Int} {l : List Int} (ok : okD many l) : okD many (mir l) := by
  refine ⟨fun s hs => ?_, by unfold mir; rw [List.length_map]; exact ok.2⟩
  unfold mir at hs
  obtain ⟨t, ht, rfl⟩ := List.mem_map.mp hs
  have := ok.1 t ht
  simp only [okS] at *
  omega
theorem turn_ok {many : Int} {l : List Int} (ok : okD many l) : okD many (turn many l) := by
  refine ⟨fun s hs => ?_, by unfold turn; rw [List.length_map]; exact ok.2⟩
  unfold turn at hs
  obtain ⟨t, ht, rfl⟩ := List.mem_map.mp hs
  have := ok.1 t ht
  simp only [okS] at *
  split <;> omega
def R__law_sides_right : List D → D → Prop := fun ds d => ∃ (many : Int) (l lot : List Int), ds = [.int many, tI l, tI lot] ∧ 2 ≤ many ∧ many ≤ 5 ∧ okD many l ∧ SideW many l lot ∧ d = .bl true
theorem k__law_sides_right (T : Txt K mg) : Def P wl K mg base "_law_sides_right" 7 (PF K R__law_sides_right) := by
  refine def_pure T.h__law_sides_right T.g__law_sides_right sc__law_sides_right T.bd__law_sides_right (fun ds d ⟨_, _, _, h, _⟩ => by rw [h]; rfl) (by decide) fun cdv A outer s H E L Dn ds d hr hR q hn => ?_
  obtain ⟨many, l, lot, rfl, h2, h5, ok, W, rfl⟩ := hR
  have hlen := W.isl.len' (by omega)
  have h2l := W.len
  have dok : okD lot.length (leftOf many l lot) := lot_left (by omega) ok
  refine ws_par 3 4 rfl sc__law_sides_right.nd (by decide) (ev_call (k_left_by T) (hr.mono (by decide)) rfl (av_cons (ev_var 0 rfl) (av_cons (ev_var 1 rfl) (av_cons (ev_var 2 rfl) av_nil))) ⟨many, l, lot, rfl, h2, h5, ok, W.isl, W.len, rfl⟩) (ev_lenUm rfl rfl T.b_len (eu_of (ev_var 2 rfl))) ?_
  refine ws_ifF (TV.to (tv_neE (f := tI) (x := leftOf many l lot) (y := leftOf many l lot) rfl (un64 hr) eqe_tI (by decide) (EV.f (ev_var 3 rfl)) (EV.f (ev_call (k__law_left T) (hr.mono (by decide)) rfl (av_cons (ev_var 0 rfl) (av_cons (ev_var 1 rfl) (av_cons (ev_var 2 rfl) av_nil))) ⟨many, l, lot, rfl, by omega, h5, ok, rfl⟩))) (by simp)) ?_
  refine ws_set 5 sc__law_sides_right.nd (ev_call (k__law_where T) (hr.mono (by decide)) rfl (av_cons (ev_call (k_end_order T) (hr.mono (by decide)) rfl (av_cons (ev_var 0 rfl) (av_cons (ev_var 1 rfl) av_nil)) ⟨many, l, rfl, h2, h5, ok, rfl⟩) (av_cons (ev_var 2 rfl) av_nil)) ⟨lineOf many l, lot, rfl, by rw [lineOf_len]; omega, rfl⟩) ?_
  refine ws_ifF (TV.to (tv_neE (f := tI) (x := leftOf many (undo l) (whereOf (lineOf many l) lot)) (y := undo (leftOf many l lot)) rfl (un64 hr) eqe_tI (by decide)
    (EV.f (ev_call (k_left_by T) (hr.mono (by decide)) rfl (av_cons (ev_var 0 rfl) (av_cons (ev_call (k_undone T) (hr.mono (by decide)) rfl (av_cons (ev_var 0 rfl) (av_cons (ev_var 1 rfl) av_nil)) ⟨many, l, rfl, h2, h5, ok, rfl⟩) (av_cons (ev_var 5 rfl) av_nil))) ⟨many, undo l, _, rfl, h2, h5, undo_ok ok, W.there.1, W.there.2, rfl⟩))
    (EV.f (ev_call (k_undone T) (hr.mono (by decide)) rfl (av_cons (ev_var 4 rfl) (av_cons (ev_var 3 rfl) av_nil)) ⟨(lot.length : Int), _, rfl, by omega, by omega, dok, rfl⟩))) (by rw [W.und]; simp)) ?_
  refine ws_ifF (TV.to (tv_neE (f := tI) (x := leftOf many (mir l) lot) (y := mir (leftOf many l lot)) rfl (un64 hr) eqe_tI (by decide)
    (EV.f (ev_call (k_left_by T) (hr.mono (by decide)) rfl (av_cons (ev_var 0 rfl) (av_cons (ev_call (k_mirrored T) (hr.mono (by decide)) rfl (av_cons (ev_var 0 rfl) (av_cons (ev_var 1 rfl) av_nil)) ⟨many, l, rfl, h2, h5, ok, rfl⟩) (av_cons (ev_var 2 rfl) av_nil))) ⟨many, mir l, _, rfl, h2, h5, mir_ok ok, W.isl, W.len, rfl⟩))
    (EV.f (ev_call (k_mirrored T) (hr.mono (by decide)) rfl (av_cons (ev_var 4 rfl) (av_cons (ev_var 3 rfl) av_nil)) ⟨(lot.length : Int), _, rfl, by omega, by omega, dok, rfl⟩))) (by rw [W.mir]; simp)) ?_
  obtain ⟨bs1, bs2⟩ := back_sorted W.isl
  refine ws_set 6 (d := tI (backLot many lot)) sc__law_sides_right.nd (ev_tupL rfl T.b_tuple (EN.l (en_sortI (l := lot.map fun d => many - 1 - d) (m := backLot many lot) rfl rfl T.b_sorted (EL.to (EN.l (LC.n (lc_n 7 (f := D.int) (r := fun d => D.int (many - 1 - d)) (xs := lot) (ic_U rfl (eu_of (ev_var 2 rfl))) (blkOk_by (N := n__law_sides_right) (sc := defScope s__law_sides_right) (by decide +kernel)) (sz_lt (by omega)) (fun _ _ _ _ _ => pg_name sc__law_sides_right.nd rfl (.inl rfl))
    (fun x hx q acc s' H0 C cl fp => ev_sub (ev_sub (ev_var 0 rfl) ev_int) (ev_var 7 rfl))) rfl sc__law_sides_right.nd)) (by rw [iL, List.map_map]; rfl)) bs2 bs1))) ?_
  refine ws_ret (EV.to (ev_eqE (f := tI) (x := leftOf many (turn many l) (backLot many lot)) (y := turn lot.length (leftOf many l lot)) rfl (un64 hr) eqe_tI (by decide)
    (EV.f (ev_call (k_left_by T) (hr.mono (by decide)) rfl (av_cons (ev_var 0 rfl) (av_cons (ev_call (k_turned_about T) (hr.mono (by decide)) rfl (av_cons (ev_var 0 rfl) (av_cons (ev_var 1 rfl) av_nil)) ⟨many, l, rfl, h2, h5, ok, rfl⟩) (av_cons (ev_var 6 rfl) av_nil))) ⟨many, turn many l, _, rfl, h2, h5, turn_ok ok, W.back, by unfold backLot; rw [List.length_reverse, List.length_map]; exact W.len, rfl⟩))
    (EV.f (ev_call (k_turned_about T) (hr.mono (by decide)) rfl (av_cons (ev_var 4 rfl) (av_cons (ev_var 3 rfl) av_nil)) ⟨(lot.length : Int), _, rfl, by omega, by omega, dok, rfl⟩))) (by rw [W.trn]; simp)) q
def R__law_numbers_right : List D → D → Prop := fun ds d => ∃ (many : Int) (l lot other : List Int), ds = [.int many, tI l, tI lot, tI other] ∧ 2 ≤ many ∧ many ≤ 5 ∧ okW many l ∧ okW many other ∧ NumW many l lot other ∧ d = .bl true
theorem cat_ok {many : Int} {l m : List Int} (h : okW many l) (k : okW many m) : okD many (l ++ m) := ⟨fun s hs => (List.mem_append.mp hs).elim (h.1 s) (k.1 s), by rw [List.length_append]; have := h.2; have := k.2; omega⟩
theorem k__law_numbers_right (T : Txt K mg) : Def P wl K mg base "_law_numbers_right" 7 (PF K R__law_numbers_right) := by
  refine def_pure T.h__law_numbers_right T.g__law_numbers_right sc__law_numbers_right T.bd__law_numbers_right (fun ds d ⟨_, _, _, _, h, _⟩ => by rw [h]; rfl) (by decide) fun cdv A outer s H E L Dn ds d hr hR q hn => ?_
  obtain ⟨many, l, lot, other, rfl, h2, h5, okl, oko, W, rfl⟩ := hR
  have ok := okl.d
  have hlen := W.isl.len' (by omega)
  have h2l := W.len
  have dok : okD lot.length (leftOf many l lot) := lot_left (by omega) ok
  have hdl : (leftOf many l lot).length ≤ 1000 := by
    have := leftSt_le lot l (rng 0 many, [])
    simp only [List.length_nil, Nat.zero_add] at this
    have := okl.2
    show (leftSt many l lot).2.length ≤ 1000
    unfold leftSt
    omega
  have hol : (leftOf many other (whereOf (lineOf many l) lot)).length ≤ 1000 := by
    have := leftSt_le (whereOf (lineOf many l) lot) other (rng 0 many, [])
    simp only [List.length_nil, Nat.zero_add] at this
    have := oko.2
    show (leftSt many other (whereOf (lineOf many l) lot)).2.length ≤ 1000
    unfold leftSt
    omega
  refine ws_par 4 5 rfl sc__law_numbers_right.nd (by decide) (ev_call (k_left_by T) (hr.mono (by decide)) rfl (av_cons (ev_var 0 rfl) (av_cons (ev_var 1 rfl) (av_cons (ev_var 2 rfl) av_nil))) ⟨many, l, lot, rfl, h2, h5, ok, W.isl, W.len, rfl⟩) (ev_call (k_end_order T) (hr.mono (by decide)) rfl (av_cons (ev_var 0 rfl) (av_cons (ev_var 1 rfl) av_nil)) ⟨many, l, rfl, h2, h5, ok, rfl⟩) ?_
  refine ws_ifF (TV.to (tv_neE (f := tI) (x := leftOf many (l ++ other) lot) (y := leftOf many l lot ++ leftOf many other (whereOf (lineOf many l) lot)) rfl (un64 hr) eqe_tI (by decide)
    (EV.f (ev_call (k_left_by T) (hr.mono (by decide)) rfl (av_cons (ev_var 0 rfl) (av_cons (EV.to (ev_catU rfl (eu_of (ev_var 1 rfl)) (eu_of (ev_var 3 rfl)) (by rw [List.length_map, List.length_map]; have := okl.2; have := oko.2; exact sz_of (by omega))) (show D.tup (iL l ++ iL other) = tI (l ++ other) by simp [iL])) (av_cons (ev_var 2 rfl) av_nil))) ⟨many, l ++ other, lot, rfl, h2, h5, cat_ok okl oko, W.isl, W.len, rfl⟩))
    (EV.f (EV.to (ev_catU rfl (eu_of (ev_var 4 rfl)) (eu_of (ev_call (k_left_by T) (hr.mono (by decide)) rfl (av_cons (ev_var 0 rfl) (av_cons (ev_var 3 rfl) (av_cons (ev_call (k__law_where T) (hr.mono (by decide)) rfl (av_cons (ev_var 5 rfl) (av_cons (ev_var 2 rfl) av_nil)) ⟨lineOf many l, lot, rfl, by rw [lineOf_len]; omega, rfl⟩) av_nil))) ⟨many, other, _, rfl, h2, h5, oko.d, W.there.1, W.there.2, rfl⟩)) (by rw [List.length_map, List.length_map]; exact sz_of (by omega))) (show D.tup (iL (leftOf many l lot) ++ iL (leftOf many other (whereOf (lineOf many l) lot))) = tI (leftOf many l lot ++ leftOf many other (whereOf (lineOf many l) lot)) by simp [iL])))) (by rw [W.cat]; simp)) ?_
  refine ws_set2O 6 sc__law_numbers_right.nd (eo_call (k_leads T) (hr.mono (by decide)) rfl (av_cons (ev_lenUm rfl rfl T.b_len (eu_of (ev_var 2 rfl))) (av_cons (ev_var 4 rfl) av_nil)) ⟨(lot.length : Int), _, rfl, by omega, by omega, dok, rfl⟩) (fun p => eo_call (k_meetings T) (hr.mono (by decide)) rfl (av_cons (ev_lenUm rfl rfl T.b_len (eu_of (ev_var 2 rfl))) (av_cons (ev_var 4 rfl) av_nil)) ⟨(lot.length : Int), _, rfl, by omega, by omega, dok, rfl⟩) fun p1 p2 => ?_
  refine ws_set2O 7 sc__law_numbers_right.nd (eo_call (k_leads T) (hr.mono (by decide)) rfl (av_cons (ev_var 0 rfl) (av_cons (ev_var 1 rfl) av_nil)) ⟨many, l, rfl, h2, h5, ok, rfl⟩) (fun p => eo_call (k_meetings T) (hr.mono (by decide)) rfl (av_cons (ev_var 0 rfl) (av_cons (ev_var 1 rfl) av_nil)) ⟨many, l, rfl, h2, h5, ok, rfl⟩) fun p3 p4 => ?_
  let EN0 : Sl → En := fun k => ⟨[.d (.int many), .d (tI l), .d (tI lot), .d (tI other), .d (tI (leftOf many l lot)), .no, .d (.lst [.v (.ref p1), .v (.ref p2)]), .d (.lst [.v (.ref p3), .v (.ref p4)]), k, .no, .no, .no, .no, .no, .no], []⟩
  let OO : Os := [(p1, .t (leadsD lot.length (leftOf many l lot))), (p2, .t (meetD lot.length (leftOf many l lot))), (p3, .t (leadsD many l)), (p4, .t (meetD many l))]
  have ixs : ∀ a : Int, 0 ≤ a → a < lot.length → atI (iL lot) a = some (D.int (lot.getD a.toNat 0)) := fun a h0 h1 => atI_to (n := a.toNat) (by omega) (atI_ints (by omega))
  refine ws_for (f := fun d env => env.put 8 (.d d)) (fun i => EN0 .no) (fun i => OO) rfl (iv_R1 rfl T.b_range ev_int (by decide)) (pg_name sc__law_numbers_right.nd rfl (.inl rfl)) (fun d _ => bns_name 8 d) (fun σ H g h => h.wk (.keep (.keep (.keep (.keep (.keep (.drop (.keep (.keep (.keep (.keep (.keep (.keep (.keep (.keep (.keep .nil)))))))))))))))) (fun gh i d hd => ?_) ?_
  · obtain ⟨rfl, hi⟩ := rg_at hd
    have hi2 : i = 0 ∨ i = 1 := by omega
    rcases hi2 with rfl | rfl
    · refine ws_forE (g := gTup K 2 (gCons (gName 9) (gCons (gName 10) gNil))) (f := fun d env => match d with | .tup [x, y] => (env.put 9 (.d x)).put 10 (.d y) | _ => env) 0 (q' := p1) (kvs := leadsD lot.length (leftOf many l lot)) (fun i => ⟨(EN0 (.d (.int 0))).s, [gh]⟩) (fun od i => OO.set 0 (p1, .z od (leadsD lot.length (leftOf many l lot)))) rfl (fun od => ev_ixL (el_of (ev_var 6 rfl)) (ev_var 8 rfl) (atI_to (n := 0) rfl (atI_nat rfl))) rfl (pg_tup rfl (pgs_cons (pg_name sc__law_numbers_right.nd rfl (.inl rfl)) (pgs_cons (pg_name sc__law_numbers_right.nd rfl (.inl rfl)) pgs_nil))) (fun z hz2 => ?_) (fun od i hi => rfl) (fun od σ H h => h) (fun od i z hz2 Dn' hnx => ?_) (fun od => ?_)
      · obtain ⟨a, b, x, rfl, _⟩ := W.lead z hz2
        exact bns_pairK 9 10 _ _
      · obtain ⟨a, b, x, rfl, ha, hb, hv, hv2⟩ := W.lead z (List.mem_of_getElem? hz2)
        refine ws_ifF (TV.to (tv_ne (ev_dgetE 0 (q' := p1) (ks := kI [a, b]) (un64 hr) (ev_ixL (el_of (ev_var 6 rfl)) (ev_var 8 rfl) (atI_to (n := 0) rfl (atI_nat rfl))) (.inr ⟨od, rfl⟩) (EV.to (ev_tup (av_cons (ev_var 9 rfl) (av_cons (ev_var 10 rfl) av_nil)) (sz_of (by simp))) (by rw [kI_d]; rfl)) hv rfl)
          (ev_dgetE 2 (q' := p3) (ks := kI [lot.getD a.toNat 0, lot.getD b.toNat 0]) (un64 hr) (ev_ixL (el_of (ev_var 7 rfl)) (ev_var 8 rfl) (atI_to (n := 0) rfl (atI_nat rfl))) (.inl rfl) (EV.to (ev_tup (av_cons (ev_ixU rfl (eu_of (ev_var 2 rfl)) (ev_var 9 rfl) (ixs a ha.1 ha.2)) (av_cons (ev_ixU rfl (eu_of (ev_var 2 rfl)) (ev_var 10 rfl) (ixs b hb.1 hb.2)) av_nil)) (sz_of (by simp))) (by rw [kI_d]; rfl)) hv2 rfl)) (by simp)) (ws_nil fun σ H h => ?_)
        rw [hnx]
        exact h.wk (.keep (.keep (.keep (.keep (.keep (.keep (.keep (.keep (.keep (.drop (.drop (.keep (.keep (.keep (.keep .nil)))))))))))))))
      · exact ws_nil fun σ H h => h.wk (.keep (.keep (.keep (.keep (.keep (.keep (.keep (.keep (.drop (.keep (.keep (.keep (.keep (.keep (.keep .nil)))))))))))))))
    · refine ws_forE (g := gTup K 2 (gCons (gName 9) (gCons (gName 10) gNil))) (f := fun d env => match d with | .tup [x, y] => (env.put 9 (.d x)).put 10 (.d y) | _ => env) 1 (q' := p2) (kvs := meetD lot.length (leftOf many l lot)) (fun i => ⟨(EN0 (.d (.int 1))).s, [gh]⟩) (fun od i => OO.set 1 (p2, .z od (meetD lot.length (leftOf many l lot)))) rfl (fun od => ev_ixL (el_of (ev_var 6 rfl)) (ev_var 8 rfl) (atI_to (n := 1) rfl (atI_nat rfl))) rfl (pg_tup rfl (pgs_cons (pg_name sc__law_numbers_right.nd rfl (.inl rfl)) (pgs_cons (pg_name sc__law_numbers_right.nd rfl (.inl rfl)) pgs_nil))) (fun z hz2 => ?_) (fun od i hi => rfl) (fun od σ H h => h) (fun od i z hz2 Dn' hnx => ?_) (fun od => ?_)
      · obtain ⟨a, b, x, rfl, _⟩ := W.meet z hz2
        exact bns_pairK 9 10 _ _
      · obtain ⟨a, b, x, rfl, ha, hb, hv, hv2⟩ := W.meet z (List.mem_of_getElem? hz2)
        refine ws_ifF (TV.to (tv_ne (ev_dgetE 1 (q' := p2) (ks := kI [a, b]) (un64 hr) (ev_ixL (el_of (ev_var 6 rfl)) (ev_var 8 rfl) (atI_to (n := 1) rfl (atI_nat rfl))) (.inr ⟨od, rfl⟩) (EV.to (ev_tup (av_cons (ev_var 9 rfl) (av_cons (ev_var 10 rfl) av_nil)) (sz_of (by simp))) (by rw [kI_d]; rfl)) hv rfl)
          (ev_dgetE 3 (q' := p4) (ks := kI [lot.getD a.toNat 0, lot.getD b.toNat 0]) (un64 hr) (ev_ixL (el_of (ev_var 7 rfl)) (ev_var 8 rfl) (atI_to (n := 1) rfl (atI_nat rfl))) (.inl rfl) (EV.to (ev_tup (av_cons (ev_ixU rfl (eu_of (ev_var 2 rfl)) (ev_var 9 rfl) (ixs a ha.1 ha.2)) (av_cons (ev_ixU rfl (eu_of (ev_var 2 rfl)) (ev_var 10 rfl) (ixs b hb.1 hb.2)) av_nil)) (sz_of (by simp))) (by rw [kI_d]; rfl)) hv2 rfl)) (by simp)) (ws_nil fun σ H h => ?_)
        rw [hnx]
        exact h.wk (.keep (.keep (.keep (.keep (.keep (.keep (.keep (.keep (.keep (.drop (.drop (.keep (.keep (.keep (.keep .nil)))))))))))))))
      · exact ws_nil fun σ H h => h.wk (.keep (.keep (.keep (.keep (.keep (.keep (.keep (.keep (.drop (.keep (.keep (.keep (.keep (.keep (.keep .nil)))))))))))))))
  · refine ws_if (p := decide ((2 : Int) < lot.length)) (tv_gt (ev_lenUm rfl rfl T.b_len (eu_of (ev_var 2 rfl))) ev_int) (fun hq => ?_) (fun hq => ws_go (ws_ret ev_bl q) rfl)
    have h3 : 2 < lot.length := by have := of_decide_eq_true hq; omega
    obtain ⟨t1, t2, t3, t4⟩ := W.two h3
    have hlast : atI (iL lot) (-1) = some (D.int (lot.getLastD 0)) := by
      have hne : lot ≠ [] := fun e => by rw [e] at h3; simp at h3
      conv => lhs; rw [← List.dropLast_concat_getLast hne]
      have e : iL (lot.dropLast ++ [lot.getLast hne]) = iL lot.dropLast ++ [D.int (lot.getLast hne)] := by simp [iL]
      rw [e, atI_m1]
      congr 2
      rw [List.getLastD_eq_getLast?, List.getLast?_eq_getLast hne]
      rfl
    refine ws_set 11 sc__law_numbers_right.nd (ev_ixU rfl (eu_of (ev_var 2 rfl)) (ev_neg ev_int) hlast) ?_
    refine ws_set 12 (d := tI (without lot (lot.getLastD 0))) sc__law_numbers_right.nd (EV.to (ev_tupL rfl T.b_tuple (EN.l (LC.n (lc_f 14 (f := D.int) (r := D.int) (cf := fun y => !decide (y = lot.getLastD 0)) (xs := lot) (ic_U rfl (eu_of (ev_var 2 rfl))) (blkOk_by (N := n__law_numbers_right) (sc := defScope s__law_numbers_right) (by decide +kernel)) (sz_lt (by omega)) (fun _ _ _ _ _ => pg_name sc__law_numbers_right.nd rfl (.inl rfl)) (fun y hy q acc s' H0 C cl fp => tv_ne (ev_var 14 rfl) (ev_var 11 rfl)) (fun y hy _ q acc s' H0 C cl fp => ev_var 14 rfl)) rfl sc__law_numbers_right.nd))) rfl) ?_
    refine ws_set 13 (d := tI (rng 0 (without lot (lot.getLastD 0)).length)) sc__law_numbers_right.nd (ev_tupR rfl rfl T.b_tuple (gv_1 rfl T.b_range (ev_lenUm rfl rfl T.b_len (eu_of (ev_var 12 rfl)))) (by have := t1.len' (by omega); simp only [RgOk]; omega)) ?_
    refine ws_ifF (TV.to (tv_neE (f := tI) (x := leftOf lot.length (leftOf many l lot) (rng 0 (without lot (lot.getLastD 0)).length)) (y := leftOf many l (without lot (lot.getLastD 0))) rfl (un64 hr) eqe_tI (by decide)
      (EV.f (ev_call (k_left_by T) (hr.mono (by decide)) rfl (av_cons (ev_lenUm rfl rfl T.b_len (eu_of (ev_var 2 rfl))) (av_cons (ev_var 4 rfl) (av_cons (ev_var 13 rfl) av_nil))) ⟨(lot.length : Int), _, _, rfl, by omega, by omega, dok, t3, by rw [rng_len]; omega, rfl⟩))
      (EV.f (ev_call (k_left_by T) (hr.mono (by decide)) rfl (av_cons (ev_var 0 rfl) (av_cons (ev_var 1 rfl) (av_cons (ev_var 12 rfl) av_nil))) ⟨many, l, _, rfl, h2, h5, ok, t1, t2, rfl⟩))) (by rw [t4]; simp)) ?_
    exact ws_go (ws_ret ev_bl q) rfl
end
end Q95
end
section
set_option Elab.async false
set_option linter.all false
set_option maxRecDepth 100000
set_option maxHeartbeats 4000000
namespace Q95
open PySem PySem.Spec PyProof.Rows L2 Mp
open Mi
section
variable {P : Program} {wl : World} {K : PySem.W.Frag} {mg : Str → Option Value} {base : Heap}
def R_told (k : Nat) : List D → D → Prop := fun ds d => ∃ (many : Int) (l : List Int), ds = [.int many, tI l] ∧ 2 ≤ many ∧ many ≤ 5 ∧ okD many l ∧ d = .lst ((toldOf k many l).map tI)
theorem pf_mono {K : PySem.W.Frag} {R R' : List D → D → Prop} (h : ∀ ds d, R' ds d → R ds d) : ∀ vs H Q E, PF K R' vs H Q E → PF K R vs H Q E := fun vs H Q E ⟨A, ds, d, a, b, c, e⟩ => ⟨A, ds, d, a, h _ _ b, c, e⟩
theorem told_sub {many : Int} {l : List Int} (k : Nat) (h0 : 0 ≤ many) (h5 : many ≤ 5) : (∀ x ∈ toldOf k many l, Lot many x) ∧ (toldOf k many l).length ≤ 32 := by
  have hl := allLots_len h0 h5
  unfold toldOf
  split
  · refine ⟨fun x hx => (allLots_iff h0).mp (List.mem_filter.mp hx).1, ?_⟩
    exact Nat.le_trans (List.length_filter_le _ _) hl
  · have key : ∀ (lots f : List (List Int)), (∀ x ∈ f, Lot many x) → (∀ x ∈ lots, Lot many x) → (∀ x ∈ lots.foldl (fun found lot => if !(found.any fun fewer => fewer.all fun d => decide (d ∈ lot)) && looseIn many l (complOf many lot) then found ++ [lot] else found) f, Lot many x) ∧ (lots.foldl (fun found lot => if !(found.any fun fewer => fewer.all fun d => decide (d ∈ lot)) && looseIn many l (complOf many lot) then found ++ [lot] else found) f).length ≤ f.length + lots.length := by
      intro lots
      induction lots with
      | nil => intro f h1 _; exact ⟨h1, by simp⟩
      | cons y lots ih =>
        intro f h1 h2
        rw [List.foldl_cons]
        have hy := h2 y (by simp)
        have hls : ∀ x ∈ lots, Lot many x := fun x hx => h2 x (by simp [hx])
        split
        · obtain ⟨a, b⟩ := ih (f ++ [y]) (fun x hx => by
            rcases List.mem_append.mp hx with hx | hx
            · exact h1 x hx
            · rw [List.mem_singleton.mp hx]; exact hy) hls
          refine ⟨a, ?_⟩
          simp only [List.length_append, List.length_cons, List.length_nil] at *
          omega
        · obtain ⟨a, b⟩ := ih f h1 hls
          refine ⟨a, ?_⟩
          simp only [List.length_cons]
          omega
    obtain ⟨a, b⟩ := key (allLots many).dropLast [] (fun x hx => by simp at hx) fun x hx => (allLots_iff h0).mp ((List.dropLast_sublist _).mem hx)
    refine ⟨a, ?_⟩
    have : (leastOf many l).length ≤ (allLots many).dropLast.length := by
      rw [List.length_nil, Nat.zero_add] at b
      exact b
    rw [List.length_dropLast] at this
    omega
def R__law_tangles_right : List D → D → Prop := fun ds d => ∃ (many : Int) (l : List Int), ds = [.int many, tI l] ∧ 2 ≤ many ∧ many ≤ 5 ∧ okD many l ∧ TangW many l ∧ d = .bl true
theorem k__law_tangles_right (T : Txt K mg) : Def P wl K mg base "_law_tangles_right" 11 (PF K R__law_tangles_right) := by
  refine def_pure T.h__law_tangles_right T.g__law_tangles_right sc__law_tangles_right T.bd__law_tangles_right (fun ds d ⟨_, _, h, _⟩ => by rw [h]; rfl) (by decide) fun cdv A outer s H E L Dn ds d hr hR q hn => ?_
  obtain ⟨many, l, rfl, h2, h5, ok, W, rfl⟩ := hR
  have hlln := lineOf_len many l
  refine ws_par3c 2 3 4 rfl (ev_call (k_tangles T) (hr.mono (by decide)) rfl (av_cons (ev_var 0 rfl) (av_cons (ev_var 1 rfl) av_nil)) ⟨many, l, rfl, h2, h5, ok, rfl⟩) (ev_call (k_least_leavings T) (hr.mono (by decide)) rfl (av_cons (ev_var 0 rfl) (av_cons (ev_var 1 rfl) av_nil)) ⟨many, l, rfl, h2, h5, ok, rfl⟩) (ev_call (k_end_order T) (hr.mono (by decide)) rfl (av_cons (ev_var 0 rfl) (av_cons (ev_var 1 rfl) av_nil)) ⟨many, l, rfl, h2, h5, ok, rfl⟩) ?_ (pg_tup rfl (pgs_cons (pg_name sc__law_tangles_right.nd rfl (.inl rfl)) (pgs_cons (pg_name sc__law_tangles_right.nd rfl (.inl rfl)) (pgs_cons (pg_name sc__law_tangles_right.nd rfl (.inr rfl)) pgs_nil))))
  obtain ⟨ft, fdt, pst, Ft, gt, kt, bt⟩ := k_tangles (P := P) (wl := wl) (base := base) T
  obtain ⟨fl, fdl, psl, Fl, gl, kl, bl⟩ := k_least_leavings (P := P) (wl := wl) (base := base) T
  have FT : FnOk P wl K mg base CX0 10 ft fdt pst (PF K (R_told 0)) := Ft.imp (pf_mono fun ds d ⟨m, l, a, b, c, e, f⟩ => ⟨m, l, a, b, c, e, f⟩)
  have FL : FnOk P wl K mg base CX0 10 fl fdl psl (PF K (R_told 1)) := (Fl.mono (by decide)).imp (pf_mono fun ds d ⟨m, l, a, b, c, e, f⟩ => ⟨m, l, a, b, c, e, f⟩)
  let I0 : En := ⟨[.d (.int many), .d (tI l), .d (.lst ((tanglesOf many l).map tI)), .d (.lst ((leastOf many l).map tI)), .d (tI (lineOf many l)), .no, .no, .no, .no, .no, .no], []⟩
  refine ws_forA 5 [ft, fl] (fun i => I0) (fun i => []) rfl (pa_cons (pe_def rfl gt) (pa_cons (pe_def rfl gl) pa_nil)) (fun σ H Q q => q) (sz_of (by simp)) (pg_name sc__law_tangles_right.nd rfl (.inl rfl)) (fun σ H g h => h) (fun gh i f hf => ?_) ?_
  · have hi : i < 2 := (List.getElem?_eq_some_iff.mp hf).1
    obtain ⟨fd, ps, F, hkp, hb⟩ : ∃ fd ps, FnOk P wl K mg base CX0 10 f fd ps (PF K (R_told i)) ∧ PySem.W.keepIn K (.ref f) = true ∧ Binds K fd ps [] := by
      have hi2 : i = 0 ∨ i = 1 := by omega
      rcases hi2 with rfl | rfl
      · injection hf with hf; subst hf; exact ⟨fdt, pst, FT, kt, bt⟩
      · injection hf with hf; subst hf; exact ⟨fdl, psl, FL, kl, bl⟩
    obtain ⟨hsub, hle⟩ := told_sub (l := l) i (show 0 ≤ many by omega) h5
    refine ws_set 6 (d := .lst ((toldOf i many l).map tI)) sc__law_tangles_right.nd (ev_callL 5 F hkp hb rfl (hr.mono (by decide)) (av_cons (ev_var 0 rfl) (av_cons (ev_var 1 rfl) av_nil)) ⟨many, l, rfl, h2, h5, ok, rfl⟩) ?_
    refine ws_set 8 (d := .lst ((sortedLots ((toldOf i many l).map fun lot => whereOf (lineOf many l) lot)).map tI)) sc__law_tangles_right.nd (ev_call (k__law_sorted_lots T) (hr.mono (by decide)) rfl (av_cons (EV.to (EN.v (LC.n (lc_n 7 (f := tI) (r := fun lot => tI (whereOf (lineOf many l) lot)) (xs := toldOf i many l) (ic_L (el_of (ev_var 6 rfl))) (blkOk_by (N := n__law_tangles_right) (sc := defScope s__law_tangles_right) (by decide +kernel)) (sz_lt (by omega)) (fun _ _ _ _ _ => pg_name sc__law_tangles_right.nd rfl (.inl rfl))
      (fun x hx q acc s' H0 C cl fp => ev_call (k__law_where T) (hr.mono (by decide)) rfl (av_cons (ev_var 4 rfl) (av_cons (ev_var 7 rfl) av_nil)) ⟨lineOf many l, x, rfl, by omega, rfl⟩)) rfl sc__law_tangles_right.nd)) (by rw [List.map_map]; rfl)) av_nil) ⟨(toldOf i many l).map fun lot => whereOf (lineOf many l) lot, rfl, by rw [List.length_map]; omega, rfl⟩) ?_
    refine ws_ifF (TV.to (tv_or2 (tv_neE (f := fun x : List (List Int) => D.lst (x.map tI)) (x := toldOf i many (undo l)) (y := sortedLots ((toldOf i many l).map fun lot => whereOf (lineOf many l) lot)) rfl (un64 hr) (eqe_lst eqe_tI) (by decide)
        (EV.f (ev_callL 5 F hkp hb rfl (hr.mono (by decide)) (av_cons (ev_var 0 rfl) (av_cons (ev_call (k_undone T) (hr.mono (by decide)) rfl (av_cons (ev_var 0 rfl) (av_cons (ev_var 1 rfl) av_nil)) ⟨many, l, rfl, h2, h5, ok, rfl⟩) av_nil)) ⟨many, undo l, rfl, h2, h5, undo_ok ok, rfl⟩)) (EV.f (ev_var 8 rfl)))
      (fun _ => tv_neE (f := fun x : List (List Int) => D.lst (x.map tI)) (x := toldOf i many (mir l)) (y := toldOf i many l) rfl (un64 hr) (eqe_lst eqe_tI) (by decide)
        (EV.f (ev_callL 5 F hkp hb rfl (hr.mono (by decide)) (av_cons (ev_var 0 rfl) (av_cons (ev_call (k_mirrored T) (hr.mono (by decide)) rfl (av_cons (ev_var 0 rfl) (av_cons (ev_var 1 rfl) av_nil)) ⟨many, l, rfl, h2, h5, ok, rfl⟩) av_nil)) ⟨many, mir l, rfl, h2, h5, mir_ok ok, rfl⟩)) (EV.f (ev_var 6 rfl)))) (by rw [W.und i hi, W.mir i hi]; simp)) ?_
    refine ws_set 8 (d := .lst ((sortedLots ((toldOf i many l).map fun lot => backLot many lot)).map tI)) sc__law_tangles_right.nd (ev_call (k__law_sorted_lots T) (hr.mono (by decide)) rfl (av_cons (EV.to (EN.v (LC.n (lc_n 7 (f := tI) (r := fun lot => tI (backLot many lot)) (xs := toldOf i many l) (ic_L (el_of (ev_var 6 rfl))) (blkOk_by (N := n__law_tangles_right) (sc := defScope s__law_tangles_right) (by decide +kernel)) (sz_lt (by omega)) (fun _ _ _ _ _ => pg_name sc__law_tangles_right.nd rfl (.inl rfl))
      (fun x hx q acc s' H0 C cl fp => ?_)) rfl sc__law_tangles_right.nd)) (by rw [List.map_map]; rfl)) av_nil) ⟨(toldOf i many l).map fun lot => backLot many lot, rfl, by rw [List.length_map]; omega, rfl⟩) ?_
    · obtain ⟨bs1, bs2⟩ := back_sorted (hsub x hx)
      have hxl := (hsub x hx).len' (by omega)
      exact ev_tupL rfl T.b_tuple (EN.l (en_sortI (l := x.map fun d => many - 1 - d) (m := backLot many x) rfl rfl T.b_sorted (EL.to (EN.l (LC.n (lc_n 9 (f := D.int) (r := fun d => D.int (many - 1 - d)) (xs := x) (ic_U rfl (eu_of (ev_var 7 rfl))) (blkOk_by (N := n__law_tangles_right) (sc := relS ⟨.function, [(".0", .local), ("_law_lot_here", .local), ("tuple", .globalImplicit), ("sorted", .globalImplicit), ("_law_many", .free)], false, false, []⟩ (defScope s__law_tangles_right)) (by decide +kernel)) (sz_lt (by omega)) (fun _ _ _ _ _ => pg_name sc__law_tangles_right.nd rfl (.inl rfl))
        (fun y hy q acc s' H0 C cl fp => ev_sub (ev_sub (ev_var 0 rfl) ev_int) (ev_var 9 rfl))) rfl sc__law_tangles_right.nd)) (by rw [iL, List.map_map]; rfl)) bs2 bs1))
    · refine ws_ifF (TV.to (tv_neE (f := fun x : List (List Int) => D.lst (x.map tI)) (x := toldOf i many (turn many l)) (y := sortedLots ((toldOf i many l).map fun lot => backLot many lot)) rfl (un64 hr) (eqe_lst eqe_tI) (by decide)
        (EV.f (ev_callL 5 F hkp hb rfl (hr.mono (by decide)) (av_cons (ev_var 0 rfl) (av_cons (ev_call (k_turned_about T) (hr.mono (by decide)) rfl (av_cons (ev_var 0 rfl) (av_cons (ev_var 1 rfl) av_nil)) ⟨many, l, rfl, h2, h5, ok, rfl⟩) av_nil)) ⟨many, turn many l, rfl, h2, h5, turn_ok ok, rfl⟩)) (EV.f (ev_var 8 rfl))) (by rw [W.trn i hi]; simp)) (ws_nil fun σ H h => ?_)
      exact h.wk (.keep (.keep (.keep (.keep (.keep (.drop (.drop (.keep (.drop (.keep (.keep .nil)))))))))))
  · obtain ⟨hsubT, hleT⟩ := told_sub (l := l) 0 (show 0 ≤ many by omega) h5
    obtain ⟨hsubL, hleL⟩ := told_sub (l := l) 1 (show 0 ≤ many by omega) h5
    change ∀ x ∈ tanglesOf many l, Lot many x at hsubT
    change (tanglesOf many l).length ≤ 32 at hleT
    change (leastOf many l).length ≤ 32 at hleL
    refine ws_for (f := fun d env => env.put 7 (.d d)) (ds := (leastOf many l).map tI) (fun i => I0) (fun i => []) rfl (iv_L (ev_var 3 rfl)) (pg_name sc__law_tangles_right.nd rfl (.inr rfl)) (fun d _ => bns_name 7 d) (fun σ H g h => h) (fun gh i d hd => ?_) ?_
    · obtain ⟨lot, hlot, rfl⟩ := get_map hd
      have hmt := W.meet lot (List.mem_of_getElem? hlot)
      have hnil : ((tanglesOf many l).filter fun knot => decide ((knot.filter fun d => decide (d ∈ lot)) = [])) = [] := by
        rw [List.filter_eq_nil_iff]
        intro knot hk
        simpa using hmt knot hk
      refine ws_ifF (TV.to (tv_neE (f := fun x : List (List Int) => D.lst (x.map tI)) (x := (tanglesOf many l).filter fun knot => decide ((knot.filter fun d => decide (d ∈ lot)) = [])) (y := []) rfl (un64 hr) (eqe_lst eqe_tI) (by decide)
        (EV.f (EN.v (LC.n (lc_f 10 (f := tI) (r := tI) (cf := fun knot => decide ((knot.filter fun d => decide (d ∈ lot)) = [])) (xs := tanglesOf many l) (ic_L (el_of (ev_var 2 rfl))) (blkOk_by (N := n__law_tangles_right) (sc := defScope s__law_tangles_right) (by decide +kernel)) (sz_lt (by omega)) (fun _ _ _ _ _ => pg_name sc__law_tangles_right.nd rfl (.inl rfl)) (fun x hx q acc s' H0 C cl fp => ?_) (fun x hx _ q acc s' H0 C cl fp => ev_var 10 rfl)) rfl sc__law_tangles_right.nd))) (EV.f (ev_lst av_nil (sz_of (by simp))))) (by rw [hnil]; rfl)) (ws_nil fun σ H h => ?_)
      · have hxl := (hsubT x hx).len' (by omega)
        exact tv_eqE (f := lI) (x := x.filter fun d => decide (d ∈ lot)) (y := []) rfl (un64 hr) eqe_lI (by decide) (EL.f (EN.l (LC.n (lc_f 9 (f := D.int) (r := D.int) (cf := fun d => decide (d ∈ lot)) (xs := x) (ic_U rfl (eu_of (ev_var 10 rfl))) (blkOk_by (N := n__law_tangles_right) (sc := relS ⟨.function, [(".0", .local), ("_law_knot", .local), ("_law_lot_here", .free)], false, false, []⟩ (defScope s__law_tangles_right)) (by decide +kernel)) (sz_lt (by omega)) (fun _ _ _ _ _ => pg_name sc__law_tangles_right.nd rfl (.inl rfl))
          (fun y hy q acc s' H0 C cl fp => tv_inU rfl (ev_var 9 rfl) (eu_of (ev_var 7 rfl))) (fun y hy _ q acc s' H0 C cl fp => ev_var 9 rfl)) rfl sc__law_tangles_right.nd))) (EV.f (ev_lst av_nil (sz_of (by simp))))
      · exact h.wk (.keep (.keep (.keep (.keep (.keep (.keep (.keep (.drop (.keep (.keep (.keep .nil)))))))))))
    · refine ws_ret (EV.to (ev_and2 (ev_eqB (ev_call (k_is_woven T) (hr.mono (by decide)) rfl (av_cons (ev_var 0 rfl) (av_cons (ev_var 1 rfl) av_nil)) ⟨many, l, rfl, h2, h5, ok, rfl⟩) (ev_eqE (f := fun x : List (List Int) => D.lst (x.map tI)) (x := tanglesOf many l) (y := [rng 0 many]) rfl (un64 hr) (eqe_lst eqe_tI) (by decide) (EV.f (ev_var 2 rfl)) (EV.f (ev_lst (av_cons (ev_tupR rfl rfl T.b_tuple (gv_1 rfl T.b_range (ev_var 0 rfl)) (by simp only [RgOk]; omega)) av_nil) (sz_of (by simp))))))
        (fun _ => ev_eqB (ev_eqE (f := fun x : List (List Int) => D.lst (x.map tI)) (x := tanglesOf many l) (y := []) rfl (un64 hr) (eqe_lst eqe_tI) (by decide) (EV.f (ev_var 2 rfl)) (EV.f (ev_lst av_nil (sz_of (by simp)))))
          (ev_eqE (f := fun x : List (List Int) => D.lst (x.map tI)) (x := leastOf many l) (y := [[]]) rfl (un64 hr) (eqe_lst eqe_tI) (by decide) (EV.f (ev_var 3 rfl)) (EV.f (ev_lst (av_cons ev_tup0 av_nil) (sz_of (by simp))))))) ?_) q
      rw [W.non]
      simp [wovenB]
end
end Q95
end
section
set_option Elab.async false
set_option linter.all false
set_option maxRecDepth 100000
set_option maxHeartbeats 4000000
namespace Q95
open PySem PySem.Spec PyProof.Rows L2 Mp
open Mi
section
variable {P : Program} {wl : World} {K : PySem.W.Frag} {mg : Str → Option Value} {base : Heap}
def P__law_some : List D → Prop := fun ds => ∃ m : Int, ds = [.int m] ∧ 2 ≤ m ∧ m ≤ 5
def R__law_some : List D → D → Prop := fun ds x => ∃ (m : Int) (l : List Int), ds = [.int m] ∧ x = tI l ∧ (∀ s ∈ l, okS m s) ∧ l.length ≤ 100
theorem dance_is {m most : Int} {x : D} (h : R__law_dance [.int m, .int most] x) : ∃ l : List Int, x = tI l ∧ (∀ s ∈ l, okS m s) ∧ (l.length : Int) ≤ most := by
  obtain ⟨m', most', l, e, rfl, h1, h2⟩ := h
  injection e with e e2
  injection e with e
  injection e with e
  injection e2 with e2 _
  injection e2 with e2
  injection e2 with e2
  subst e e2
  exact ⟨l, rfl, h1, h2⟩
theorem k__law_some (T : Txt K mg) : Def P wl K mg base "_law_some" 4 (PD K P__law_some R__law_some) := by
  refine def_draw T.h__law_some T.g__law_some sc__law_some T.bd__law_some (fun ds ⟨_, h, _⟩ => by rw [h]; rfl) (by decide) fun cdv A outer s HH E L Dn ds d la c cs hd hla DR hr hP q hn => ?_
  obtain ⟨m, rfl, h2, h5⟩ := hP
  refine ws_parX 2 3 rfl sc__law_some.nd (by decide) (EX.mono (ex_callD DR 0 rfl (k__law_dance T) hr rfl (av_cons (ev_var 1 rfl) (av_cons ev_int av_nil)) ⟨m, 3, rfl, h2, h5, by decide, by decide⟩) (fun x hx => dance_is hx)) (EX.mono (ex_callD DR 0 rfl (k__law_dance T) hr rfl (av_cons (ev_var 1 rfl) (av_cons ev_int av_nil)) ⟨m, 3, rfl, h2, h5, by decide, by decide⟩) (fun x hx => dance_is hx)) ?_
  rintro _ _ ⟨one, rfl, o1, o2⟩ ⟨other, rfl, p1, p2⟩
  refine ws_setX (R := fun x => ∃ v : Int, x = tI [v, v] ∧ okS m v) 4 sc__law_some.nd (EX.mono (ex_repU (RA := fun x => ∃ v : Int, x = tI [v] ∧ okS m v) rfl (EX.mono (ex_tup (ax_cons (EX.mono (R' := fun x => ∃ v : Int, x = D.int v ∧ okS m v) (ex_callD DR 0 rfl (k__law_pick T) hr rfl (av_cons (ev_lstR rfl rfl T.b_list (gv_2 rfl T.b_range ev_int (ev_var 1 rfl)) (by simp only [RgOk]; omega)) av_nil) ⟨_, rfl, by rw [List.length_map]; simp [Mp.rg]; omega, by rw [List.length_map]; simp [Mp.rg]; omega⟩) (fun x hx => ?_)) ax_nil) (fun ds h => ?_)) (fun x hx => ?_)) (fun x hx => ?_) ev_int (by decide) (by decide)) (fun x hx => ?_)) ?_
  · obtain ⟨dl, e, hx⟩ := hx
    injection e with e _
    injection e with e
    rw [← e] at hx
    obtain ⟨v, hv, rfl⟩ := List.mem_map.mp hx
    have := mem_rng.mp hv
    exact ⟨v, rfl, by simp only [okS]; omega⟩
  · obtain ⟨d, ds', rfl, _, rfl⟩ := h
    exact sz_of (by simp)
  · obtain ⟨ds, rfl, d, ds', rfl, ⟨v, rfl, hv⟩, rfl⟩ := hx
    exact ⟨v, rfl, hv⟩
  · obtain ⟨v, rfl, hv⟩ := hx
    exact ⟨_, rfl, by simp [iL], by simp [iL]⟩
  · obtain ⟨ds, ⟨v, e, hv⟩, rfl⟩ := hx
    injection e with e
    subst e
    exact ⟨v, rfl, hv⟩
  · rintro _ ⟨v, rfl, hv⟩
    have tb : ∀ {y : List Int}, y.length ≤ 100000 → ∀ {w : Wd} {X : Cx} {env : En} {O : Os} {a : Expr} {p pos : Pos}, X.prog = P → True := fun _ => fun _ => trivial
    refine ws_set 5 (d := tI (undo one ++ [v, v] ++ one)) sc__law_some.nd (EV.to (ev_catU rfl (eu_of (ev_catU rfl (eu_of (ev_call (k__law_turn_back T) (hr.mono (by decide)) rfl (av_cons (ev_var 2 rfl) av_nil) ⟨one, rfl, by omega, rfl⟩)) (eu_of (ev_var 4 rfl)) ?_)) (eu_of (ev_var 2 rfl)) ?_) ?_) ?_
    · simp only [List.length_map, undo, List.length_reverse, List.length_cons, List.length_nil]; exact sz_of (by omega)
    · simp only [List.length_append, List.length_map, undo, List.length_reverse, List.length_cons, List.length_nil]; exact sz_of (by omega)
    · simp [iL]
    refine ws_set 6 (d := tI (undo other ++ [v, v] ++ other)) sc__law_some.nd (EV.to (ev_catU rfl (eu_of (ev_catU rfl (eu_of (ev_call (k__law_turn_back T) (hr.mono (by decide)) rfl (av_cons (ev_var 3 rfl) av_nil) ⟨other, rfl, by omega, rfl⟩)) (eu_of (ev_var 4 rfl)) ?_)) (eu_of (ev_var 3 rfl)) ?_) ?_) ?_
    · simp only [List.length_map, undo, List.length_reverse, List.length_cons, List.length_nil]; exact sz_of (by omega)
    · simp only [List.length_append, List.length_map, undo, List.length_reverse, List.length_cons, List.length_nil]; exact sz_of (by omega)
    · simp [iL]
    have ok1 : ∀ y : List Int, (∀ s ∈ y, okS m s) → ∀ s ∈ undo y ++ [v, v] ++ y, okS m s := fun y hy s hs => by
      simp only [List.mem_append, List.mem_cons, List.not_mem_nil, or_false] at hs
      rcases hs with (hs | rfl | rfl) | hs
      · unfold undo at hs
        obtain ⟨t, ht, rfl⟩ := List.mem_map.mp hs
        have := hy t (List.mem_reverse.mp ht)
        simp only [okS] at *
        omega
      · exact hv
      · exact hv
      · exact hy s hs
    have ok1u : ∀ y : List Int, (∀ s ∈ y, okS m s) → ∀ s ∈ undo y, okS m s := fun y hy s hs => by
      unfold undo at hs
      obtain ⟨t, ht, rfl⟩ := List.mem_map.mp hs
      have := hy t (List.mem_reverse.mp ht)
      simp only [okS] at *
      omega
    have q1 := ok1 one o1
    have q2 := ok1 other p1
    have n1 : (undo one ++ [v, v] ++ one).length ≤ 8 := by simp only [undo, List.length_append, List.length_map, List.length_reverse, List.length_cons, List.length_nil]; omega
    have n2 : (undo other ++ [v, v] ++ other).length ≤ 8 := by simp only [undo, List.length_append, List.length_map, List.length_reverse, List.length_cons, List.length_nil]; omega
    generalize undo one ++ [v, v] ++ one = F at q1 n1
    generalize undo other ++ [v, v] ++ other = G at q2 n2
    have ul : ∀ y : List Int, (undo y).length = y.length := fun y => by simp [undo]
    refine ws_set 7 (d := tI (F ++ G ++ undo F ++ undo G)) sc__law_some.nd (EV.to (ev_catU rfl (eu_of (ev_catU rfl (eu_of (ev_catU rfl (eu_of (ev_var 5 rfl)) (eu_of (ev_var 6 rfl)) ?_)) (eu_of (ev_call (k__law_turn_back T) (hr.mono (by decide)) rfl (av_cons (ev_var 5 rfl) av_nil) ⟨F, rfl, by omega, rfl⟩)) ?_)) (eu_of (ev_call (k__law_turn_back T) (hr.mono (by decide)) rfl (av_cons (ev_var 6 rfl) av_nil) ⟨G, rfl, by omega, rfl⟩)) ?_) ?_) ?_
    · simp only [List.length_map]; exact sz_of (by omega)
    · simp only [List.length_append, List.length_map, ul]; exact sz_of (by omega)
    · simp only [List.length_append, List.length_map, ul]; exact sz_of (by omega)
    · simp [iL]
    refine ws_retX (R := fun x => ∃ l : List Int, x = tI l ∧ (∀ s ∈ l, okS m s) ∧ l.length ≤ 100) (EX.mono (ex_callDX DR 0 rfl (k__law_pick T) hr rfl (ax_cons (ex_lst (ax_cons (EX.mono (ex_callD DR 0 rfl (k__law_dance T) hr rfl (av_cons (ev_var 1 rfl) (av_cons ev_int av_nil)) ⟨m, 8, rfl, h2, h5, by decide, by decide⟩) (fun x hx => dance_is hx)) (ax_cons (EX.mono (ex_callD DR 0 rfl (k__law_dance T) hr rfl (av_cons (ev_var 1 rfl) (av_cons ev_int av_nil)) ⟨m, 8, rfl, h2, h5, by decide, by decide⟩) (fun x hx => dance_is hx)) (AV.ax (av_cons (ev_var 5 rfl) (av_cons (ev_var 7 rfl) av_nil))))) (fun ds h => ?_)) ax_nil) (fun ds h => ?_)) (fun x hx => ?_)) (fun x hx => ?_)
    · obtain ⟨d, ds', rfl, _, d2, ds2, rfl, _, rfl⟩ := h
      exact sz_of (by simp)
    · obtain ⟨d, ds', rfl, ⟨dl, rfl, d1, ds1, rfl, _, d2, ds2, rfl, _, rfl⟩, rfl⟩ := h
      exact ⟨_, rfl, by simp, by simp⟩
    · obtain ⟨ds, ⟨d, ds', rfl, ⟨dl, rfl, d1, ds1, rfl, ⟨l1, rfl, a1, a2⟩, d2, ds2, rfl, ⟨l2, rfl, b1, b2⟩, rfl⟩, rfl⟩, dl', e, hx⟩ := hx
      injection e with e _
      injection e with e
      rw [← e] at hx
      simp only [List.mem_cons, List.not_mem_nil, or_false] at hx
      rcases hx with rfl | rfl | rfl | rfl
      · exact ⟨l1, rfl, a1, by omega⟩
      · exact ⟨l2, rfl, b1, by omega⟩
      · exact ⟨F, rfl, q1, by omega⟩
      · refine ⟨F ++ G ++ undo F ++ undo G, rfl, fun s hs => ?_, by simp only [List.length_append, ul]; omega⟩
        simp only [List.mem_append] at hs
        rcases hs with ((hs | hs) | hs) | hs
        · exact q1 s hs
        · exact q2 s hs
        · exact ok1u F q1 s hs
        · exact ok1u G q2 s hs
    · obtain ⟨l, rfl, a1, a2⟩ := hx
      exact q _ ⟨m, l, rfl, rfl, a1, a2⟩
end
end Q95
end
section
set_option Elab.async false
set_option linter.all false
set_option maxRecDepth 100000
set_option maxHeartbeats 4000000
namespace Q95
open PySem PySem.Spec PyProof.Rows L2 Mp
open Mi
section
variable {P : Program} {wl : World} {K : PySem.W.Frag} {mg : Str → Option Value} {base : Heap}
/-- the plain law -/
def Plain : Prop := ∀ (many : Int) (l other : List Int), 2 ≤ many → many ≤ 5 → okW many l → okW many other → TangW many l ∧ ∀ lot, Lot many lot → 2 ≤ lot.length → SideW many l lot ∧ NumW many l lot other
def spLaw (K : PySem.W.Frag) : Sp := fun vs H Q _ => ∃ (a : Addr) (ns : List Int), vs = [.ref a] ∧ SqL K H a (ns.map V.int) ∧ ns.length ≤ 63 ∧ ∀ H', Q (.bl true) H'
theorem law_ok1 (pl : Plain) (T : Txt K mg) : FnOk P wl K mg base CX0 12 T.f_law T.d_law ["_law_script"] (spLaw K) := by
  refine T.h_law.ok sc_law (fun vs H Q E h => ?_) (fun cdv A outer s H vs Q E hr h => ?_)
  · obtain ⟨a, ns, rfl, _⟩ := h
    rfl
  · obtain ⟨a, ns, rfl, hS, hlen, q⟩ := h
    have s0 := sd_startA (K := K) (H := H) (N := n_law) (a := a) (by decide)
    refine ⟨_, pss_c, (?_ : WPS (pw K [] H) (BX P wl K mg base n_law "law" s_law T.f_law cdv A outer s H E) ⟨[.a a, .no, .no, .no, .no, .no, .no, .no, .no], []⟩ [] (defBody s_law) { nx := fun _ H' => Q .non H', rt := Q }) _ H s0⟩
    refine ws_begin2 (n := 0) (i := 1) rfl sc_law.nd (by decide) rfl hS (by omega) (k__law_begun T) (hr.mono (by decide)) rfl fun d la c cs H' hd hla DR hS2 => ?_
    have hS3 : ∀ {env : En} {O : Os} σ H2, Sd (dw K [d, la, c] H' d la c hd hla) env O σ H2 → SqL K H2 a (ns.map V.int) := fun σ H2 h => hS2 H2 fun b o hb e => h.ex b o hb e
    refine ws_forG (ds := iL (Mp.rg 0 (1 + min (ns.length : Int) 2))) (g := gName 2) (f := fun d env => env.put 2 (.d d)) (fun gh i σ H2 => ∃ x2 x3 x4 x5 x6 x7 x8, Sd (dw K [d, la, c] H' d la c hd hla) ((⟨[.a a, .a d, x2, x3, x4, x5, x6, x7, x8], []⟩ : En).tell gh) [] σ H2) rfl (iv_R1 rfl T.b_range (ev_add ev_int (ev_min2 rfl rfl T.b_min (ev_lenS (n := 0) rfl rfl T.b_len hS3) ev_int)) (by omega)) (pg_name sc_law.nd rfl (.inl rfl)) (fun d _ => bns_name 2 d) (fun gh σ H h => ⟨_, _, _, _, _, _, _, h⟩) (fun gh i σ H _ h => by obtain ⟨x2, x3, x4, x5, x6, x7, x8, h⟩ := h; exact ⟨_, _, h⟩) (fun gh i dd hdd σ H h => ?_) (fun gh σ H h => ?_)
    · obtain ⟨x2, x3, x4, x5, x6, x7, x8, h⟩ := h
      refine ⟨_, _, h, ?_⟩
      refine ws_setX (R := fun x => ∃ m : Int, x = .int m ∧ 2 ≤ m ∧ m ≤ 5) 3 sc_law.nd (EX.mono (ex_callD DR 1 rfl (k__law_pick T) (hr.mono (by decide)) rfl (av_cons (ev_lst (av_cons ev_int (av_cons ev_int (av_cons ev_int (av_cons ev_int av_nil)))) (sz_of (by simp))) av_nil) ⟨_, rfl, by simp, by simp⟩) (fun x hx => ?_)) ?_
      · obtain ⟨dl, e, hx⟩ := hx
        injection e with e _
        injection e with e
        rw [← e] at hx
        simp only [List.mem_cons, List.not_mem_nil, or_false] at hx
        rcases hx with rfl | rfl | rfl | rfl
        · exact ⟨3, rfl, by decide, by decide⟩
        · exact ⟨4, rfl, by decide, by decide⟩
        · exact ⟨4, rfl, by decide, by decide⟩
        · exact ⟨5, rfl, by decide, by decide⟩
      · rintro _ ⟨m, rfl, h2, h5⟩
        refine ws_parX 4 5 rfl sc_law.nd (by decide) (EX.mono (R' := fun x => ∃ l : List Int, x = tI l ∧ okW m l) (ex_callD DR 1 rfl (k__law_some T) (hr.mono (by decide)) rfl (av_cons (ev_var 3 rfl) av_nil) ⟨m, rfl, h2, h5⟩) (fun x hx => ?_))
          (EX.mono (R' := fun x => ∃ l : List Int, x = tI l ∧ okW m l) (ex_callD DR 1 rfl (k__law_dance T) (hr.mono (by decide)) rfl (av_cons (ev_var 3 rfl) (av_cons ev_int av_nil)) ⟨m, 5, rfl, h2, h5, by decide, by decide⟩) (fun x hx => ?_)) ?_
        · obtain ⟨m', l, e, rfl, h1, hl⟩ := hx
          injection e with e _
          injection e with e
          injection e with e
          subst e
          exact ⟨l, rfl, h1, by omega⟩
        · obtain ⟨l, rfl, h1, hl⟩ := dance_is hx
          exact ⟨l, rfl, h1, by omega⟩
        · rintro _ _ ⟨l, rfl, okl⟩ ⟨other, rfl, oko⟩
          obtain ⟨TW, SW⟩ := pl m l other h2 h5 okl oko
          refine ws_forG (ds := iL (Mp.rg 0 3)) (g := gName 6) (f := fun d env => env.put 6 (.d d)) (fun gh2 i2 σ H2 => ∃ x6 x7 x8, Sd (dw K [d, la, c] H' d la c hd hla) ((⟨[.a a, .a d, .d dd, .d (.int m), .d (tI l), .d (tI other), x6, x7, x8], [gh]⟩ : En).tell gh2) [] σ H2) rfl (iv_R1 rfl T.b_range ev_int (by decide)) (pg_name sc_law.nd rfl (.inl rfl)) (fun d _ => bns_name 6 d) (fun gh σ H h => ⟨_, _, _, h⟩) (fun gh i σ H _ h => by obtain ⟨x6, x7, x8, h⟩ := h; exact ⟨_, _, h⟩) (fun gh2 i2 dd2 hdd2 σ H h => ?_) (fun gh2 σ H h => ?_)
          · obtain ⟨x6, x7, x8, h⟩ := h
            refine ⟨_, _, h, ?_⟩
            have hle := allLots_len (many := m) (by omega) h5
            refine ws_setX (R := fun x => ∃ lot : List Int, x = tI lot ∧ Lot m lot ∧ 2 ≤ lot.length) 7 sc_law.nd (EX.mono (ex_callD DR 1 rfl (k__law_pick T) (hr.mono (by decide)) rfl (av_cons (EN.v (LC.n (lc_f 8 (f := tI) (r := tI) (cf := fun x => decide ((1 : Int) < (x : List Int).length)) (xs := allLots m) (ic_L (el_of (ev_call (k__law_lots T) (hr.mono (by decide)) rfl (av_cons (ev_var 3 rfl) av_nil) ⟨m, rfl, by omega, h5, rfl⟩))) (blkOk_by (N := n_law) (sc := defScope s_law) (by decide +kernel)) (sz_lt (by omega)) (fun _ _ _ _ _ => pg_name sc_law.nd rfl (.inl rfl))
              (fun x hx q acc s' H0 C cl fp => tv_gt (ev_lenUm rfl rfl T.b_len (eu_of (ev_var 8 rfl))) ev_int) (fun x hx _ q acc s' H0 C cl fp => ev_var 8 rfl)) rfl sc_law.nd)) av_nil) ⟨_, rfl, ?_, ?_⟩) (fun x hx => ?_)) ?_
            · rw [List.length_map]
              refine List.length_pos_of_mem (a := [0, 1]) (List.mem_filter.mpr ⟨(allLots_iff (by omega)).mpr ⟨by simp, fun x hx => ?_⟩, rfl⟩)
              simp only [List.mem_cons, List.not_mem_nil, or_false] at hx
              rcases hx with rfl | rfl <;> omega
            · rw [List.length_map]
              exact Nat.le_trans (List.length_filter_le _ _) (by omega)
            · obtain ⟨dl, e, hx⟩ := hx
              injection e with e _
              injection e with e
              rw [← e] at hx
              obtain ⟨lot, hlot, rfl⟩ := List.mem_map.mp hx
              obtain ⟨b1, b2⟩ := List.mem_filter.mp hlot
              have b2 := of_decide_eq_true b2
              exact ⟨lot, rfl, (allLots_iff (by omega)).mp b1, by omega⟩
            · rintro _ ⟨lot, rfl, hL, h2l⟩
              obtain ⟨W1, W2⟩ := SW lot hL h2l
              refine ws_ifF (TV.to (tv_not (tv_val (ev_call (k__law_sides_right T) (hr.mono (by decide)) rfl (av_cons (ev_var 3 rfl) (av_cons (ev_var 4 rfl) (av_cons (ev_var 7 rfl) av_nil))) ⟨m, l, lot, rfl, h2, h5, okl.d, W1, rfl⟩))) rfl) ?_
              refine ws_ifF (TV.to (tv_not (tv_val (ev_call (k__law_numbers_right T) (hr.mono (by decide)) rfl (av_cons (ev_var 3 rfl) (av_cons (ev_var 4 rfl) (av_cons (ev_var 7 rfl) (av_cons (ev_var 5 rfl) av_nil)))) ⟨m, l, lot, other, rfl, h2, h5, okl, oko, W2, rfl⟩))) rfl) ?_
              exact ws_nil fun σ H h => ⟨_, _, _, h⟩
          · obtain ⟨x6, x7, x8, h⟩ := h
            refine (?_ : WPS (dw K [d, la, c] H' d la c hd hla) _ _ _ _ _) σ H h.hush
            refine ws_ifF (TV.to (tv_not (tv_val (ev_call (k__law_tangles_right T) (hr.mono (by decide)) rfl (av_cons (ev_var 3 rfl) (av_cons (ev_var 4 rfl) av_nil)) ⟨m, l, rfl, h2, h5, okl.d, TW, rfl⟩))) rfl) ?_
            exact ws_nil fun σ H h => ⟨_, _, _, _, _, _, _, h⟩
    · obtain ⟨x2, x3, x4, x5, x6, x7, x8, h⟩ := h
      refine (?_ : WPS (dw K [d, la, c] H' d la c hd hla) _ _ _ _ _) σ H h.hush
      exact ws_ret ev_bl (fun v H2 _ _ _ r => by rw [rp_bl r]; exact q H2)
end
end Q95
end
section
set_option linter.all false
set_option maxRecDepth 100000
/-! P1: what a widened dance leaves: the widened dance of the counts. -/
namespace Mi
open Mp
def cs (S L : List Int) : Int := ((L.filter (· ∈ S)).length : Int)
theorem cs_app (S L M : List Int) : cs S (L ++ M) = cs S L + cs S M := by simp [cs]
theorem cs_cons (S : List Int) (x : Int) (L : List Int) : cs S (x :: L) = (if x ∈ S then 1 else 0) + cs S L := by
  unfold cs
  rw [List.filter_cons]
  by_cases h : x ∈ S
  · simp [h]; omega
  · simp [h]
theorem cs_nil (S : List Int) : cs S [] = 0 := rfl
theorem cs_nn (S L : List Int) : 0 ≤ cs S L := Int.natCast_nonneg _
theorem left_swp (S p q e : List Int) (x y s : Int) (h : s.natAbs = p.length + 1) : leftStep S (p ++ x :: y :: q, e) s = (p ++ y :: x :: q, e ++ if x ∈ S ∧ y ∈ S then [sgn s * (cs S p + 1)] else []) := by
  unfold leftStep
  simp only [h]
  rw [swp_app, Nat.add_sub_cancel, getD_app0, getD_app1]
  by_cases hx : x ∈ S ∧ y ∈ S
  · rw [if_pos hx, if_pos hx]
    have e1 : (p ++ x :: y :: q).take (p.length + 1) = p ++ [x] := by
      rw [show p ++ x :: y :: q = (p ++ [x]) ++ y :: q by simp]
      exact List.take_left' (by simp)
    rw [e1]
    have e2 : (((p ++ [x]).filter (· ∈ S)).length : Int) = cs S p + 1 := by
      show cs S (p ++ [x]) = _
      rw [cs_app, cs_cons, if_pos hx.1, cs_nil]
      omega
    rw [e2]
    unfold sgn
    split <;> congr 3 <;> omega
  · rw [if_neg hx, if_neg hx, List.append_nil]
theorem rng_succ0 (n : Nat) : rng 0 ((n : Int) + 1) = 0 :: (rng 0 n).map (· + 1) := by
  unfold rng
  have e1 : (((n : Int) + 1) - 0).toNat = n + 1 := by omega
  have e2 : ((n : Int) - 0).toNat = n := by omega
  rw [e1, e2, List.range_succ_eq_map, List.map_cons, List.map_map, List.map_map]
  congr 1
theorem row_succ (first sg : Int) (n : Nat) : row first ((n : Int) + 1) sg = sg * (first + 1) :: row (first + 1) n sg := by
  unfold row
  rw [rng_succ0, List.map_cons, List.map_map]
  congr 1
  · congr 1; omega
  · apply List.map_congr_left
    intro k _
    simp only [Function.comp]
    congr 1; omega
theorem row_zero (first sg : Int) : row first 0 sg = [] := rfl
theorem sgn_mul {sg k : Int} (h : sg = 1 ∨ sg = -1) (hk : 0 < k) : sgn (sg * k) = sg ∧ (sg * k).natAbs = k.natAbs := by
  rcases h with rfl | rfl
  · rw [Int.one_mul]; exact ⟨by unfold sgn; rw [if_pos hk], rfl⟩
  · rw [Int.neg_one_mul]
    exact ⟨by unfold sgn; rw [if_neg (by omega)], Int.natAbs_neg _⟩
theorem row_left (S : List Int) {sg : Int} (h : sg = 1 ∨ sg = -1) (x : Int) (Q : List Int) : ∀ (B P e : List Int), (row P.length B.length sg).foldl (leftStep S) (P ++ x :: (B ++ Q), e) = (P ++ (B ++ x :: Q), e ++ if x ∈ S then row (cs S P) (cs S B) sg else [])
  | [], P, e => by simp [row_zero, cs_nil]
  | y :: B, P, e => by
    rw [List.length_cons, show ((B.length + 1 : Nat) : Int) = (B.length : Int) + 1 by omega, row_succ, List.foldl_cons]
    obtain ⟨g1, g2⟩ := sgn_mul (k := (P.length : Int) + 1) h (by omega)
    rw [List.cons_append, left_swp S P (B ++ Q) e x y _ (by rw [g2]; omega), g1]
    have ih := row_left S h x Q B (P ++ [y]) (e ++ if x ∈ S ∧ y ∈ S then [sg * (cs S P + 1)] else [])
    rw [show ((P ++ [y]).length : Int) = (P.length : Int) + 1 by simp, show (P ++ [y]) ++ x :: (B ++ Q) = P ++ y :: x :: (B ++ Q) by simp] at ih
    rw [ih]
    refine Prod.ext (by simp) ?_
    show _ ++ _ = _
    rw [List.append_assoc]
    congr 1
    rw [cs_app, cs_cons, cs_cons, cs_nil]
    by_cases hx : x ∈ S
    · by_cases hy : y ∈ S
      · simp only [hx, hy, and_self, if_true]
        rw [show (1 : Int) + cs S B = cs S B + 1 by omega, show (cs S P + (1 + 0) : Int) = cs S P + 1 by omega]
        unfold cs
        rw [row_succ]
        rfl
      · simp only [hx, hy, and_false, if_true, if_false]
        rw [show (0 : Int) + cs S B = cs S B by omega, show (cs S P + (0 + 0) : Int) = cs S P by omega]
        rfl
    · simp [hx]
theorem passed_zero (p b sg : Int) : passed p 0 b sg = [] := by
  unfold passed rgd
  rw [show (p + 0 - 1 - (p - 1)).toNat = 0 by omega]
  rfl
theorem passed_succ (p b sg : Int) (n : Nat) : passed p ((n : Int) + 1) b sg = row (p + n) b sg ++ passed p n b sg := by
  unfold passed rgd
  rw [show (p + (n + 1) - 1 - (p - 1)).toNat = n + 1 by omega, show (p + n - 1 - (p - 1)).toNat = n by omega, List.range_succ_eq_map, List.map_cons, List.flatMap_cons, List.map_map]
  congr 1
  · congr 1; omega
  · congr 1
    apply List.map_congr_left
    intro k _
    simp only [Function.comp]
    omega
theorem passed_left (S : List Int) {sg : Int} (h : sg = 1 ∨ sg = -1) (P B : List Int) : ∀ (n : Nat) (A Q e : List Int), A.length = n → (passed P.length A.length B.length sg).foldl (leftStep S) (P ++ (A ++ (B ++ Q)), e) = (P ++ (B ++ (A ++ Q)), e ++ passed (cs S P) (cs S A) (cs S B) sg)
  | 0, A, Q, e, hn => by
    have : A = [] := List.length_eq_zero_iff.mp hn
    subst this
    simp [passed_zero, cs_nil]
  | n + 1, A, Q, e, hn => by
    have hne : A ≠ [] := fun e => by rw [e] at hn; simp at hn
    have e0 := (List.dropLast_concat_getLast hne).symm
    generalize A.dropLast = A' at e0
    generalize A.getLast hne = x at e0
    subst e0
    have hn' : A'.length = n := by simpa using hn
    rw [show (((A' ++ [x]).length : Nat) : Int) = (A'.length : Int) + 1 by simp, passed_succ, List.foldl_append]
    have r := row_left S h x Q B (P ++ A') e
    rw [show (((P ++ A').length : Nat) : Int) = (P.length : Int) + A'.length by simp, show P ++ A' ++ x :: (B ++ Q) = P ++ (A' ++ [x] ++ (B ++ Q)) by simp] at r
    rw [r, show P ++ A' ++ (B ++ x :: Q) = P ++ (A' ++ (B ++ x :: Q)) by simp, passed_left S h P B n A' (x :: Q) _ hn']
    refine Prod.ext (by simp) ?_
    show _ ++ _ = _
    rw [List.append_assoc, cs_app, cs_app, cs_cons, cs_nil]
    congr 1
    by_cases hx : x ∈ S
    · rw [if_pos hx, if_pos hx, show cs S A' + (1 + 0) = cs S A' + 1 by omega]
      conv => rhs; rw [show cs S A' = (((A'.filter (· ∈ S)).length : Nat) : Int) from rfl]
      rw [passed_succ]
      rfl
    · rw [if_neg hx, if_neg hx, show cs S A' + (0 + 0) = cs S A' by omega]
      rfl
theorem split2 {α : Type} (bs : List α) {a : Nat} (h1 : 1 ≤ a) (h2 : a < bs.length) : ∃ p A B q, bs = p ++ A :: B :: q ∧ p.length + 1 = a := by
  refine ⟨bs.take (a - 1), bs[a - 1], bs[a], bs.drop (a + 1), ?_, by rw [List.length_take]; omega⟩
  have d1 : bs.drop (a - 1) = bs[a - 1] :: bs.drop (a - 1 + 1) := List.drop_eq_getElem_cons (by omega)
  have d2 : bs.drop a = bs[a] :: bs.drop (a + 1) := List.drop_eq_getElem_cons h2
  have e3 : a - 1 + 1 = a := by omega
  rw [e3] at d1
  rw [← d2, ← d1, List.take_append_drop]
theorem widStep_at (p q e : List Int) (x y s : Int) (h : s.natAbs = p.length + 1) : widStep (p ++ x :: y :: q, e) s = (p ++ y :: x :: q, e ++ passed p.sum x y (sgn s)) := by
  unfold widStep
  simp only [h]
  rw [swp_app, Nat.add_sub_cancel, getD_app0, getD_app1, List.take_left' rfl]
theorem wid_acc : ∀ (l z e : List Int), l.foldl widStep (z, e) = ((l.foldl widStep (z, [])).1, e ++ (l.foldl widStep (z, [])).2)
  | [], z, e => by simp
  | s :: l, z, e => by
    rw [List.foldl_cons, List.foldl_cons]
    show l.foldl widStep (swp z s.natAbs, e ++ _) = _
    rw [wid_acc l]
    conv => rhs; rw [show widStep (z, []) s = (swp z s.natAbs, [] ++ passed (z.take (s.natAbs - 1)).sum (z.getD (s.natAbs - 1) 0) (z.getD s.natAbs 0) (sgn s)) from rfl, wid_acc l]
    simp
theorem sum_cs (S : List Int) : ∀ p : List (List Int), (p.map (cs S)).sum = cs S p.flatten
  | [] => rfl
  | x :: p => by rw [List.map_cons, List.sum_cons, sum_cs S p, List.flatten_cons, cs_app]
def lenI (l : List Int) : Int := (l.length : Int)
theorem sum_len : ∀ p : List (List Int), (p.map lenI).sum = (p.flatten.length : Int)
  | [] => rfl
  | x :: p => by rw [List.map_cons, List.sum_cons, sum_len p, List.flatten_cons, List.length_append]; simp [lenI]
/-- the widened dance, danced by blocks of any dancers, leaves the widened dance of the counts -/
theorem wid_left (S : List Int) : ∀ (l : List Int) (bs : List (List Int)) (e : List Int), (∀ s ∈ l, 1 ≤ s.natAbs ∧ s.natAbs < bs.length) → ∃ bs' : List (List Int), bs'.Perm bs ∧ (l.foldl widStep (bs.map lenI, [])).2.foldl (leftStep S) (bs.flatten, e) = (bs'.flatten, e ++ (l.foldl widStep (bs.map (cs S), [])).2)
  | [], bs, e, _ => ⟨bs, List.Perm.refl _, by simp⟩
  | s :: l, bs, e, ok => by
    have hs := ok s (by simp)
    obtain ⟨p, A, B, q, rfl, hp⟩ := split2 bs hs.1 hs.2
    obtain ⟨bs', h1, h2⟩ := wid_left S l (p ++ B :: A :: q) (e ++ passed (cs S p.flatten) (cs S A) (cs S B) (sgn s)) fun x hx => by
      have := ok x (by simp [hx])
      simpa using this
    refine ⟨bs', h1.trans (List.Perm.append_left _ (List.Perm.swap _ _ _)), ?_⟩
    rw [List.foldl_cons, List.foldl_cons, List.map_append, List.map_append, List.map_cons, List.map_cons, List.map_cons, List.map_cons, widStep_at _ _ _ _ _ _ (by simp; omega), widStep_at _ _ _ _ _ _ (by simp; omega), List.nil_append, List.nil_append, wid_acc l, List.foldl_append, sum_len, sum_cs]
    have pl := passed_left S (sgn_abs s) p.flatten B A.length A q.flatten e rfl
    rw [show (p ++ A :: B :: q).flatten = p.flatten ++ (A ++ (B ++ q.flatten)) by simp]
    show (l.foldl widStep _).2.foldl (leftStep S) ((passed (p.flatten.length : Int) (A.length : Int) (B.length : Int) (sgn s)).foldl (leftStep S) _) = _
    rw [pl]
    rw [show (p ++ B :: A :: q).flatten = p.flatten ++ (B ++ (A ++ q.flatten)) by simp, List.map_append, List.map_append, List.map_cons, List.map_cons, List.map_cons, List.map_cons] at h2
    rw [h2, wid_acc l (p.map (cs S) ++ cs S B :: cs S A :: q.map (cs S)) (passed _ _ _ _)]
    simp
end Mi
end
section
set_option linter.all false
set_option maxRecDepth 100000
/-! P2: counts, supports. -/
namespace Mi
open Mp
theorem passed_one (p sg : Int) : passed p 1 1 sg = [sg * (p + 1)] := by
  have := passed_succ p 1 sg 0
  rw [show (((0 : Nat) : Int) + 1) = 1 by rfl] at this
  rw [this, show (((0 : Nat) : Int)) = 0 by rfl, passed_zero, List.append_nil, Int.add_zero]
  have := row_succ p sg 0
  rw [show (((0 : Nat) : Int) + 1) = 1 by rfl] at this
  rw [this]
  rfl
theorem passed_zero_r (p a sg : Int) : passed p a 0 sg = [] := by
  unfold passed
  rw [List.flatMap_eq_nil_iff]
  intro x _
  rfl
theorem sgn_abs_mul (s : Int) (h : 1 ≤ s.natAbs) : sgn s * (s.natAbs : Int) = s := by
  unfold sgn
  split <;> omega
theorem wid_ones : ∀ (l z : List Int), (∀ s ∈ l, 1 ≤ s.natAbs ∧ s.natAbs < z.length) → (∀ x ∈ z, x = 1) → (l.foldl widStep (z, [])).2 = l
  | [], z, _, _ => rfl
  | s :: l, z, ok, h => by
    have hs := ok s (by simp)
    obtain ⟨p, x, y, q, rfl, hp⟩ := split2 z hs.1 hs.2
    rw [List.foldl_cons, widStep_at _ _ _ _ _ _ (by omega), wid_acc, wid_ones l (p ++ y :: x :: q) (fun u hu => by have := ok u (by simp [hu]); simpa using this) (fun u hu => h u (by simp at hu ⊢; rcases hu with hu | hu | hu | hu <;> simp [hu]))]
    have hx := h x (by simp)
    have hy := h y (by simp)
    subst hx hy
    have e : ∀ p : List Int, (∀ u ∈ p, u = 1) → p.sum = (p.length : Int) := fun p => by
      induction p with
      | nil => intro _; rfl
      | cons u p ih => intro h; have := ih fun v hv => h v (by simp [hv]); have := h u (by simp); simp only [List.sum_cons, List.length_cons]; omega
    rw [e p fun u hu => h u (by simp [hu]), passed_one, show ((p.length : Int) + 1) = (s.natAbs : Int) by omega, sgn_abs_mul s hs.1]
    rfl
theorem rng_app (a b c : Int) (h1 : a ≤ b) (h2 : b ≤ c) : rng a b ++ rng b c = rng a c := by
  unfold rng
  rw [show (c - a).toNat = (b - a).toNat + (c - b).toNat by omega, List.range_add, List.map_append, List.map_map]
  congr 1
  apply List.map_congr_left
  intro k _
  simp only [Function.comp]
  omega
theorem lots_flat : ∀ (m : List Int) (z : List (List Int) × Int), (∀ s ∈ m, 0 ≤ s) → 0 ≤ z.2 → z.1.flatten = rng 0 z.2 →
    (m.foldl (fun z s => (z.1 ++ [rng z.2 (z.2 + s)], z.2 + s)) z).1.flatten = rng 0 (z.2 + m.sum) ∧ (m.foldl (fun z s => (z.1 ++ [rng z.2 (z.2 + s)], z.2 + s)) z).1.map lenI = z.1.map lenI ++ m
  | [], z, _, _, h => by simp [h]
  | x :: m, z, hm, h0, h => by
    have hx := hm x (by simp)
    obtain ⟨a, b⟩ := lots_flat m (z.1 ++ [rng z.2 (z.2 + x)], z.2 + x) (fun s hs => hm s (by simp [hs])) (by show 0 ≤ z.2 + x; omega) (by
      rw [List.flatten_append, h]
      show rng 0 z.2 ++ [rng z.2 (z.2 + x)].flatten = rng 0 (z.2 + x)
      rw [List.flatten_singleton, rng_app _ _ _ h0 (by omega)])
    rw [List.foldl_cons]
    refine ⟨?_, ?_⟩
    · rw [a]
      show rng 0 (z.2 + x + m.sum) = _
      rw [List.sum_cons, Int.add_assoc]
    · rw [b, List.map_append]
      have : lenI (rng z.2 (z.2 + x)) = x := by unfold lenI; rw [rng_len]; omega
      simp [this]
theorem lotsOf_flat {sizes : List Int} (h : ∀ s ∈ sizes, 0 ≤ s) : (lotsOf sizes).flatten = rng 0 sizes.sum ∧ (lotsOf sizes).map lenI = sizes := by
  have := lots_flat sizes ([], 0) h (Int.le_refl _) rfl
  simpa [lotsOf, lotsSt] using this
def cnt (sizes S : List Int) : List Int := (lotsOf sizes).map (cs S)
theorem left_wid {sizes l : List Int} (S : List Int) (h : ∀ s ∈ sizes, 0 ≤ s) (ok : ∀ s ∈ l, 1 ≤ s.natAbs ∧ s.natAbs < sizes.length) : leftOf sizes.sum (widenedOf sizes l) S = widenedOf (cnt sizes S) l := by
  obtain ⟨h1, h2⟩ := lotsOf_flat h
  have hl : (lotsOf sizes).length = sizes.length := by conv => rhs; rw [← h2, List.length_map]
  obtain ⟨bs', _, hw⟩ := wid_left S l (lotsOf sizes) [] fun s hs => by have := ok s hs; omega
  rw [h1, h2] at hw
  unfold leftOf leftSt
  show ((l.foldl widStep (sizes, [])).2.foldl (leftStep S) (rng 0 sizes.sum, [])).2 = _
  rw [hw]
  rfl
def inU (U : List Int) (k : Int) : Int := if k ∈ U then 1 else 0
/-- what is left of a dance is the dance widened to noughts and ones -/
theorem left_ones {n : Int} {l : List Int} (U : List Int) (ok : ∀ s ∈ l, 1 ≤ s.natAbs ∧ (s.natAbs : Int) < n) : leftOf n l U = widenedOf ((rng 0 n).map (inU U)) l := by
  have hb : (((rng 0 n).map fun k => [k]).length : Nat) = n.toNat := by rw [List.length_map, rng_len]; omega
  obtain ⟨bs', _, hw⟩ := wid_left U l ((rng 0 n).map fun k => [k]) [] fun s hs => by have := ok s hs; omega
  have e1 : ((rng 0 n).map fun k => [k]).flatten = rng 0 n := by
    induction rng 0 n with
    | nil => rfl
    | cons x m ih => simp [ih]
  rw [e1, wid_ones l _ (fun s hs => by have := ok s hs; rw [List.length_map]; omega) (fun x hx => by
    rw [List.map_map] at hx
    obtain ⟨k, _, rfl⟩ := List.mem_map.mp hx
    rfl)] at hw
  unfold leftOf leftSt
  rw [hw]
  show (l.foldl widStep _).2 = _
  rw [List.map_map]
  have e2 : (cs U ∘ fun k => [k]) = inU U := by
    funext k
    simp only [Function.comp, cs_cons, cs_nil, inU]
    split <;> rfl
  rw [e2]
  rfl
def ind (x : Int) : Int := if x = 0 then 0 else 1
theorem ind_sum : ∀ p : List Int, (p.map ind).sum = ((p.filter fun x => !decide (x = 0)).length : Int)
  | [] => rfl
  | x :: p => by
    rw [List.map_cons, List.sum_cons, ind_sum p, List.filter_cons]
    unfold ind
    by_cases h : x = 0
    · simp [h]
    · simp [h]; omega
theorem nz_sum : ∀ p : List Int, (p.filter fun x => !decide (x = 0)).sum = p.sum
  | [] => rfl
  | x :: p => by
    rw [List.filter_cons, List.sum_cons]
    by_cases h : x = 0
    · simp [h, nz_sum p]
    · simp [h, nz_sum p]
/-- noughts may be left out -/
theorem wid_nz : ∀ (l z : List Int), (∀ s ∈ l, 1 ≤ s.natAbs ∧ s.natAbs < z.length) → (l.foldl widStep (z, [])).2 = ((l.foldl widStep (z.map ind, [])).2.foldl widStep (z.filter fun x => !decide (x = 0), [])).2
  | [], z, _ => rfl
  | s :: l, z, ok => by
    have hs := ok s (by simp)
    obtain ⟨p, x, y, q, rfl, hp⟩ := split2 z hs.1 hs.2
    have ih := wid_nz l (p ++ y :: x :: q) fun u hu => by have := ok u (by simp [hu]); simpa using this
    rw [List.foldl_cons, List.foldl_cons, widStep_at _ _ _ _ _ _ (by omega), List.map_append, List.map_cons, List.map_cons, widStep_at _ _ _ _ _ _ (by rw [List.length_map]; omega), wid_acc, wid_acc l (p.map ind ++ ind y :: ind x :: q.map ind), ih, List.nil_append, List.nil_append, List.map_append, List.map_cons, List.map_cons]
    by_cases hx : x = 0
    · subst hx
      rw [passed_zero, show ind 0 = 0 from rfl, passed_zero]
      have e : ∀ m : List Int, ((0 :: m).filter fun x => !decide (x = 0)) = m.filter fun x => !decide (x = 0) := fun m => rfl
      rw [List.filter_append, List.filter_append, List.filter_cons, e, e, List.filter_cons]
      simp
    · by_cases hy : y = 0
      · subst hy
        rw [passed_zero_r, show ind 0 = 0 from rfl, passed_zero_r, List.filter_append, List.filter_append]
        simp [hx]
      · rw [show ind x = 1 from if_neg hx, show ind y = 1 from if_neg hy, passed_one, ind_sum]
        show _ = (List.foldl widStep _ ([_] ++ _)).2
        obtain ⟨g1, g2⟩ := sgn_mul (sg := sgn s) (k := ((p.filter fun x => !decide (x = 0)).length : Int) + 1) (sgn_abs s) (by omega)
        have e : ((p ++ x :: y :: q).filter fun x => !decide (x = 0)) = (p.filter fun x => !decide (x = 0)) ++ x :: y :: (q.filter fun x => !decide (x = 0)) := by
          rw [List.filter_append, List.filter_cons, List.filter_cons]
          simp [hx, hy]
        have e2 : ((p ++ y :: x :: q).filter fun x => !decide (x = 0)) = (p.filter fun x => !decide (x = 0)) ++ y :: x :: (q.filter fun x => !decide (x = 0)) := by
          rw [List.filter_append, List.filter_cons, List.filter_cons]
          simp [hx, hy]
        rw [e, List.singleton_append, List.foldl_cons, widStep_at _ _ _ _ _ _ (by rw [g2]; omega), g1, nz_sum, wid_acc _ _ ([] ++ _), e2]
        simp
end Mi
end
section
set_option linter.all false
set_option maxRecDepth 100000
/-! P4: leads: how often a pair has crossed. -/
namespace Mi
open Mp L2
theorem kI_inj {a b : List Int} (h : kI a = kI b) : a = b := by
  have : Function.Injective (Sum.inl : Int → L2.Key) := fun x y h => Sum.inl.inj h
  exact (List.map_inj_right (fun x y h => Sum.inl.inj h)).mp h
theorem putK_mem {kvs : LD} {k : List L2.Key} {v : V} {z : List L2.Key × V} (h : z ∈ putK kvs k v) : z = (k, v) ∨ (z ∈ kvs ∧ z.1 ≠ k) := by
  unfold putK at h
  split at h
  · obtain ⟨y, hy, rfl⟩ := List.mem_map.mp h
    by_cases e : y.1 = k
    · left; simp [e]
    · right; simp [e, hy]
  · rename_i hn
    rcases List.mem_append.mp h with h | h
    · refine .inr ⟨h, fun e => hn ?_⟩
      rw [List.any_eq_true]
      exact ⟨z, h, by simp [e]⟩
    · exact .inl (List.mem_singleton.mp h)
def LGood (m : Int) (D : LD) : Prop := ∀ z ∈ D, ∃ low high x : Int, z = (kI [low, high], .int x) ∧ 0 ≤ low ∧ low < high ∧ high < m ∧ valV D (kI [low, high]) = some (.int x)
theorem lgood_put {m : Int} {D : LD} (h : LGood m D) {low high : Int} (h0 : 0 ≤ low) (h1 : low < high) (h2 : high < m) (x : Int) : LGood m (putK D (kI [low, high]) (.int x)) := by
  intro z hz
  rcases putK_mem hz with rfl | ⟨hz, hk⟩
  · exact ⟨low, high, x, rfl, h0, h1, h2, by rw [valV_put, if_pos rfl]⟩
  · obtain ⟨a, b, y, rfl, g0, g1, g2, g3⟩ := h z hz
    exact ⟨a, b, y, rfl, g0, g1, g2, by rw [valV_put, if_neg hk]; exact g3⟩
theorem lgood_base {m : Int} : ∀ n : Nat, (n : Int) ≤ m → LGood m (leadBase m n)
  | 0, _ => fun z h => by simp [leadBase] at h
  | n + 1, hn => by
    have e : leadBase m (n + 1) = leadIn m (n : Int) (leadBase m n) (rng ((n : Int) + 1) m) := by simp [leadBase, List.range_succ]
    rw [e]
    have : ∀ (hs : List Int) (D : LD), LGood m D → (∀ x ∈ hs, (n : Int) < x ∧ x < m) → LGood m (leadIn m n D hs) := by
      intro hs
      induction hs with
      | nil => intro D h _; exact h
      | cons x hs ih =>
        intro D h hx
        show LGood m (leadIn m n (putK D (kI [(n : Int), x]) (.int 0)) hs)
        exact ih _ (lgood_put h (by omega) (hx x (by simp)).1 (hx x (by simp)).2 0) fun y hy => hx y (by simp [hy])
    exact this _ _ (lgood_base n (by omega)) fun x hx => by have := mem_rng.mp hx; omega
def LZero (D : LD) : Prop := ∀ z ∈ D, z.2 = .int 0
theorem lzero_base {m : Int} : ∀ n : Nat, LZero (leadBase m n)
  | 0 => fun z h => by simp [leadBase] at h
  | n + 1 => by
    have e : leadBase m (n + 1) = leadIn m (n : Int) (leadBase m n) (rng ((n : Int) + 1) m) := by simp [leadBase, List.range_succ]
    rw [e]
    have : ∀ (hs : List Int) (D : LD), LZero D → LZero (leadIn m n D hs) := by
      intro hs
      induction hs with
      | nil => intro D h; exact h
      | cons x hs ih =>
        intro D h
        show LZero (leadIn m n (putK D (kI [(n : Int), x]) (.int 0)) hs)
        refine ih _ fun z hz => ?_
        rcases putK_mem hz with rfl | ⟨hz, _⟩
        · rfl
        · exact h z hz
    exact this _ _ (lzero_base n)
theorem valV_mem {D : LD} {k : List L2.Key} {v : V} (h : valV D k = some v) : ∃ z ∈ D, z.2 = v := by
  unfold valV at h
  rw [Option.map_eq_some_iff] at h
  obtain ⟨z, hz, e⟩ := h
  exact ⟨z, List.mem_of_find?_eq_some hz, e⟩
theorem left_acc1 (S z e : List Int) (u : Int) : leftStep S (z, e) u = ((leftStep S (z, []) u).1, e ++ (leftStep S (z, []) u).2) := by
  unfold leftStep
  dsimp only
  refine Prod.ext rfl ?_
  dsimp only
  by_cases h : z.getD (u.natAbs - 1) 0 ∈ S ∧ z.getD u.natAbs 0 ∈ S
  · rw [if_pos h, if_pos h]; rfl
  · rw [if_neg h, if_neg h, List.append_nil]
theorem left_acc (S : List Int) : ∀ (l z e : List Int), l.foldl (leftStep S) (z, e) = ((l.foldl (leftStep S) (z, [])).1, e ++ (l.foldl (leftStep S) (z, [])).2)
  | [], z, e => by simp
  | u :: l, z, e => by
    rw [List.foldl_cons, List.foldl_cons, left_acc1]
    generalize leftStep S (z, []) u = y
    obtain ⟨a, b⟩ := y
    rw [left_acc S l, left_acc S l a b]
    simp
/-- one pair's lead while a dance goes on -/
theorem lead_val {m low high : Int} (h0 : 0 ≤ low) (h1 : low < high) (h2 : high < m) : ∀ (l : List Int) (D : LD) (line : List Int) (v : Int), LGood m D → valV D (kI [low, high]) = some (.int v) → line.Perm (rng 0 m) → (∀ s ∈ l, 1 ≤ s.natAbs ∧ (s.natAbs : Int) < m) →
    LGood m (l.foldl leadStep (D, line)).1 ∧ valV (l.foldl leadStep (D, line)).1 (kI [low, high]) = some (.int (v + (l.foldl (leftStep [low, high]) (line, [])).2.sum))
  | [], D, line, v, hg, hv, _, _ => ⟨hg, by simpa using hv⟩
  | s :: l, D, line, v, hg, hv, hp, ok => by
    have hs := ok s (by simp)
    have hl := hp.length_eq
    rw [rng_len] at hl
    obtain ⟨lo, hi, e, g0, g1, g2⟩ := pairAt_ok hp hs.1 (by omega)
    obtain ⟨p, x, y, q, rfl, hpl⟩ := split2 line hs.1 (by omega)
    have hnd := hp.nodup_iff.mpr (rng_nodup 0 m)
    have hpe : pairAt (p ++ x :: y :: q) s.natAbs = [min x y, max x y] := by
      unfold pairAt
      rw [← hpl, Nat.add_sub_cancel, getD_app0, getD_app1]
    have hsw : (swp (p ++ x :: y :: q) s.natAbs) = p ++ y :: x :: q := by rw [← hpl]; exact swp_app p q x y
    have hp' : (p ++ y :: x :: q).Perm (rng 0 m) := (List.Perm.append_left _ (List.Perm.swap _ _ _)).trans hp
    rw [List.foldl_cons, List.foldl_cons, left_swp _ _ _ _ _ _ _ (by omega), left_acc]
    show LGood m (l.foldl leadStep (putK D (kI (pairAt _ _)) _, swp _ _)).1 ∧ valV (l.foldl leadStep (putK D (kI (pairAt _ _)) _, swp _ _)).1 _ = _
    rw [hsw, e]
    by_cases hxy : x ∈ [low, high] ∧ y ∈ [low, high]
    · have hne : x ≠ y := by
        intro e
        subst e
        have := (List.nodup_append.mp hnd).2.1
        simp at this
      have he : lo = low ∧ hi = high := by
        rw [hpe] at e
        simp only [List.mem_cons, List.not_mem_nil, or_false] at hxy
        simp only [List.cons.injEq, and_true] at e
        omega
      obtain ⟨rfl, rfl⟩ := he
      have hc : cs [lo, hi] p = 0 := by
        unfold cs
        have hd := (List.nodup_append.mp hnd).2.2
        have : p.filter (· ∈ [lo, hi]) = [] := by
          rw [List.filter_eq_nil_iff]
          intro u hu
          have a1 := hd u hu x (by simp)
          have a2 := hd u hu y (by simp)
          simp only [List.mem_cons, List.not_mem_nil, or_false] at hxy
          simp only [decide_eq_true_eq, List.mem_cons, List.not_mem_nil, or_false]
          omega
        rw [this]
        rfl
      have hgi : getI D (kI [lo, hi]) = v := by unfold getI; rw [hv]
      rw [if_pos hxy, hc, hgi]
      obtain ⟨a, b⟩ := lead_val h0 h1 h2 l (putK D (kI [lo, hi]) (.int (v + sgn s))) (p ++ y :: x :: q) (v + sgn s) (lgood_put hg h0 h1 h2 _) (by rw [valV_put, if_pos rfl]) hp' fun u hu => ok u (by simp [hu])
      refine ⟨a, ?_⟩
      rw [b]
      congr 2
      simp only [List.nil_append, List.singleton_append, List.sum_cons]
      rw [show sgn s * (0 + 1) = sgn s by omega]
      omega
    · have hne : kI [low, high] ≠ kI [lo, hi] := by
        intro ek
        have ek := kI_inj ek
        rw [hpe] at e
        simp only [List.cons.injEq, and_true] at ek e
        apply hxy
        simp only [List.mem_cons, List.not_mem_nil, or_false]
        omega
      rw [if_neg hxy]
      obtain ⟨a, b⟩ := lead_val h0 h1 h2 l (putK D (kI [lo, hi]) (.int (getI D (kI [lo, hi]) + sgn s))) (p ++ y :: x :: q) v (lgood_put hg g0 g1 g2 _) (by rw [valV_put, if_neg hne]; exact hv) hp' fun u hu => ok u (by simp [hu])
      exact ⟨a, by rw [b]; rfl⟩
theorem leads_val {m low high : Int} {l : List Int} (h0 : 0 ≤ low) (h1 : low < high) (h2 : high < m) (ok : ∀ s ∈ l, 1 ≤ s.natAbs ∧ (s.natAbs : Int) < m) : valV (leadsD m l) (kI [low, high]) = some (.int (leftOf m l [low, high]).sum) := by
  obtain ⟨i, hi⟩ := hasAll_base (many := m) low high h0 h1 h2
  obtain ⟨z, hz, e⟩ := valV_mem hi
  have := lzero_base m.toNat z hz
  rw [this] at e
  have e : i = 0 := by injection e with e; exact e.symm
  subst e
  obtain ⟨_, b⟩ := lead_val h0 h1 h2 l _ (rng 0 m) 0 (lgood_base m.toNat (by omega)) hi (List.Perm.refl _) ok
  rw [Int.zero_add] at b
  exact b
theorem leads_good {m : Int} {l : List Int} (h2 : 2 ≤ m) (ok : ∀ s ∈ l, 1 ≤ s.natAbs ∧ (s.natAbs : Int) < m) : LGood m (leadsD m l) := by
  obtain ⟨i, hi⟩ := hasAll_base (many := m) 0 1 (by omega) (by omega) (by omega)
  exact (lead_val (low := 0) (high := 1) (by omega) (by omega) (by omega) l _ (rng 0 m) i (lgood_base m.toNat (by omega)) hi (List.Perm.refl _) ok).1
end Mi
end
section
set_option linter.all false
set_option maxRecDepth 100000
set_option maxHeartbeats 1000000
/-! B1: steps keep the braid relations on all numbers. -/
namespace Mi
/-- a step forward, by greatest ones -/
structure St (p q r s p' q' r' s' : Int) : Prop where
  a : p' = max (p + max 0 q) (q + r)
  b : q' = q + s - s'
  c : s' + r = max (q + r) (p + max 0 q + max 0 s)
  d : r' = p + r + s - max (p + max 0 s) r
theorem fwd_a (p q r s : Int) : p + up q + up (up s - (p - low q - r + up s)) = max (p + max 0 q) (q + r) := by
  simp only [up, low]; (repeat' split) <;> omega
theorem fwd_c (p q r s : Int) : q + up (p - low q - r + up s) + r = max (q + r) (p + max 0 q + max 0 s) := by
  simp only [up, low]; (repeat' split) <;> omega
theorem fwd_d (p q r s : Int) : r + low s + low (low q + (p - low q - r + up s)) = p + r + s - max (p + max 0 s) r := by
  simp only [up, low]; (repeat' split) <;> omega
theorem fwd_st (p q r s : Int) : ∃ p' q' r' s', fwd p q r s = [p', q', r', s'] ∧ St p q r s p' q' r' s' :=
  ⟨_, _, _, _, rfl, fwd_a p q r s, by omega, fwd_c p q r s, fwd_d p q r s⟩
theorem St.f {p q r s p' q' r' s' : Int} (h : St p q r s p' q' r' s') : r' + max 0 s' = p + s + max 0 q := by
  obtain ⟨a, b, c, d⟩ := h; omega
theorem St.g {p q r s p' q' r' s' : Int} (h : St p q r s p' q' r' s') : max p' (p + s + max 0 q) = s' + r := by
  obtain ⟨a, b, c, d⟩ := h; omega
theorem St.h {p q r s p' q' r' s' : Int} (h : St p q r s p' q' r' s') : max 0 q' + (s' + r) = p' + max 0 s := by
  obtain ⟨a, b, c, d⟩ := h; omega
theorem br_p1 {p1 q1 r2 m s1 t r q s p3 : Int} (g : max p1 m = s1 + r) (e : r2 = max m (s1 + t)) (b : q1 = q + s - s1) (a : p3 = max (p1 + max 0 q1) (q1 + r2)) : p3 = max (max p1 (q + s + r)) (q + s + t) := by omega
theorem br_p2 {p Q q r s t x1 : Int} (e : x1 = max (r + max 0 s) (s + t)) : max (max (max (p + Q) (q + r)) (q + s + r)) (q + s + t) = max (p + Q) (q + x1) := by omega
/-- the last place of the left -/
theorem br_u1 {u2 t s1 m U : Int} (e : u2 + t = max (s1 + t) (m + U)) : u2 = max s1 (m + U - t) := by omega
/-- and of the right -/
theorem br_y1 {q x1 y1 y2 p Q U D : Int} (c : y2 + x1 = max (q + x1) (p + Q + y1)) (h : y1 + D = x1 + U) : y2 = max q (p + Q + U - D) := by omega
theorem br_w1 {w1 t r s u z1 : Int} (c : w1 + t = max (s + t) (r + max 0 s + max 0 u)) (d : z1 = r + t + u - max (r + max 0 u) t) : max 0 w1 - z1 = max 0 s + 2 * max (r + max 0 u) t - t - r - u - t := by
  have : max t (w1 + t) = max (r + max 0 u) t + max 0 s := by omega
  omega
theorem br_u2 {r s t u G D U S : Int} (hU : U = max 0 u) (hS : S = max 0 s) (hG : G = max (r + U) t) (hD : D = max (s + t) (r + S + U)) : max (U - D) (s + S + 2 * G - D - r - t) = max (S - r) (s + U - t) := by
  have h1 : D = max (r + U) (s + G) := by subst hU hS hG hD; omega
  clear hD
  generalize hV : r + U = V at *
  have hU2 : U = V - r := by omega
  subst hU2
  have hU3 : 0 ≤ V - r := by omega
  clear hU
  omega
theorem br_D {r s t u G D U S : Int} (hU : U = max 0 u) (hS : S = max 0 s) (hG : G = max (r + U) t) (hD : D = max (s + t) (r + S + U)) : D = max (r + U) (s + G) := by omega
theorem br_q1 {q s s1 q1 m U t u2 p1 r : Int} (b : q1 = q + s - s1) (u : u2 = max s1 (m + U - t)) (g : max p1 m = s1 + r) : max (q1 + u2) (p1 + max 0 q1 + U - t) = max (q + s) (U - t + max p1 (q + s + r)) := by omega
theorem br_q2 {q s r p Q U S t D w1 p1 : Int} (h1 : D = max (s + t) (r + S + U)) (hw : D = w1 + t) (hS : S = max 0 s) (ha : p1 = max (p + Q) (q + r)) : max (q + s) (U - t + max p1 (q + s + r)) = max (q + w1) (p + Q + U - t) := by omega
theorem br_q3 {q1 s3 p1 S2 r2 U D2 u2 t : Int} (c : s3 + r2 = max (q1 + r2) (p1 + max 0 q1 + S2)) (h : S2 + D2 = r2 + U) (e : D2 = u2 + t) : u2 + s3 = max (q1 + u2) (p1 + max 0 q1 + U - t) := by omega
theorem br_r1 {p1 r2 s2 S2 U D2 r3 s1 u u2 t m r : Int} (d : r3 = p1 + r2 + s2 - max (p1 + S2) r2) (h : S2 + D2 = r2 + U) (e : D2 = u2 + t) (b : s2 = s1 + u - u2) (g : max p1 m = s1 + r) (c : D2 = max (s1 + t) (m + U)) : r3 = p1 + u + t - max (r + U) t := by omega
theorem br_r2 {x3 x2 Y2 y2 z1 p y1 Q q U D r t u G s p1 : Int} (a : x3 = max (x2 + Y2) (y2 + z1)) (f : x2 + Y2 = p + y1 + Q) (y : y2 = max q (p + Q + U - D)) (z : z1 = r + t + u - G) (b : y1 = s + u + t - D) (e : D = max (r + U) (s + G)) (ha : p1 = max (p + Q) (q + r)) : x3 = p1 + u + t - G := by omega
theorem br_t1 {t2 r1 t u U S p r s : Int} (d2 : t2 = r1 + t + u - max (r1 + U) t) (d1 : r1 = p + r + s - max (p + S) r) : -t2 = max (max (U - t) (S - r - s)) (-p - s) - u := by omega
theorem br_t2 {z3 x2 z1 w1 W1 p x1 y1 Y1 U D E : Int} (d3 : z3 = x2 + z1 + w1 - max (x2 + W1) z1) (d2 : x2 = p + x1 + y1 - max (p + Y1) x1) (h : Y1 + D = x1 + U) (e : W1 - z1 = E) : -z3 = max (E - w1) (max (U - D) (-p) - w1 - y1) := by omega
section
variable {p q r s t u p1 q1 r1 s1 r2 s2 t2 u2 p3 q3 r3 s3 x1 y1 z1 w1 p2 q2 x2 y2 x3 y3 z3 w3 : Int}
/-- the one after the other, both ways -/
theorem st_braid (h1 : St p q r s p1 q1 r1 s1) (h2 : St r1 s1 t u r2 s2 t2 u2) (h3 : St p1 q1 r2 s2 p3 q3 r3 s3)
    (k1 : St r s t u x1 y1 z1 w1) (k2 : St p q x1 y1 p2 q2 x2 y2) (k3 : St x2 y2 z1 w1 x3 y3 z3 w3) :
    p3 = p2 ∧ q3 = q2 ∧ r3 = x3 ∧ s3 = y3 ∧ t2 = z3 ∧ u2 = w3 := by
  have f1 := h1.f
  have g1 := h1.g
  have r2e : r2 = max (p + s + max 0 q) (s1 + t) := by rw [h2.a, f1]
  have c2 : u2 + t = max (s1 + t) (p + s + max 0 q + max 0 u) := by rw [h2.c, f1]
  have uu := br_u1 c2
  have c2' := c2
  have D := br_D rfl rfl rfl k1.c
  have y2e := br_y1 k2.c k1.h
  have b1 := h1.b; have b2 := h2.b; have b3 := h3.b; have d1 := k1.b; have d2 := k2.b; have d3 := k3.b
  have P : p3 = p2 := by
    rw [br_p1 g1 r2e h1.b h3.a, k2.a, h1.a]
    exact br_p2 k1.a
  have W := br_w1 k1.c k1.d
  have V := br_u2 (r := r) (s := s) (t := t) (u := u) rfl rfl rfl k1.c
  have U : u2 = w3 := by
    have e1 : w3 + z1 = max (y2 + z1) (p + y1 + max 0 q + max 0 w1) := by rw [k3.c, k2.f]
    have e2 : w3 = max q (p + max 0 q + max (max 0 u - (w1 + t)) (s + max 0 s + 2 * max (r + max 0 u) t - (w1 + t) - r - t)) := by
      clear c2 c2' D r2e uu f1 g1 V
      generalize max 0 q = Q at *
      generalize max 0 u = U at *
      generalize max 0 s = S at *
      generalize max (r + U) t = G at *
      generalize max 0 w1 = W1 at *
      omega
    rw [V] at e2
    have e3 := h1.c
    clear c2 c2' D r2e f1 g1 V W e1 P y2e
    generalize max 0 q = Q at *
    generalize max 0 u = U at *
    generalize max 0 s = S at *
    omega
  have Q : q3 = q2 := by
    have e1 := br_q3 h3.c h2.h rfl
    rw [br_q1 b1 uu g1, br_q2 k1.c rfl rfl h1.a] at e1
    clear c2 c2' D r2e f1 g1 V W P uu U
    generalize max 0 q = Q at *
    generalize max 0 u = U at *
    omega
  have R : r3 = x3 := by
    rw [br_r1 h3.d h2.h rfl b2 g1 c2]
    exact (br_r2 k3.a k2.f y2e k1.d (by omega) D h1.a).symm
  have T : t2 = z3 := by
    have e1 := br_t1 h2.d h1.d
    have e2 := br_t2 k3.d k2.d k1.h W
    clear c2 c2' D r2e f1 g1 P uu U Q R y2e W
    generalize max 0 u = U at *
    generalize max 0 s = S at *
    generalize max (r + U) t = G at *
    omega
  refine ⟨P, Q, R, ?_, T, U⟩
  clear c2 c2' D r2e f1 g1 V W uu y2e
  omega
end
end Mi
end
section
set_option linter.all false
set_option maxRecDepth 100000
set_option maxHeartbeats 1000000
/-! B2: what dances do to numbers: moves change nothing. -/
namespace Mi
theorem St.uniq {p q r s p1 q1 r1 s1 p2 q2 r2 s2 : Int} (h : St p q r s p1 q1 r1 s1) (k : St p q r s p2 q2 r2 s2) : p1 = p2 ∧ q1 = q2 ∧ r1 = r2 ∧ s1 = s2 := by
  have e1 := h.a.trans k.a.symm
  have e2 := h.c.trans k.c.symm
  have e3 := h.d.trans k.d.symm
  have e4 := h.b
  have e5 := k.b
  exact ⟨e1, by omega, e3, by omega⟩
theorem St.inv {p q r s p' q' r' s' : Int} (h : St p q r s p' q' r' s') : St (-p') q' (-r') s' (-p) q (-r) s := by
  obtain ⟨a, b, c, d⟩ := h
  refine ⟨?_, by omega, ?_, ?_⟩
  · omega
  · omega
  · omega
theorem bwd_st (p q r s : Int) : ∃ p' q' r' s', bwd p q r s = [p', q', r', s'] ∧ St (-p) q (-r) s (-p') q' (-r') s' := by
  obtain ⟨a, b, c, d, e, h⟩ := fwd_st (-p) q (-r) s
  refine ⟨-a, b, -c, d, ?_, by rw [Int.neg_neg, Int.neg_neg]; exact h⟩
  unfold fwd at e
  injection e with e1 e
  injection e with e2 e
  injection e with e3 e
  injection e with e4 e
  unfold bwd
  dsimp only at e1 e2 e3 e4 ⊢
  have z : p + low q - r - up s = -(-p - low q - -r + up s) := by omega
  have l1 : ∀ x : Int, low (-x) = -(up x) := fun x => by unfold low up; split <;> split <;> omega
  have l2 : up s + (p + low q - r - up s) = up s - (-p - low q - -r + up s) := by omega
  have l3 : low q - (p + low q - r - up s) = low q + (-p - low q - -r + up s) := by omega
  rw [l2, l3, ← e1, ← e2, ← e3, ← e4]
  rw [show low (p + low q - r - up s) = -(up (-p - low q - -r + up s)) by rw [z, l1]]
  congr 1
  · omega
  · congr 1
    congr 1
    · omega
    · congr 1
      omega
def FourR (st p q r s p' q' r' s' : Int) : Prop := if 0 < st then St p q r s p' q' r' s' else St (-p) q (-r) s (-p') q' (-r') s'
theorem four_r (st p q r s : Int) : ∃ p' q' r' s', four st p q r s = [p', q', r', s'] ∧ FourR st p q r s p' q' r' s' := by
  unfold four FourR
  split
  · exact fwd_st p q r s
  · exact bwd_st p q r s
theorem FourR.eq {st p q r s p' q' r' s' : Int} (h : FourR st p q r s p' q' r' s') : four st p q r s = [p', q', r', s'] := by
  obtain ⟨a, b, c, d, e, k⟩ := four_r st p q r s
  unfold FourR at h k
  split at h
  · rw [if_pos ‹_›] at k
    obtain ⟨rfl, rfl, rfl, rfl⟩ := h.uniq k
    exact e
  · rw [if_neg ‹_›] at k
    obtain ⟨h1, rfl, h3, rfl⟩ := h.uniq k
    have : p' = a := by omega
    have : r' = c := by omega
    subst_vars
    exact e
theorem FourR.inv {st p q r s p' q' r' s' : Int} (h0 : st ≠ 0) (h : FourR st p q r s p' q' r' s') : FourR (0 - st) p' q' r' s' p q r s := by
  unfold FourR at *
  split at h
  · rw [if_neg (by omega)]
    exact h.inv
  · rw [if_pos (by omega)]
    have := h.inv
    simpa using this
/-! ### on the list of all numbers -/
theorem stepN_at {st : Int} {pre suf : List Int} {p q r s : Int} (h : pre.length + 2 = 2 * st.natAbs) : stepN (pre ++ (p :: q :: r :: s :: suf)) st = pre ++ (four st p q r s ++ suf) := by
  unfold stepN
  have e : 2 * st.natAbs - 2 = pre.length := by omega
  simp only [e]
  rw [List.take_left' rfl]
  have g : ∀ k : Nat, (pre ++ (p :: q :: r :: s :: suf)).getD (pre.length + k) 0 = (p :: q :: r :: s :: suf).getD k 0 := fun k => by
    simp [List.getD_eq_getElem?_getD, List.getElem?_append_right]
  have g0 := g 0
  have g1 := g 1
  have g2 := g 2
  have g3 := g 3
  rw [Nat.add_zero] at g0
  rw [g0, g1, g2, g3]
  have d : (pre ++ (p :: q :: r :: s :: suf)).drop (pre.length + 4) = suf := by
    rw [List.drop_append]
    simp
  rw [d, List.append_assoc]
  rfl
theorem cut4 {ns : List Int} {k : Nat} (h1 : 1 ≤ k) (h : 2 * k + 2 ≤ ns.length) : ∃ pre p q r s suf, ns = pre ++ (p :: q :: r :: s :: suf) ∧ pre.length + 2 = 2 * k := by
  refine ⟨ns.take (2 * k - 2), ns[2 * k - 2], ns[2 * k - 1], ns[2 * k], ns[2 * k + 1], ns.drop (2 * k + 2), ?_, by rw [List.length_take]; omega⟩
  have d1 := List.drop_eq_getElem_cons (l := ns) (i := 2 * k - 2) (by omega)
  have d2 := List.drop_eq_getElem_cons (l := ns) (i := 2 * k - 1) (by omega)
  have d3 := List.drop_eq_getElem_cons (l := ns) (i := 2 * k) (by omega)
  have d4 := List.drop_eq_getElem_cons (l := ns) (i := 2 * k + 1) (by omega)
  rw [show 2 * k - 2 + 1 = 2 * k - 1 by omega] at d1
  rw [show 2 * k - 1 + 1 = 2 * k by omega] at d2
  rw [show 2 * k + 1 + 1 = 2 * k + 2 by omega] at d4
  rw [← d4, ← d3, ← d2, ← d1, List.take_append_drop]
theorem stepN_undo {ns : List Int} {s : Int} (h1 : 1 ≤ s.natAbs) (h : 2 * s.natAbs + 2 ≤ ns.length) : stepN (stepN ns s) (0 - s) = ns := by
  obtain ⟨pre, p, q, r, u, suf, rfl, hp⟩ := cut4 h1 h
  obtain ⟨a, b, c, d, e, k⟩ := four_r s p q r u
  rw [stepN_at hp, e]
  show stepN (pre ++ (a :: b :: c :: d :: suf)) (0 - s) = _
  rw [stepN_at (by omega), (k.inv (by omega)).eq]
  rfl
theorem stepN_far_lt {ns : List Int} {x y : Int} (hx : 1 ≤ x.natAbs) (hxy : x.natAbs + 1 < y.natAbs) (h : 2 * y.natAbs + 2 ≤ ns.length) : stepN (stepN ns x) y = stepN (stepN ns y) x := by
  obtain ⟨pre, p, q, r, s, suf, rfl, hp⟩ := cut4 (ns := ns) (k := y.natAbs) (by omega) h
  obtain ⟨pre2, p2, q2, r2, s2, suf2, rfl, hp2⟩ := cut4 (ns := pre) (k := x.natAbs) hx (by omega)
  obtain ⟨a, b, c, d, e, _⟩ := four_r y p q r s
  obtain ⟨a2, b2, c2, d2, e2, _⟩ := four_r x p2 q2 r2 s2
  rw [stepN_at hp, e]
  rw [show (pre2 ++ p2 :: q2 :: r2 :: s2 :: suf2) ++ (p :: q :: r :: s :: suf) = pre2 ++ (p2 :: q2 :: r2 :: s2 :: (suf2 ++ (p :: q :: r :: s :: suf))) by simp, stepN_at hp2, e2]
  rw [show (pre2 ++ p2 :: q2 :: r2 :: s2 :: suf2) ++ ([a, b, c, d] ++ suf) = pre2 ++ (p2 :: q2 :: r2 :: s2 :: (suf2 ++ (a :: b :: c :: d :: suf))) by simp, stepN_at hp2, e2]
  rw [show pre2 ++ ([a2, b2, c2, d2] ++ (suf2 ++ (p :: q :: r :: s :: suf))) = (pre2 ++ (a2 :: b2 :: c2 :: d2 :: suf2)) ++ (p :: q :: r :: s :: suf) by simp, stepN_at (by simp at hp ⊢; omega), e]
  simp
theorem stepN_far {ns : List Int} {x y : Int} (hx : 1 ≤ x.natAbs) (hy : 1 ≤ y.natAbs) (hxy : 1 < ((x.natAbs : Int) - (y.natAbs : Int)).natAbs) (h1 : 2 * x.natAbs + 2 ≤ ns.length) (h2 : 2 * y.natAbs + 2 ≤ ns.length) : stepN (stepN ns x) y = stepN (stepN ns y) x := by
  rcases Nat.lt_or_ge x.natAbs y.natAbs with h | h
  · exact stepN_far_lt hx (by omega) h2
  · exact (stepN_far_lt hy (by omega) h1).symm
theorem stepN_braid_lt {ns : List Int} {x y : Int} (hx : 1 ≤ x.natAbs) (hxy : x.natAbs + 1 = y.natAbs) (hs : 0 < x ↔ 0 < y) (h : 2 * y.natAbs + 2 ≤ ns.length) : stepN (stepN (stepN ns x) y) x = stepN (stepN (stepN ns y) x) y := by
  obtain ⟨pre, p, q, r, s, suf, rfl, hp⟩ := cut4 (ns := ns) (k := x.natAbs) hx (by omega)
  have hl : 2 ≤ suf.length := by simp at h; omega
  obtain ⟨t, u, suf, rfl⟩ : ∃ t u suf', suf = t :: u :: suf' := by
    match suf, hl with
    | t :: u :: suf, _ => exact ⟨t, u, suf, rfl⟩
  have hp2 : ∀ a b : Int, (pre ++ [a, b]).length + 2 = 2 * y.natAbs := fun a b => by simp; omega
  have re : ∀ a b c d e f : Int, pre ++ (a :: b :: c :: d :: e :: f :: suf) = (pre ++ [a, b]) ++ (c :: d :: e :: f :: suf) := fun a b c d e f => by simp
  obtain ⟨p1, q1, r1, s1, e1, m1⟩ := four_r x p q r s
  obtain ⟨r2, s2, t2, u2, e2, m2⟩ := four_r y r1 s1 t u
  obtain ⟨p3, q3, r3, s3, e3, m3⟩ := four_r x p1 q1 r2 s2
  obtain ⟨x1, y1, z1, w1, i1, n1⟩ := four_r y r s t u
  obtain ⟨p2, q2, x2, y2, i2, n2⟩ := four_r x p q x1 y1
  obtain ⟨x3, y3, z3, w3, i3, n3⟩ := four_r y x2 y2 z1 w1
  rw [stepN_at hp, e1]
  show stepN (stepN (pre ++ (p1 :: q1 :: r1 :: s1 :: t :: u :: suf)) y) x = _
  rw [re, stepN_at (hp2 _ _), e2, show (pre ++ [p1, q1]) ++ ([r2, s2, t2, u2] ++ suf) = pre ++ (p1 :: q1 :: r2 :: s2 :: t2 :: u2 :: suf) by simp, stepN_at hp, e3]
  rw [re p q, stepN_at (hp2 _ _), i1, show (pre ++ [p, q]) ++ ([x1, y1, z1, w1] ++ suf) = pre ++ (p :: q :: x1 :: y1 :: z1 :: w1 :: suf) by simp, stepN_at hp, i2]
  rw [show pre ++ ([p2, q2, x2, y2] ++ z1 :: w1 :: suf) = (pre ++ [p2, q2]) ++ (x2 :: y2 :: z1 :: w1 :: suf) by simp, stepN_at (hp2 _ _), i3]
  have key : p3 = p2 ∧ q3 = q2 ∧ r3 = x3 ∧ s3 = y3 ∧ t2 = z3 ∧ u2 = w3 := by
    unfold FourR at *
    by_cases h0 : 0 < x
    · have h0' := hs.mp h0
      rw [if_pos h0] at m1 m3 n2
      rw [if_pos h0'] at m2 n1 n3
      exact st_braid m1 m2 m3 n1 n2 n3
    · have h0' : ¬ 0 < y := fun q => h0 (hs.mpr q)
      rw [if_neg h0] at m1 m3 n2
      rw [if_neg h0'] at m2 n1 n3
      obtain ⟨a, b, c, d, e, f⟩ := st_braid m1 m2 m3 n1 n2 n3
      refine ⟨by omega, b, by omega, d, by omega, f⟩
  obtain ⟨rfl, rfl, rfl, rfl, rfl, rfl⟩ := key
  simp
theorem stepN_braid {ns : List Int} {x y : Int} (hx : 1 ≤ x.natAbs) (hy : 1 ≤ y.natAbs) (hxy : ((x.natAbs : Int) - (y.natAbs : Int)).natAbs = 1) (hs : 0 < x ↔ 0 < y) (h1 : 2 * x.natAbs + 2 ≤ ns.length) (h2 : 2 * y.natAbs + 2 ≤ ns.length) : stepN (stepN (stepN ns x) y) x = stepN (stepN (stepN ns y) x) y := by
  rcases Nat.lt_or_ge x.natAbs y.natAbs with h | h
  · exact stepN_braid_lt hx (by omega) hs h2
  · exact (stepN_braid_lt hy (by omega) hs.symm h1).symm
end Mi
end
section
set_option linter.all false
set_option maxRecDepth 100000
set_option maxHeartbeats 1000000
/-! B3: words that do the same to all numbers. -/
namespace Mi
open Mp
def okL (m : Nat) (w : List Int) : Prop := ∀ s ∈ w, 1 ≤ s.natAbs ∧ s.natAbs < m
/-- do the same -/
def Act (m : Nat) (w v : List Int) : Prop := ∀ ns : List Int, ns.length = 2 * m → w.foldl stepN ns = v.foldl stepN ns
theorem Act.refl (m : Nat) (w : List Int) : Act m w w := fun _ _ => rfl
theorem Act.symm {m : Nat} {w v : List Int} (h : Act m w v) : Act m v w := fun ns hn => (h ns hn).symm
theorem Act.trans {m : Nat} {w v u : List Int} (h : Act m w v) (k : Act m v u) : Act m w u := fun ns hn => (h ns hn).trans (k ns hn)
theorem act_len {m : Nat} : ∀ {w : List Int}, okL m w → ∀ ns : List Int, ns.length = 2 * m → (w.foldl stepN ns).length = 2 * m
  | [], _, ns, h => h
  | s :: w, ok, ns, h => by
    have hs := ok s (by simp)
    rw [List.foldl_cons]
    exact act_len (fun x hx => ok x (by simp [hx])) _ (by rw [stepN_len hs.1 (by omega)]; exact h)
theorem okL.app {m : Nat} {w v : List Int} (h : okL m w) (k : okL m v) : okL m (w ++ v) := fun s hs => (List.mem_append.mp hs).elim (h s) (k s)
theorem okL.left {m : Nat} {w v : List Int} (h : okL m (w ++ v)) : okL m w := fun s hs => h s (List.mem_append_left _ hs)
theorem okL.right {m : Nat} {w v : List Int} (h : okL m (w ++ v)) : okL m v := fun s hs => h s (List.mem_append_right _ hs)
theorem Act.app {m : Nat} {w w' v v' : List Int} (h : Act m w w') (k : Act m v v') (ok : okL m w) : Act m (w ++ v) (w' ++ v') := fun ns hn => by
  rw [List.foldl_append, List.foldl_append, ← h ns hn]
  exact k _ (act_len ok ns hn)
theorem Act.cons {m : Nat} {x : Int} {v v' : List Int} (k : Act m v v') (ok : 1 ≤ x.natAbs ∧ x.natAbs < m) : Act m (x :: v) (x :: v') := fun ns hn => by
  rw [List.foldl_cons, List.foldl_cons]
  exact k _ (by rw [stepN_len ok.1 (by omega)]; exact hn)
theorem act_undo {m : Nat} {x : Int} (ok : 1 ≤ x.natAbs ∧ x.natAbs < m) (w : List Int) : Act m (x :: (0 - x) :: w) w := fun ns hn => by
  rw [List.foldl_cons, List.foldl_cons, stepN_undo ok.1 (by omega)]
theorem act_far {m : Nat} {x y : Int} (hx : 1 ≤ x.natAbs ∧ x.natAbs < m) (hy : 1 ≤ y.natAbs ∧ y.natAbs < m) (h : 1 < ((x.natAbs : Int) - (y.natAbs : Int)).natAbs) (w : List Int) : Act m (x :: y :: w) (y :: x :: w) := fun ns hn => by
  simp only [List.foldl_cons]
  rw [stepN_far hx.1 hy.1 h (by omega) (by omega)]
theorem act_braid {m : Nat} {x y : Int} (hx : 1 ≤ x.natAbs ∧ x.natAbs < m) (hy : 1 ≤ y.natAbs ∧ y.natAbs < m) (h : ((x.natAbs : Int) - (y.natAbs : Int)).natAbs = 1) (hs : 0 < x ↔ 0 < y) (w : List Int) : Act m (x :: y :: x :: w) (y :: x :: y :: w) := fun ns hn => by
  simp only [List.foldl_cons]
  rw [stepN_braid hx.1 hy.1 h hs (by omega) (by omega)]
/-- bring a step to the front -/
def bring : Nat → Int → List Int → Option (List Int)
  | 0, _, _ => none
  | _ + 1, _, [] => none
  | f + 1, x, y :: r =>
    if x = y then some r
    else if 1 < ((x.natAbs : Int) - (y.natAbs : Int)).natAbs then (bring f x r).map (y :: ·)
    else if (decide (0 < x) == decide (0 < y)) && decide (((x.natAbs : Int) - (y.natAbs : Int)).natAbs = 1) then
      match bring f x r with
      | none => none
      | some r1 => (bring f y r1).map fun r2 => y :: x :: r2
    else none
theorem bring_ok {m : Nat} : ∀ (f : Nat) (x : Int) (w v : List Int), bring f x w = some v → okL m w → Act m w (x :: v) ∧ okL m (x :: v)
  | 0, x, w, v, h, _ => by simp [bring] at h
  | f + 1, x, [], v, h, _ => by simp [bring] at h
  | f + 1, x, y :: r, v, h, ok => by
    have hy := ok y (by simp)
    have hr : okL m r := fun s hs => ok s (by simp [hs])
    unfold bring at h
    by_cases e : x = y
    · rw [if_pos e] at h
      subst e
      injection h with h
      subst h
      exact ⟨Act.refl _ _, ok⟩
    · rw [if_neg e] at h
      by_cases hf : 1 < ((x.natAbs : Int) - (y.natAbs : Int)).natAbs
      · rw [if_pos hf] at h
        obtain ⟨r1, h1, rfl⟩ := Option.map_eq_some_iff.mp h
        obtain ⟨a, b⟩ := bring_ok f x r r1 h1 hr
        have hx := b x (by simp)
        refine ⟨(Act.cons a hy).trans (act_far hy hx (by omega) r1), fun s hs => ?_⟩
        simp only [List.mem_cons] at hs
        rcases hs with rfl | rfl | hs
        · exact hx
        · exact hy
        · exact b s (by simp [hs])
      · rw [if_neg hf] at h
        split at h
        · rename_i hc
          rw [Bool.and_eq_true] at hc
          obtain ⟨c1, c2⟩ := hc
          have c2 := of_decide_eq_true c2
          have c1 : (0 < x ↔ 0 < y) := by simpa using c1
          cases h1 : bring f x r with
          | none => rw [h1] at h; simp at h
          | some r1 =>
            rw [h1] at h
            obtain ⟨r2, h2, rfl⟩ := Option.map_eq_some_iff.mp h
            obtain ⟨a, b⟩ := bring_ok f x r r1 h1 hr
            have hx := b x (by simp)
            obtain ⟨a2, b2⟩ := bring_ok f y r1 r2 h2 fun s hs => b s (by simp [hs])
            refine ⟨((Act.cons a hy).trans (Act.cons (Act.cons a2 hx) hy)).trans (act_braid hy hx (by omega) c1.symm r2), fun s hs => ?_⟩
            simp only [List.mem_cons] at hs
            rcases hs with rfl | rfl | rfl | hs
            · exact hx
            · exact hy
            · exact hx
            · exact b2 s (by simp [hs])
        · simp at h
def eqv : List Int → List Int → Bool
  | [], w => w.isEmpty
  | x :: r, w => match bring (w.length + 1) x w with
    | none => false
    | some v => eqv r v
theorem eqv_ok {m : Nat} : ∀ (w v : List Int), eqv w v = true → okL m v → Act m w v
  | [], v, h, _ => by
    have : v = [] := by simpa [eqv] using h
    subst this
    exact Act.refl _ _
  | x :: r, v, h, ok => by
    unfold eqv at h
    cases h1 : bring (v.length + 1) x v with
    | none => rw [h1] at h; simp at h
    | some u =>
      rw [h1] at h
      obtain ⟨a, b⟩ := bring_ok _ x v u h1 ok
      exact (Act.cons (eqv_ok r u h fun s hs => b s (by simp [hs])) (b x (by simp))).trans a.symm
/-! ### single dances -/
theorem near1 {m : Nat} {l l' : List Int} (h : Mv m l l') (ok : okL m l) : Act m l l' ∧ okL m l' := by
  cases h with
  | ins a b s h1 h2 =>
    have hs : 1 ≤ s.natAbs ∧ s.natAbs < m := ⟨h1, by omega⟩
    refine ⟨?_, ?_⟩
    · rw [List.append_assoc]
      exact Act.app (Act.refl _ a) (act_undo hs b).symm ok.left
    · intro x hx
      simp only [List.mem_append, List.mem_cons, List.not_mem_nil, or_false] at hx
      rcases hx with (hx | rfl | rfl) | hx
      · exact ok x (by simp [hx])
      · exact hs
      · omega
      · exact ok x (by simp [hx])
  | del a b x y e =>
    have hy := ok y (by simp)
    have hx := ok x (by simp)
    refine ⟨Act.app (Act.refl _ a) ?_ ok.left, fun z hz => ok z (by simp at hz ⊢; rcases hz with hz | hz <;> simp [hz])⟩
    have : y = 0 - x := by omega
    subst this
    exact act_undo hx b
  | far a b x y e =>
    have hy := ok y (by simp)
    have hx := ok x (by simp)
    refine ⟨?_, fun z hz => ok z (by simp at hz ⊢; rcases hz with hz | hz | hz | hz <;> simp [hz])⟩
    rw [List.append_assoc]
    exact Act.app (Act.refl _ a) (act_far hx hy e b) ok.left
  | braid a b x y e1 e2 =>
    have hy := ok y (by simp)
    have hx := ok x (by simp)
    refine ⟨?_, fun z hz => ok z (by simp at hz ⊢; rcases hz with hz | hz | hz | hz | hz <;> simp [hz])⟩
    rw [List.append_assoc]
    exact Act.app (Act.refl _ a) (act_braid hx hy e2 e1 b) ok.left
theorem near_act {m : Nat} {l l' : List Int} (h : Near m l l') (ok : okL m l) : Act m l l' ∧ okL m l' := by
  induction h with
  | refl => exact ⟨Act.refl _ _, ok⟩
  | step _ hv ih =>
    obtain ⟨a, b⟩ := ih
    obtain ⟨c, d⟩ := near1 hv b
    exact ⟨a.trans c, d⟩
/-! ### inverses, far words -/
def inv (w : List Int) : List Int := w.reverse.map fun s => 0 - s
theorem act_inv {m : Nat} : ∀ (w : List Int), okL m w → Act m (w ++ inv w) []
  | [], _ => Act.refl _ _
  | x :: w, ok => by
    have hx := ok x (by simp)
    have hw : okL m w := fun s hs => ok s (by simp [hs])
    have e : (x :: w) ++ inv (x :: w) = x :: ((w ++ inv w) ++ [0 - x]) := by simp [inv]
    rw [e]
    have ih := act_inv w hw
    have hi : okL m (inv w) := fun s hs => by
      unfold inv at hs
      obtain ⟨y, hy, rfl⟩ := List.mem_map.mp hs
      have := hw y (List.mem_reverse.mp hy)
      omega
    exact (Act.cons (Act.app ih (Act.refl _ [0 - x]) (hw.app hi)) hx).trans (act_undo hx [])
theorem act_far1 {m : Nat} {x : Int} (hx : 1 ≤ x.natAbs ∧ x.natAbs < m) : ∀ (w : List Int), okL m w → (∀ y ∈ w, 1 < ((x.natAbs : Int) - (y.natAbs : Int)).natAbs) → Act m (x :: w) (w ++ [x])
  | [], _, _ => Act.refl _ _
  | y :: w, ok, h => by
    have hy := ok y (by simp)
    exact (act_far hx hy (h y (by simp)) w).trans (Act.cons (act_far1 hx w (fun s hs => ok s (by simp [hs])) fun z hz => h z (by simp [hz])) hy)
theorem act_fars {m : Nat} : ∀ (v w : List Int), okL m v → okL m w → (∀ x ∈ v, ∀ y ∈ w, 1 < ((x.natAbs : Int) - (y.natAbs : Int)).natAbs) → Act m (v ++ w) (w ++ v)
  | [], w, _, _, _ => by rw [List.append_nil]; exact Act.refl _ _
  | x :: v, w, ov, ow, h => by
    have hx := ov x (by simp)
    have hv : okL m v := fun s hs => ov s (by simp [hs])
    have ih := act_fars v w hv ow fun a ha => h a (by simp [ha])
    have e : w ++ x :: v = (w ++ [x]) ++ v := by simp
    rw [e]
    refine (Act.cons ih hx).trans ?_
    have := Act.app (act_far1 hx w ow (h x (by simp))) (Act.refl m v) (fun s hs => by
      rcases List.mem_cons.mp hs with rfl | hs
      · exact hx
      · exact ow s hs)
    exact this
end Mi
end
section
set_option linter.all false
set_option maxRecDepth 100000
set_option maxHeartbeats 1000000
/-! R1: words alike by moves. -/
namespace Mi
open Mp
def okx (m : Nat) (x : Int) : Prop := 1 ≤ x.natAbs ∧ x.natAbs < m
/-- alike by moves -/
inductive Br (m : Nat) : List Int → List Int → Prop
  | refl (w : List Int) : Br m w w
  | undo (a b : List Int) (x : Int) : okx m x → Br m (a ++ x :: (0 - x) :: b) (a ++ b)
  | far (a b : List Int) (x y : Int) : okx m x → okx m y → 1 < ((x.natAbs : Int) - (y.natAbs : Int)).natAbs → Br m (a ++ x :: y :: b) (a ++ y :: x :: b)
  | braid (a b : List Int) (x y : Int) : okx m x → okx m y → ((x.natAbs : Int) - (y.natAbs : Int)).natAbs = 1 → (0 < x ↔ 0 < y) → Br m (a ++ x :: y :: x :: b) (a ++ y :: x :: y :: b)
  | symm {w v : List Int} : Br m w v → Br m v w
  | trans {w v u : List Int} : Br m w v → Br m v u → Br m w u
theorem Br.ctx {m : Nat} {w v : List Int} (h : Br m w v) (c d : List Int) : Br m (c ++ (w ++ d)) (c ++ (v ++ d)) := by
  induction h with
  | refl w => exact .refl _
  | undo a b x ok =>
    have := Br.undo (m := m) (c ++ a) (b ++ d) x ok
    simpa [List.append_assoc] using this
  | far a b x y hx hy h =>
    have := Br.far (m := m) (c ++ a) (b ++ d) x y hx hy h
    simpa [List.append_assoc] using this
  | braid a b x y hx hy h s =>
    have := Br.braid (m := m) (c ++ a) (b ++ d) x y hx hy h s
    simpa [List.append_assoc] using this
  | symm _ ih => exact ih.symm
  | trans _ _ ih1 ih2 => exact ih1.trans ih2
theorem Br.app {m : Nat} {w v w' v' : List Int} (h : Br m w v) (k : Br m w' v') : Br m (w ++ w') (v ++ v') := by
  have a := h.ctx [] w'
  have b := k.ctx v []
  simp only [List.nil_append, List.append_nil] at a b
  exact a.trans b
theorem Br.cons {m : Nat} {w v : List Int} (x : Int) (h : Br m w v) : Br m (x :: w) (x :: v) := Br.app (Br.refl [x]) h
theorem Br.end_ {m : Nat} {w v : List Int} (h : Br m w v) (d : List Int) : Br m (w ++ d) (v ++ d) := Br.app h (Br.refl d)
theorem br_undo {m : Nat} {x : Int} (ok : okx m x) (w : List Int) : Br m (x :: (0 - x) :: w) w := Br.undo [] w x ok
theorem br_undo' {m : Nat} {x : Int} (ok : okx m x) (w : List Int) : Br m ((0 - x) :: x :: w) w := by
  have := Br.undo (m := m) [] w (0 - x) (by unfold okx at *; omega)
  rw [show (0 - (0 - x)) = x by omega] at this
  exact this
theorem br_far {m : Nat} {x y : Int} (hx : okx m x) (hy : okx m y) (h : 1 < ((x.natAbs : Int) - (y.natAbs : Int)).natAbs) (w : List Int) : Br m (x :: y :: w) (y :: x :: w) := Br.far [] w x y hx hy h
theorem br_braid {m : Nat} {x y : Int} (hx : okx m x) (hy : okx m y) (h : ((x.natAbs : Int) - (y.natAbs : Int)).natAbs = 1) (s : 0 < x ↔ 0 < y) (w : List Int) : Br m (x :: y :: x :: w) (y :: x :: y :: w) := Br.braid [] w x y hx hy h s
theorem Br.ok {m : Nat} {w v : List Int} (h : Br m w v) : okL m w ↔ okL m v := by
  induction h with
  | refl => exact Iff.rfl
  | undo a b x ok =>
    refine ⟨fun q s hs => q s (by simp at hs ⊢; rcases hs with hs | hs <;> simp [hs]), fun q s hs => ?_⟩
    simp only [List.mem_append, List.mem_cons] at hs
    unfold okx at ok
    rcases hs with hs | rfl | rfl | hs
    · exact q s (by simp [hs])
    · exact ok
    · omega
    · exact q s (by simp [hs])
  | far a b x y hx hy h => exact ⟨fun q s hs => q s (by simp at hs ⊢; rcases hs with hs | hs | hs | hs <;> simp [hs]), fun q s hs => q s (by simp at hs ⊢; rcases hs with hs | hs | hs | hs <;> simp [hs])⟩
  | braid a b x y hx hy h s => exact ⟨fun q s hs => q s (by simp at hs ⊢; rcases hs with hs | hs | hs | hs | hs <;> simp [hs]), fun q s hs => q s (by simp at hs ⊢; rcases hs with hs | hs | hs | hs | hs <;> simp [hs])⟩
  | symm _ ih => exact ih.symm
  | trans _ _ ih1 ih2 => exact ih1.trans ih2
/-- alike words do the same -/
theorem Br.act {m : Nat} {w v : List Int} (h : Br m w v) : okL m w → Act m w v := by
  induction h with
  | refl => exact fun _ => Act.refl _ _
  | undo a b x ok => exact fun q => Act.app (Act.refl _ a) (act_undo ok b) q.left
  | far a b x y hx hy h => exact fun q => Act.app (Act.refl _ a) (act_far hx hy h b) q.left
  | braid a b x y hx hy h s => exact fun q => Act.app (Act.refl _ a) (act_braid hx hy h s b) q.left
  | symm h ih => exact fun q => (ih (h.ok.mpr q)).symm
  | trans h1 h2 ih1 ih2 => exact fun q => (ih1 q).trans (ih2 (h1.ok.mp q))
theorem mv_br {m : Nat} {l l' : List Int} (h : Mv m l l') (ok : okL m l) : Br m l l' := by
  cases h with
  | ins a b s h1 h2 =>
    rw [List.append_assoc]
    exact (Br.undo a b s ⟨h1, by omega⟩).symm
  | del a b x y e =>
    have hx := ok x (by simp)
    have : y = 0 - x := by omega
    subst this
    exact Br.undo a b x hx
  | far a b x y e =>
    rw [List.append_assoc]
    exact Br.far a b x y (ok x (by simp)) (ok y (by simp)) e
  | braid a b x y e1 e2 =>
    rw [List.append_assoc]
    exact Br.braid a b x y (ok x (by simp)) (ok y (by simp)) e2 e1
theorem near_br {m : Nat} {l l' : List Int} (h : Near m l l') (ok : okL m l) : Br m l l' := by
  induction h with
  | refl => exact .refl _
  | step _ hv ih => exact ih.trans (mv_br hv (ih.ok.mp ok))
theorem bring_br {m : Nat} : ∀ (f : Nat) (x : Int) (w v : List Int), bring f x w = some v → okL m w → Br m w (x :: v) ∧ okL m (x :: v)
  | 0, x, w, v, h, _ => by simp [bring] at h
  | f + 1, x, [], v, h, _ => by simp [bring] at h
  | f + 1, x, y :: r, v, h, ok => by
    have hy := ok y (by simp)
    have hr : okL m r := fun s hs => ok s (by simp [hs])
    unfold bring at h
    by_cases e : x = y
    · rw [if_pos e] at h
      subst e
      injection h with h
      subst h
      exact ⟨.refl _, ok⟩
    · rw [if_neg e] at h
      by_cases hf : 1 < ((x.natAbs : Int) - (y.natAbs : Int)).natAbs
      · rw [if_pos hf] at h
        obtain ⟨r1, h1, rfl⟩ := Option.map_eq_some_iff.mp h
        obtain ⟨a, b⟩ := bring_br f x r r1 h1 hr
        have hx := b x (by simp)
        have t := (Br.cons y a).trans (br_far hy hx (by omega) r1)
        exact ⟨t, t.ok.mp ok⟩
      · rw [if_neg hf] at h
        split at h
        · rename_i hc
          rw [Bool.and_eq_true] at hc
          obtain ⟨c1, c2⟩ := hc
          have c2 := of_decide_eq_true c2
          have c1 : (0 < x ↔ 0 < y) := by simpa using c1
          cases h1 : bring f x r with
          | none => rw [h1] at h; simp at h
          | some r1 =>
            rw [h1] at h
            obtain ⟨r2, h2, rfl⟩ := Option.map_eq_some_iff.mp h
            obtain ⟨a, b⟩ := bring_br f x r r1 h1 hr
            have hx := b x (by simp)
            obtain ⟨a2, b2⟩ := bring_br f y r1 r2 h2 fun s hs => b s (by simp [hs])
            have t := ((Br.cons y a).trans (Br.cons y (Br.cons x a2))).trans (br_braid hy hx (by omega) c1.symm r2)
            exact ⟨t, t.ok.mp ok⟩
        · simp at h
theorem eqv_br {m : Nat} : ∀ (w v : List Int), eqv w v = true → okL m v → Br m w v
  | [], v, h, _ => by
    have : v = [] := by simpa [eqv] using h
    subst this
    exact .refl _
  | x :: r, v, h, ok => by
    unfold eqv at h
    cases h1 : bring (v.length + 1) x v with
    | none => rw [h1] at h; simp at h
    | some u =>
      rw [h1] at h
      obtain ⟨a, b⟩ := bring_br _ x v u h1 ok
      exact (Br.cons x (eqv_br r u h fun s hs => b s (by simp [hs]))).trans a.symm
theorem okx_neg {m : Nat} {x : Int} (h : okx m x) : okx m (0 - x) := by unfold okx at *; omega
theorem inv_app (a b : List Int) : inv (a ++ b) = inv b ++ inv a := by simp [inv]
theorem inv_inv (a : List Int) : inv (inv a) = a := by
  unfold inv
  rw [← List.map_reverse, List.reverse_reverse, List.map_map]
  have : ((fun s : Int => 0 - s) ∘ fun s => 0 - s) = id := by funext s; simp
  rw [this, List.map_id]
theorem okL_inv {m : Nat} {w : List Int} (h : okL m w) : okL m (inv w) := fun s hs => by
  unfold inv at hs
  obtain ⟨y, hy, rfl⟩ := List.mem_map.mp hs
  exact okx_neg (h y (List.mem_reverse.mp hy))
theorem br_inv {m : Nat} : ∀ (w : List Int), okL m w → Br m (w ++ inv w) []
  | [], _ => .refl _
  | x :: w, ok => by
    have hx : okx m x := ok x (by simp)
    have hw : okL m w := fun s hs => ok s (by simp [hs])
    have e : (x :: w) ++ inv (x :: w) = x :: ((w ++ inv w) ++ [0 - x]) := by simp [inv]
    rw [e]
    exact (Br.cons x ((br_inv w hw).end_ [0 - x])).trans (br_undo hx [])
theorem br_inv' {m : Nat} (w : List Int) (ok : okL m w) : Br m (inv w ++ w) [] := by
  have := br_inv (inv w) (okL_inv ok)
  rw [inv_inv] at this
  exact this
theorem Br.inv {m : Nat} {w v : List Int} (h : Br m w v) : Br m (Mi.inv w) (Mi.inv v) := by
  induction h with
  | refl => exact .refl _
  | undo a b x ok =>
    simp only [inv_app]
    have : Mi.inv (x :: (0 - x) :: b) = Mi.inv b ++ [x, 0 - x] := by simp [Mi.inv]
    rw [this]
    have := Br.undo (m := m) (Mi.inv b) (Mi.inv a) x ok
    simpa [List.append_assoc] using this
  | far a b x y hx hy h =>
    simp only [inv_app]
    have e1 : Mi.inv (x :: y :: b) = Mi.inv b ++ [0 - y, 0 - x] := by simp [Mi.inv]
    have e2 : Mi.inv (y :: x :: b) = Mi.inv b ++ [0 - x, 0 - y] := by simp [Mi.inv]
    rw [e1, e2]
    have := Br.far (m := m) (Mi.inv b) (Mi.inv a) (0 - y) (0 - x) (okx_neg hy) (okx_neg hx) (by omega)
    simpa [List.append_assoc] using this
  | braid a b x y hx hy h s =>
    simp only [inv_app]
    have e1 : Mi.inv (x :: y :: x :: b) = Mi.inv b ++ [0 - x, 0 - y, 0 - x] := by simp [Mi.inv]
    have e2 : Mi.inv (y :: x :: y :: b) = Mi.inv b ++ [0 - y, 0 - x, 0 - y] := by simp [Mi.inv]
    rw [e1, e2]
    have := Br.braid (m := m) (Mi.inv b) (Mi.inv a) (0 - x) (0 - y) (okx_neg hx) (okx_neg hy) (by omega) (by unfold okx at hx hy; omega)
    simpa [List.append_assoc] using this
  | symm _ ih => exact ih.symm
  | trans _ _ ih1 ih2 => exact ih1.trans ih2
end Mi
end
section
set_option linter.all false
set_option maxRecDepth 100000
set_option maxHeartbeats 1000000
/-! R2: every word is by moves a path of one strand to place 1, and behind it steps of the others. -/
namespace Mi
open Mp
section
variable {m : Nat} {s x : Int}
def adj (s x : Int) : Prop := ((s.natAbs : Int) - (x.natAbs : Int)).natAbs = 1
theorem adj.symm (h : adj s x) : adj x s := by unfold adj at *; omega
theorem adj.neg (h : adj s x) : adj (0 - s) (0 - x) := by unfold adj at *; omega
/-- s x s^-1 is x^-1 s x -/
theorem br_c1 (hs : okx m s) (hx : okx m x) (ha : adj s x) (hg : 0 < s ↔ 0 < x) (w : List Int) : Br m (s :: x :: (0 - s) :: w) ((0 - x) :: s :: x :: w) :=
  ((br_undo' hx _).symm).trans ((Br.cons (0 - x) (br_braid hx hs (ha.symm) hg.symm ((0 - s) :: w))).trans (Br.cons (0 - x) (Br.cons s (Br.cons x (br_undo hs w)))))
/-- s^-1 x s is x s x^-1 -/
theorem br_c2 (hs : okx m s) (hx : okx m x) (ha : adj s x) (hg : 0 < s ↔ 0 < x) (w : List Int) : Br m ((0 - s) :: x :: s :: w) (x :: s :: (0 - x) :: w) :=
  ((Br.cons (0 - s) (Br.cons x (Br.cons s (br_undo hx w)))).symm).trans ((Br.cons (0 - s) (br_braid hx hs ha.symm hg.symm ((0 - x) :: w))).trans (br_undo' hs _))
/-- x^-1 s^-1 x is s x^-1 s^-1 -/
theorem br_c3 (hs : okx m s) (hx : okx m x) (ha : adj s x) (hg : 0 < s ↔ 0 < x) (w : List Int) : Br m ((0 - x) :: (0 - s) :: x :: w) (s :: (0 - x) :: (0 - s) :: w) := by
  have := br_c1 (m := m) (s := 0 - x) (x := 0 - s) (okx_neg hx) (okx_neg hs) ha.symm.neg (by unfold okx at hs hx; omega) w
  rw [show (0 - (0 - x)) = x by omega, show (0 - (0 - s)) = s by omega] at this
  exact this
theorem br_i2b (hs : okx m s) (hx : okx m x) (ha : adj s x) (hg : 0 < s ↔ 0 < x) (w : List Int) : Br m (s :: (0 - x) :: s :: w) ((0 - x) :: (0 - s) :: (0 - s) :: x :: x :: s :: x :: w) := by
  refine Br.symm ?_
  have e1 : Br m ((0 - x) :: (0 - s) :: (0 - s) :: x :: x :: s :: x :: w) ((0 - x) :: (0 - s) :: (0 - s) :: x :: s :: x :: s :: w) := Br.cons _ (Br.cons _ (Br.cons _ (Br.cons _ (br_braid hx hs ha.symm hg.symm w))))
  have e2 : Br m ((0 - x) :: (0 - s) :: (0 - s) :: x :: s :: x :: s :: w) ((0 - x) :: (0 - s) :: (0 - s) :: s :: x :: s :: s :: w) := Br.cons _ (Br.cons _ (Br.cons _ (br_braid hx hs ha.symm hg.symm (s :: w))))
  have e3 : Br m ((0 - x) :: (0 - s) :: (0 - s) :: s :: x :: s :: s :: w) ((0 - x) :: (0 - s) :: x :: s :: s :: w) := Br.cons _ (Br.cons _ (br_undo' hs _))
  have e4 := br_c3 hs hx ha hg (s :: s :: w)
  have e5 : Br m (s :: (0 - x) :: (0 - s) :: s :: s :: w) (s :: (0 - x) :: s :: w) := Br.cons _ (Br.cons _ (br_undo' hs _))
  exact (((e1.trans e2).trans e3).trans e4).trans e5
theorem br_i3a (hs : okx m s) (hx : okx m x) (ha : adj s x) (hg : 0 < s ↔ 0 < x) (w : List Int) : Br m (s :: x :: x :: w) ((0 - x) :: s :: s :: x :: s :: w) := by
  refine Br.symm ?_
  have e1 : Br m ((0 - x) :: s :: s :: x :: s :: w) ((0 - x) :: s :: x :: s :: x :: w) := Br.cons _ (Br.cons _ (br_braid hs hx ha hg w))
  have e2 : Br m ((0 - x) :: s :: x :: s :: x :: w) ((0 - x) :: x :: s :: x :: x :: w) := Br.cons _ (br_braid hs hx ha hg (x :: w))
  exact (e1.trans e2).trans (br_undo' hx _)
theorem br_i3b (hs : okx m s) (hx : okx m x) (ha : adj s x) (hg : 0 < s ↔ 0 < x) (w : List Int) : Br m (s :: (0 - x) :: (0 - x) :: w) ((0 - x) :: (0 - s) :: (0 - s) :: x :: s :: w) := by
  refine Br.symm ?_
  have e1 : Br m ((0 - x) :: (0 - s) :: (0 - s) :: x :: s :: w) ((0 - x) :: (0 - s) :: x :: s :: (0 - x) :: w) := Br.cons _ (Br.cons _ (br_c2 hs hx ha hg w))
  have e2 := br_c3 hs hx ha hg (s :: (0 - x) :: w)
  exact (e1.trans e2).trans (Br.cons _ (Br.cons _ (br_undo' hs _)))
end
/-- the steps of one strand from a place to place 1 -/
inductive Pth (n : Nat) : Nat → List Int → Prop
  | nil : Pth n 1 []
  | L {j : Nat} {x : Int} {u : List Int} : x.natAbs = j → 1 ≤ j → j + 1 ≤ n → Pth n j u → Pth n (j + 1) (x :: u)
  | R {j : Nat} {x : Int} {u : List Int} : x.natAbs = j → 1 ≤ j → j + 1 ≤ n → Pth n (j + 1) u → Pth n j (x :: u)
theorem Pth.ok {n k : Nat} {u : List Int} (h : Pth n k u) : okL n u := by
  induction h with
  | nil => intro s hs; simp at hs
  | L h1 h2 h3 _ ih =>
    intro s hs
    rcases List.mem_cons.mp hs with rfl | hs
    · omega
    · exact ih s hs
  | R h1 h2 h3 _ ih =>
    intro s hs
    rcases List.mem_cons.mp hs with rfl | hs
    · omega
    · exact ih s hs
theorem Pth.pos {n k : Nat} {u : List Int} (h : Pth n k u) : 1 ≤ k := by cases h <;> omega
theorem slide {n : Nat} : ∀ (N : Nat) (u : List Int), u.length ≤ N → ∀ (k : Nat) (s : Int), Pth n k u → okx n s → k ≠ s.natAbs → k ≠ s.natAbs + 1 → ∃ (v : List Int) (t : Int), Pth n k v ∧ okx n t ∧ 2 ≤ t.natAbs ∧ Br n (s :: u) (v ++ [t])
  | N, u, hN, k, s, h, hs, hk1, hk2 => by
    cases h with
    | nil => exact ⟨[], s, .nil, hs, by unfold okx at hs; omega, .refl _⟩
    | @L j x u h1 h2 h3 h =>
      have hx : okx n x := ⟨by omega, by omega⟩
      cases N with
      | zero => simp at hN
      | succ N =>
        have hN' : u.length ≤ N := by simpa using hN
        by_cases hf : 1 < ((s.natAbs : Int) - (x.natAbs : Int)).natAbs
        · obtain ⟨v, t, a, b, c, d⟩ := slide N u hN' j s h hs (by omega) (by omega)
          exact ⟨x :: v, t, .L h1 h2 h3 a, b, c, (br_far hs hx hf u).trans (Br.cons x d)⟩
        · have ha : adj s x := by unfold adj; omega
          have hj : j = s.natAbs + 1 := by unfold adj at ha; omega
          have hs1 : 1 ≤ s.natAbs := hs.1
          subst hj
          generalize hi : s.natAbs = i at *
          cases h with
          | nil => omega
          | @L _ y u g1 g2 g3 h =>
            have hl : u.length ≤ N := by simp at hN'; omega
            have hy : y = s ∨ y = 0 - s := by omega
            by_cases hg : 0 < s ↔ 0 < x
            · obtain ⟨v, t, a, b, c, d⟩ := slide N u hl i x h hx (by omega) (by omega)
              rcases hy with rfl | rfl
              · exact ⟨x :: y :: v, t, .L h1 h2 h3 (.L g1 g2 g3 a), b, c, (br_braid hs hx ha hg u).trans (Br.cons _ (Br.cons _ d))⟩
              · exact ⟨(0 - x) :: s :: v, t, .L (by omega) h2 h3 (.L (by omega) g2 g3 a), b, c, (br_c1 hs hx ha hg u).trans (Br.cons _ (Br.cons _ d))⟩
            · obtain ⟨z, rfl⟩ : ∃ z, x = 0 - z := ⟨0 - x, by omega⟩
              have hz : okx n z := by unfold okx at *; omega
              have haz : adj s z := by unfold adj at *; omega
              have hgz : 0 < s ↔ 0 < z := by unfold okx at *; omega
              obtain ⟨v, t, a, b, c, d⟩ := slide N u hl i z h hz (by omega) (by omega)
              rcases hy with rfl | rfl
              · refine ⟨(0 - z) :: (0 - y) :: (0 - y) :: z :: z :: y :: v, t, .L h1 h2 h3 (.L (by omega) g2 g3 (.R (by omega) g2 g3 (.R (by omega) h2 h3 (.L (by omega) h2 h3 (.L g1 g2 g3 a))))), b, c, ?_⟩
                exact (br_i2b hs hz haz hgz u).trans (Br.cons _ (Br.cons _ (Br.cons _ (Br.cons _ (Br.cons _ (Br.cons _ d))))))
              · exact ⟨(0 - z) :: (0 - s) :: v, t, .L h1 h2 h3 (.L g1 g2 g3 a), b, c, (br_c3 hs hz haz hgz u).symm.trans (Br.cons _ (Br.cons _ d))⟩
          | @R _ y u g1 g2 g3 h =>
            have hl : u.length ≤ N := by simp at hN'; omega
            have hy : y = x ∨ y = 0 - x := by omega
            obtain ⟨v, t, a, b, c, d⟩ := slide N u hl _ s h hs (by omega) (by omega)
            rcases hy with rfl | rfl
            · by_cases hg : 0 < s ↔ 0 < y
              · refine ⟨(0 - y) :: s :: s :: y :: v, t, .L (by omega) h2 h3 (.L hi hs1 (by omega) (.R hi hs1 (by omega) (.R h1 h2 h3 a))), b, c, ?_⟩
                exact (br_i3a hs hx ha hg u).trans (Br.cons _ (Br.cons _ (Br.cons _ (Br.cons _ d))))
              · obtain ⟨z, rfl⟩ : ∃ z, y = 0 - z := ⟨0 - y, by omega⟩
                have hz : okx n z := by unfold okx at *; omega
                have haz : adj s z := by unfold adj at *; omega
                have hgz : 0 < s ↔ 0 < z := by unfold okx at *; omega
                refine ⟨(0 - z) :: (0 - s) :: (0 - s) :: z :: v, t, .L h1 h2 h3 (.L (by omega) hs1 (by omega) (.R (by omega) hs1 (by omega) (.R (by omega) h2 h3 a))), b, c, ?_⟩
                exact (br_i3b hs hz haz hgz u).trans (Br.cons _ (Br.cons _ (Br.cons _ (Br.cons _ d))))
            · exact ⟨v, t, a, b, c, (Br.cons s (br_undo hx u)).trans d⟩
    | @R _ x u h1 h2 h3 h =>
      have hx : okx n x := ⟨by omega, by omega⟩
      cases N with
      | zero => simp at hN
      | succ N =>
        have hN' : u.length ≤ N := by simpa using hN
        by_cases hf : 1 < ((s.natAbs : Int) - (x.natAbs : Int)).natAbs
        · obtain ⟨v, t, a, b, c, d⟩ := slide N u hN' (k + 1) s h hs (by omega) (by omega)
          exact ⟨x :: v, t, .R h1 h2 h3 a, b, c, (br_far hs hx hf u).trans (Br.cons x d)⟩
        · have ha : adj s x := by unfold adj; omega
          have hj : s.natAbs = k + 1 := by unfold adj at ha; omega
          have hs2 : s.natAbs + 1 ≤ n := hs.2
          generalize hi : s.natAbs = i at *
          subst hj
          cases h with
          | nil => omega
          | @R _ y u g1 g2 g3 h =>
            have hl : u.length ≤ N := by simp at hN'; omega
            have hy : y = s ∨ y = 0 - s := by omega
            by_cases hg : 0 < s ↔ 0 < x
            · obtain ⟨v, t, a, b, c, d⟩ := slide N u hl _ x h hx (by omega) (by omega)
              rcases hy with rfl | rfl
              · exact ⟨x :: y :: v, t, .R h1 h2 h3 (.R g1 g2 g3 a), b, c, (br_braid hs hx ha hg u).trans (Br.cons _ (Br.cons _ d))⟩
              · exact ⟨(0 - x) :: s :: v, t, .R (by omega) h2 h3 (.R (by omega) g2 g3 a), b, c, (br_c1 hs hx ha hg u).trans (Br.cons _ (Br.cons _ d))⟩
            · obtain ⟨z, rfl⟩ : ∃ z, x = 0 - z := ⟨0 - x, by omega⟩
              have hz : okx n z := by unfold okx at *; omega
              have haz : adj s z := by unfold adj at *; omega
              have hgz : 0 < s ↔ 0 < z := by unfold okx at *; omega
              obtain ⟨v, t, a, b, c, d⟩ := slide N u hl _ z h hz (by omega) (by omega)
              rcases hy with rfl | rfl
              · refine ⟨(0 - z) :: (0 - y) :: (0 - y) :: z :: z :: y :: v, t, .R h1 h2 h3 (.R (by omega) g2 g3 (.L (by omega) g2 g3 (.L (by omega) h2 h3 (.R (by omega) h2 h3 (.R g1 g2 g3 a))))), b, c, ?_⟩
                exact (br_i2b hs hz haz hgz u).trans (Br.cons _ (Br.cons _ (Br.cons _ (Br.cons _ (Br.cons _ (Br.cons _ d))))))
              · exact ⟨(0 - z) :: (0 - s) :: v, t, .R h1 h2 h3 (.R g1 g2 g3 a), b, c, (br_c3 hs hz haz hgz u).symm.trans (Br.cons _ (Br.cons _ d))⟩
          | @L _ y u g1 g2 g3 h =>
            have hl : u.length ≤ N := by simp at hN'; omega
            have hy : y = x ∨ y = 0 - x := by omega
            obtain ⟨v, t, a, b, c, d⟩ := slide N u hl _ s h hs (by omega) (by omega)
            rcases hy with rfl | rfl
            · by_cases hg : 0 < s ↔ 0 < y
              · refine ⟨(0 - y) :: s :: s :: y :: v, t, .R (by omega) h2 h3 (.R hi (by omega) hs2 (.L hi (by omega) hs2 (.L h1 h2 h3 a))), b, c, ?_⟩
                exact (br_i3a hs hx ha hg u).trans (Br.cons _ (Br.cons _ (Br.cons _ (Br.cons _ d))))
              · obtain ⟨z, rfl⟩ : ∃ z, y = 0 - z := ⟨0 - y, by omega⟩
                have hz : okx n z := by unfold okx at *; omega
                have haz : adj s z := by unfold adj at *; omega
                have hgz : 0 < s ↔ 0 < z := by unfold okx at *; omega
                refine ⟨(0 - z) :: (0 - s) :: (0 - s) :: z :: v, t, .R h1 h2 h3 (.R (by omega) (by omega) hs2 (.L (by omega) (by omega) hs2 (.L (by omega) h2 h3 a))), b, c, ?_⟩
                exact (br_i3b hs hz haz hgz u).trans (Br.cons _ (Br.cons _ (Br.cons _ (Br.cons _ d))))
            · exact ⟨v, t, a, b, c, (Br.cons s (br_undo hx u)).trans d⟩
/-- each word is a path and steps of the others -/
theorem decomp {n : Nat} : ∀ w : List Int, okL n w → ∃ (k : Nat) (u h : List Int), Pth n k u ∧ okL n h ∧ (∀ s ∈ h, 2 ≤ s.natAbs) ∧ Br n w (u ++ h)
  | [], _ => ⟨1, [], [], .nil, fun s hs => by simp at hs, fun s hs => by simp at hs, .refl _⟩
  | s :: w, ok => by
    have hs : okx n s := ok s (by simp)
    obtain ⟨k, u, h, p, oh, h2, b⟩ := decomp w fun x hx => ok x (by simp [hx])
    by_cases k1 : k = s.natAbs
    · exact ⟨s.natAbs + 1, s :: u, h, .L rfl hs.1 hs.2 (k1 ▸ p), oh, h2, Br.cons s b⟩
    · by_cases k2 : k = s.natAbs + 1
      · exact ⟨s.natAbs, s :: u, h, .R rfl hs.1 hs.2 (k2 ▸ p), oh, h2, Br.cons s b⟩
      · obtain ⟨v, t, a, ht, t2, d⟩ := slide u.length u (Nat.le_refl _) k s p hs k1 k2
        refine ⟨k, v, t :: h, a, fun x hx => ?_, fun x hx => ?_, (Br.cons s b).trans ?_⟩
        · rcases List.mem_cons.mp hx with rfl | hx
          · exact ht
          · exact oh x hx
        · rcases List.mem_cons.mp hx with rfl | hx
          · exact t2
          · exact h2 x hx
        · have := d.end_ h
          simpa using this
def Rd : List Int → Prop
  | [] => True
  | [_] => True
  | x :: y :: w => y ≠ 0 - x ∧ Rd (y :: w)
theorem Rd.tail {x : Int} {w : List Int} (h : Rd (x :: w)) : Rd w := by
  cases w with
  | nil => trivial
  | cons y w => exact h.2
theorem reduce {n k : Nat} {u : List Int} (h : Pth n k u) : ∃ v, Pth n k v ∧ Rd v ∧ Br n u v := by
  induction h with
  | nil => exact ⟨[], .nil, trivial, .refl _⟩
  | @L j x u h1 h2 h3 _ ih =>
    obtain ⟨v, p, r, b⟩ := ih
    have hx : okx n x := ⟨by omega, by omega⟩
    cases v with
    | nil => exact ⟨[x], .L h1 h2 h3 p, trivial, Br.cons x b⟩
    | cons y v =>
      by_cases e : y = 0 - x
      · subst e
        cases p with
        | L g1 g2 g3 p => omega
        | R g1 g2 g3 p => exact ⟨v, p, r.tail, (Br.cons x b).trans (br_undo hx v)⟩
      · exact ⟨x :: y :: v, .L h1 h2 h3 p, ⟨e, r⟩, Br.cons x b⟩
  | @R j x u h1 h2 h3 _ ih =>
    obtain ⟨v, p, r, b⟩ := ih
    have hx : okx n x := ⟨by omega, by omega⟩
    cases v with
    | nil => exact ⟨[x], .R h1 h2 h3 p, trivial, Br.cons x b⟩
    | cons y v =>
      by_cases e : y = 0 - x
      · subst e
        generalize hk : j + 1 = k at p
        cases p with
        | @L i _ _ g1 g2 g3 p =>
          have : i = j := by omega
          subst this
          exact ⟨v, p, r.tail, (Br.cons x b).trans (br_undo hx v)⟩
        | R g1 g2 g3 p => omega
      · exact ⟨x :: y :: v, .R h1 h2 h3 p, ⟨e, r⟩, Br.cons x b⟩
end Mi
end
section
set_option linter.all false
set_option maxRecDepth 100000
set_option maxHeartbeats 1000000
/-! R3: numbers are faithful: a dance that leaves the numbers of no step is undone by moves. -/
namespace Mi
open Mp
def An (v : List Int) (i : Nat) : Int := v.getD (2 * i - 2) 0
def Bn (v : List Int) (i : Nat) : Int := v.getD (2 * i - 1) 0
theorem getD_pre {pre suf : List Int} {k : Nat} (h : k < pre.length) : (pre ++ suf).getD k 0 = pre.getD k 0 := by
  simp [List.getD_eq_getElem?_getD, List.getElem?_append_left h]
theorem getD_suf {pre suf : List Int} (k : Nat) : (pre ++ suf).getD (pre.length + k) 0 = suf.getD k 0 := by
  simp [List.getD_eq_getElem?_getD, List.getElem?_append_right]
theorem step_ab {v : List Int} {x : Int} {i : Nat} (hi : x.natAbs = i) (h1 : 1 ≤ i) (hl : 2 * i + 2 ≤ v.length) :
    FourR x (An v i) (Bn v i) (An v (i + 1)) (Bn v (i + 1)) (An (stepN v x) i) (Bn (stepN v x) i) (An (stepN v x) (i + 1)) (Bn (stepN v x) (i + 1)) ∧
    ∀ t, 1 ≤ t → t ≠ i → t ≠ i + 1 → An (stepN v x) t = An v t ∧ Bn (stepN v x) t = Bn v t := by
  subst hi
  obtain ⟨pre, p, q, r, s, suf, rfl, hp⟩ := cut4 h1 hl
  obtain ⟨p', q', r', s', e, hf⟩ := four_r x p q r s
  rw [stepN_at hp, e]
  have w : pre ++ ([p', q', r', s'] ++ suf) = pre ++ (p' :: q' :: r' :: s' :: suf) := rfl
  rw [w]
  have g : ∀ (a b c d : Int), An (pre ++ (a :: b :: c :: d :: suf)) x.natAbs = a ∧ Bn (pre ++ (a :: b :: c :: d :: suf)) x.natAbs = b ∧ An (pre ++ (a :: b :: c :: d :: suf)) (x.natAbs + 1) = c ∧ Bn (pre ++ (a :: b :: c :: d :: suf)) (x.natAbs + 1) = d := fun a b c d => by
    unfold An Bn
    rw [show 2 * x.natAbs - 2 = pre.length + 0 by omega, show 2 * x.natAbs - 1 = pre.length + 1 by omega, show 2 * (x.natAbs + 1) - 2 = pre.length + 2 by omega, show 2 * (x.natAbs + 1) - 1 = pre.length + 3 by omega, getD_suf, getD_suf, getD_suf, getD_suf]
    exact ⟨rfl, rfl, rfl, rfl⟩
  obtain ⟨a1, a2, a3, a4⟩ := g p q r s
  obtain ⟨b1, b2, b3, b4⟩ := g p' q' r' s'
  refine ⟨by rw [a1, a2, a3, a4, b1, b2, b3, b4]; exact hf, fun t ht t1 t2 => ?_⟩
  unfold An Bn
  rcases Nat.lt_or_ge t x.natAbs with q | q
  · rw [getD_pre (by omega), getD_pre (by omega), getD_pre (by omega), getD_pre (by omega)]
    exact ⟨rfl, rfl⟩
  · obtain ⟨k, hk⟩ : ∃ k, 2 * t - 2 = pre.length + (4 + k) := ⟨2 * t - 2 - pre.length - 4, by omega⟩
    rw [hk, show 2 * t - 1 = pre.length + (4 + k + 1) by omega, getD_suf, getD_suf, getD_suf, getD_suf]
    have c : ∀ (a b c d : Int) (j : Nat), (a :: b :: c :: d :: suf).getD (4 + j) 0 = suf.getD j 0 := fun a b c d j => by
      rw [show 4 + j = j + 1 + 1 + 1 + 1 by omega]
      rfl
    rw [c, Nat.add_assoc, c, c, c]
    exact ⟨rfl, rfl⟩
/-! ### the cones -/
theorem st_left {p q r s p' q' r' s' : Int} (h : St p q r s p' q' r' s') (c : (s ≤ 0 ∧ (s = 0 → 1 ≤ q)) ∨ (1 ≤ s ∧ r < p)) : q' ≤ 0 ∧ (q' = 0 → s = 0) ∧ r' < p' := by
  obtain ⟨a, b, d, e⟩ := h
  omega
theorem st_left0 {p' q' r' s' : Int} (h : St 0 1 0 1 p' q' r' s') : q' ≤ 0 ∧ r' < p' := by
  obtain ⟨a, b, d, e⟩ := h
  omega
theorem st_right {p q r s p' q' r' s' : Int} (h : St p q r s p' q' r' s') (c : 1 ≤ q ∨ (q ≤ 0 ∧ r < p)) : 1 ≤ s' ∧ r' < p' := by
  obtain ⟨a, b, d, e⟩ := h
  omega
structure InvL (v : List Int) (j : Nat) (x : Int) : Prop where
  b : Bn v j ≤ 0
  z : Bn v j = 0 → ∀ i, 1 ≤ i → i < j → 1 ≤ Bn v i
  p : 0 < x → An v (j + 1) < An v j
  n : x < 0 → An v j < An v (j + 1)
structure InvR (v : List Int) (j : Nat) (x : Int) : Prop where
  b : 1 ≤ Bn v j
  p : 0 < x → An v j < An v (j - 1)
  n : x < 0 → An v (j - 1) < An v j
theorem pp {n : Nat} {j : Nat} {u : List Int} (h : Pth n j u) : ∀ (v : List Int) (x : Int), v.length = 2 * n → Rd (x :: u) → okx n x → (x.natAbs = j ∧ InvL v j x) ∨ (x.natAbs + 1 = j ∧ InvR v j x) → Bn (u.foldl stepN v) 1 ≤ 0 := by
  induction h with
  | nil =>
    intro v x hl _ hx hi
    rcases hi with ⟨_, hi⟩ | ⟨hi, _⟩
    · exact hi.b
    · unfold okx at hx; omega
  | @L j y u h1 h2 h3 _ ih =>
    intro v x hl hr hx hi
    have hy : okx n y := ⟨by omega, by omega⟩
    obtain ⟨F, G⟩ := step_ab (v := v) h1 h2 (by omega)
    rw [List.foldl_cons]
    refine ih (stepN v y) y (by rw [stepN_len hy.1 (by omega)]; exact hl) hr.tail hy (.inl ⟨h1, ?_⟩)
    have hz : ∀ i, 1 ≤ i → i < j → Bn (stepN v y) i = Bn v i := fun i a b => (G i a (by omega) (by omega)).2
    unfold FourR at F
    rcases hi with ⟨ex, hi⟩ | ⟨ex, hi⟩
    · have c0 : Bn v (j + 1) = 0 → 1 ≤ Bn v j := fun e => hi.z e j h2 (by omega)
      by_cases hp : 0 < y
      · rw [if_pos hp] at F
        obtain ⟨a, b, c⟩ := st_left F (.inl ⟨hi.b, c0⟩)
        exact ⟨a, fun e i i1 i2 => by rw [hz i i1 i2]; exact hi.z (b e) i i1 (by omega), fun _ => c, fun q => by omega⟩
      · rw [if_neg hp] at F
        obtain ⟨a, b, c⟩ := st_left F (.inl ⟨hi.b, c0⟩)
        exact ⟨a, fun e i i1 i2 => by rw [hz i i1 i2]; exact hi.z (b e) i i1 (by omega), fun q => by omega, fun _ => by omega⟩
    · have hxy : y = x := by
        have := hr.1
        omega
      subst hxy
      have hb := hi.b
      by_cases hp : 0 < y
      · rw [if_pos hp] at F
        have := hi.p hp
        rw [Nat.add_sub_cancel] at this
        obtain ⟨a, b, c⟩ := st_left F (.inr ⟨hb, this⟩)
        exact ⟨a, fun e => by have := b e; omega, fun _ => c, fun q => by omega⟩
      · rw [if_neg hp] at F
        have := hi.n (by unfold okx at hx; omega)
        rw [Nat.add_sub_cancel] at this
        obtain ⟨a, b, c⟩ := st_left F (.inr ⟨hb, by omega⟩)
        exact ⟨a, fun e => by have := b e; omega, fun q => by omega, fun _ => by omega⟩
  | @R j y u h1 h2 h3 _ ih =>
    intro v x hl hr hx hi
    have hy : okx n y := ⟨by omega, by omega⟩
    obtain ⟨F, G⟩ := step_ab (v := v) h1 h2 (by omega)
    rw [List.foldl_cons]
    refine ih (stepN v y) y (by rw [stepN_len hy.1 (by omega)]; exact hl) hr.tail hy (.inr ⟨by omega, ?_⟩)
    unfold FourR at F
    rcases hi with ⟨ex, hi⟩ | ⟨ex, hi⟩
    · have hxy : y = x := by
        have := hr.1
        omega
      subst hxy
      have hb := hi.b
      by_cases hp : 0 < y
      · rw [if_pos hp] at F
        obtain ⟨a, c⟩ := st_right F (.inr ⟨hb, hi.p hp⟩)
        exact ⟨a, fun _ => by rw [Nat.add_sub_cancel]; exact c, fun q => by omega⟩
      · rw [if_neg hp] at F
        have := hi.n (by unfold okx at hx; omega)
        obtain ⟨a, c⟩ := st_right F (.inr ⟨hb, by omega⟩)
        exact ⟨a, fun q => by omega, fun _ => by rw [Nat.add_sub_cancel]; omega⟩
    · by_cases hp : 0 < y
      · rw [if_pos hp] at F
        obtain ⟨a, c⟩ := st_right F (.inl hi.b)
        exact ⟨a, fun _ => by rw [Nat.add_sub_cancel]; exact c, fun q => by omega⟩
      · rw [if_neg hp] at F
        obtain ⟨a, c⟩ := st_right F (.inl hi.b)
        exact ⟨a, fun q => by omega, fun _ => by rw [Nat.add_sub_cancel]; omega⟩
/-! ### no step -/
def bs (n : Nat) : List Int := (List.replicate n [(0 : Int), 1]).flatten
theorem bs_succ (n : Nat) : bs (n + 1) = 0 :: 1 :: bs n := rfl
theorem bs_len (n : Nat) : (bs n).length = 2 * n := by
  unfold bs
  simp [List.length_flatten, Nat.mul_comm]
theorem bs_get : ∀ (n t : Nat), t < n → (bs n).getD (2 * t) 0 = 0 ∧ (bs n).getD (2 * t + 1) 0 = 1
  | 0, t, h => by omega
  | n + 1, 0, _ => ⟨rfl, rfl⟩
  | n + 1, t + 1, h => by
    rw [bs_succ, show 2 * (t + 1) = 2 * t + 1 + 1 by omega]
    exact bs_get n t (by omega)
theorem bs_ab {n t : Nat} (h1 : 1 ≤ t) (h : t ≤ n) : An (bs n) t = 0 ∧ Bn (bs n) t = 1 := by
  obtain ⟨a, b⟩ := bs_get n (t - 1) (by omega)
  unfold An Bn
  rw [show 2 * t - 2 = 2 * (t - 1) by omega, show 2 * t - 1 = 2 * (t - 1) + 1 by omega]
  exact ⟨a, b⟩
theorem pp0 {n k : Nat} {u : List Int} (h : Pth n k u) (hr : Rd u) (hu : u ≠ []) : Bn (u.foldl stepN (bs n)) 1 ≤ 0 := by
  have hl := bs_len n
  cases h with
  | nil => exact absurd rfl hu
  | @L j y u h1 h2 h3 h =>
    have hy : okx n y := ⟨by omega, by omega⟩
    obtain ⟨F, G⟩ := step_ab (v := bs n) h1 h2 (by omega)
    rw [List.foldl_cons]
    refine pp h (stepN (bs n) y) y (by rw [stepN_len hy.1 (by omega)]; exact hl) hr hy (.inl ⟨h1, ?_⟩)
    have hz : ∀ i, 1 ≤ i → i < j → 1 ≤ Bn (stepN (bs n) y) i := fun i a b => by
      rw [(G i a (by omega) (by omega)).2, (bs_ab a (by omega)).2]
      omega
    rw [(bs_ab h2 (by omega)).1, (bs_ab h2 (by omega)).2, (bs_ab (by omega) h3).1, (bs_ab (by omega) h3).2] at F
    unfold FourR at F
    by_cases hp : 0 < y
    · rw [if_pos hp] at F
      obtain ⟨a, c⟩ := st_left0 F
      exact ⟨a, fun _ => hz, fun _ => c, fun q => by omega⟩
    · rw [if_neg hp] at F
      obtain ⟨a, c⟩ := st_left0 F
      exact ⟨a, fun _ => hz, fun q => by omega, fun _ => by omega⟩
  | R h1 h2 h3 h =>
    rename_i y u
    have hy : okx n y := ⟨by omega, by omega⟩
    obtain ⟨F, G⟩ := step_ab (v := bs n) h1 h2 (by omega)
    rw [List.foldl_cons]
    refine pp h (stepN (bs n) y) y (by rw [stepN_len hy.1 (by omega)]; exact hl) hr hy (.inr ⟨by omega, ?_⟩)
    rw [(bs_ab h2 (by omega)).1, (bs_ab h2 (by omega)).2, (bs_ab (by omega) h3).1, (bs_ab (by omega) h3).2] at F
    unfold FourR at F
    by_cases hp : 0 < y
    · rw [if_pos hp] at F
      obtain ⟨a, c⟩ := st_right F (.inl (by omega))
      exact ⟨a, fun _ => by rw [Nat.add_sub_cancel]; exact c, fun q => by omega⟩
    · rw [if_neg hp] at F
      obtain ⟨a, c⟩ := st_right F (.inl (by omega))
      exact ⟨a, fun q => by omega, fun _ => by rw [Nat.add_sub_cancel]; omega⟩
/-! ### steps of the others -/
def dn (s : Int) : Int := if 0 < s then s - 1 else s + 1
def upl (s : Int) : Int := if 0 < s then s + 1 else s - 1
theorem upl_dn {s : Int} (h : 2 ≤ s.natAbs) : upl (dn s) = s := by
  unfold upl dn
  split <;> split <;> omega
theorem stepN_dn {s : Int} (h : 2 ≤ s.natAbs) (a b : Int) (ns : List Int) (hl : 2 * s.natAbs ≤ ns.length) : stepN (a :: b :: ns) s = a :: b :: stepN ns (dn s) := by
  have hd : (dn s).natAbs + 1 = s.natAbs := by unfold dn; split <;> omega
  obtain ⟨pre, p, q, r, t, suf, rfl, hp⟩ := cut4 (ns := ns) (k := (dn s).natAbs) (by omega) (by omega)
  rw [stepN_at hp, show a :: b :: (pre ++ p :: q :: r :: t :: suf) = (a :: b :: pre) ++ p :: q :: r :: t :: suf by simp, stepN_at (by simp only [List.length_cons]; omega)]
  have : four s p q r t = four (dn s) p q r t := by
    unfold four dn
    by_cases h0 : 0 < s
    · rw [if_pos h0, if_pos h0, if_pos (by omega)]
    · rw [if_neg h0, if_neg h0, if_neg (by omega)]
  rw [this]
  simp
theorem fold_dn {n : Nat} : ∀ (h : List Int) (a b : Int) (ns : List Int), ns.length = 2 * n → okL (n + 1) h → (∀ s ∈ h, 2 ≤ s.natAbs) → h.foldl stepN (a :: b :: ns) = a :: b :: (h.map dn).foldl stepN ns
  | [], a, b, ns, _, _, _ => rfl
  | s :: h, a, b, ns, hl, ok, h2 => by
    have hs := ok s (by simp)
    have s2 := h2 s (by simp)
    have hd : (dn s).natAbs + 1 = s.natAbs := by unfold dn; split <;> omega
    rw [List.foldl_cons, stepN_dn s2 a b ns (by omega), List.map_cons, List.foldl_cons]
    exact fold_dn h a b _ (by rw [stepN_len (by omega) (by omega)]; exact hl) (fun x hx => ok x (by simp [hx])) fun x hx => h2 x (by simp [hx])
theorem okx_upl {n : Nat} {x : Int} (h : okx n x) : okx (n + 1) (upl x) := by
  unfold okx upl at *
  split <;> omega
theorem Br.up {n : Nat} {w v : List Int} (h : Br n w v) : Br (n + 1) (w.map upl) (v.map upl) := by
  induction h with
  | refl => exact .refl _
  | undo a b x ok =>
    simp only [List.map_append, List.map_cons]
    have e : upl (0 - x) = 0 - upl x := by unfold okx at ok; unfold upl; split <;> split <;> omega
    rw [e]
    exact .undo _ _ _ (okx_upl ok)
  | far a b x y hx hy h =>
    simp only [List.map_append, List.map_cons]
    exact .far _ _ _ _ (okx_upl hx) (okx_upl hy) (by unfold okx at hx hy; unfold upl; split <;> split <;> omega)
  | braid a b x y hx hy h s =>
    simp only [List.map_append, List.map_cons]
    exact .braid _ _ _ _ (okx_upl hx) (okx_upl hy) (by unfold okx at hx hy; unfold upl; split <;> split <;> omega) (by unfold okx at hx hy; unfold upl; split <;> split <;> omega)
  | symm _ ih => exact ih.symm
  | trans _ _ ih1 ih2 => exact ih1.trans ih2
/-- FAITHFUL -/
theorem faithful : ∀ (n : Nat) (w : List Int), okL n w → w.foldl stepN (bs n) = bs n → Br n w []
  | 0, w, ok, _ => by
    cases w with
    | nil => exact .refl _
    | cons x w => have := ok x (by simp); omega
  | n + 1, w, ok, e => by
    obtain ⟨k, u, h, p, oh, h2, b⟩ := decomp w ok
    obtain ⟨v, p', r, b'⟩ := reduce p
    have b2 := b.trans (b'.end_ h)
    have e2 : (v ++ h).foldl stepN (bs (n + 1)) = bs (n + 1) := by
      rw [← (b2.act ok) _ (bs_len _)]
      exact e
    rw [List.foldl_append] at e2
    have hlen := act_len p'.ok (bs (n + 1)) (bs_len _)
    cases v with
    | nil =>
      have e3 := fold_dn (n := n) h 0 1 (bs n) (bs_len n) oh h2
      rw [List.foldl_nil, bs_succ] at e2
      rw [e2] at e3
      have e4 : (h.map dn).foldl stepN (bs n) = bs n := by
        injection e3 with _ e3
        injection e3 with _ e3
        exact e3.symm
      have okd : okL n (h.map dn) := fun s hs => by
        obtain ⟨y, hy, rfl⟩ := List.mem_map.mp hs
        have := oh y hy
        have := h2 y hy
        unfold dn
        split <;> omega
      have ih := (faithful n (h.map dn) okd e4).up
      rw [List.map_map] at ih
      have : h.map (upl ∘ dn) = h := by
        conv => rhs; rw [← List.map_id h]
        exact List.map_congr_left fun s hs => upl_dn (h2 s hs)
      rw [this] at ih
      exact b2.trans ih
    | cons x v =>
      exfalso
      have q := pp0 p' r (by simp)
      generalize (x :: v).foldl stepN (bs (n + 1)) = z at q e2 hlen
      match z, hlen with
      | a :: c :: z, hlen =>
        rw [fold_dn (n := n) h a c z (by simp at hlen; omega) oh h2, bs_succ] at e2
        injection e2 with _ e2
        injection e2 with e2 _
        have : Bn (a :: c :: z) 1 = c := rfl
        omega
end Mi
end
section
set_option linter.all false
set_option maxRecDepth 100000
set_option maxHeartbeats 1000000
/-! PA: what is left: of a line called otherwise, of dances put together, undone, mirrored, turned about, and left again. -/
namespace Mi
open Mp L2
def mk (S z : List Int) : List Bool := z.map fun x => decide (x ∈ S)
theorem cs_mk (S p : List Int) : cs S p = (((mk S p).filter id).length : Int) := by
  unfold cs mk
  rw [List.filter_map, List.length_map]
  rfl
theorem left_mk (S S' : List Int) : ∀ (l z z' e : List Int), mk S z = mk S' z' → okL z.length l → (l.foldl (leftStep S) (z, e)).2 = (l.foldl (leftStep S') (z', e)).2
  | [], _, _, _, _, _ => rfl
  | s :: l, z, z', e, h, ok => by
    have hs := ok s (by simp)
    have hl : z.length = z'.length := by
      have := congrArg List.length h
      simpa [mk] using this
    obtain ⟨p, x, y, q, rfl, hp⟩ := split2 z hs.1 hs.2
    obtain ⟨p', x', y', q', rfl, hp'⟩ := split2 z' hs.1 (by omega)
    unfold mk at h
    rw [List.map_append, List.map_append, List.map_cons, List.map_cons, List.map_cons, List.map_cons] at h
    obtain ⟨h1, h2⟩ := List.append_inj h (by simp; omega)
    injection h2 with hx h2
    injection h2 with hy hq
    have hcs : cs S p = cs S' p' := by
      rw [cs_mk, cs_mk]
      unfold mk
      rw [h1]
    rw [List.foldl_cons, List.foldl_cons, left_swp _ _ _ _ _ _ _ hp.symm, left_swp _ _ _ _ _ _ _ hp'.symm, hcs]
    have hx' : (x ∈ S) ↔ (x' ∈ S') := by simpa using hx
    have hy' : (y ∈ S) ↔ (y' ∈ S') := by simpa using hy
    have e1 : (if x ∈ S ∧ y ∈ S then [sgn s * (cs S' p' + 1)] else []) = if x' ∈ S' ∧ y' ∈ S' then [sgn s * (cs S' p' + 1)] else [] := by
      by_cases c : x ∈ S ∧ y ∈ S
      · rw [if_pos c, if_pos ⟨hx'.mp c.1, hy'.mp c.2⟩]
      · rw [if_neg c, if_neg fun d => c ⟨hx'.mpr d.1, hy'.mpr d.2⟩]
    rw [e1]
    refine left_mk S S' l _ _ _ ?_ fun u hu => by have := ok u (by simp [hu]); simpa using this
    unfold mk
    rw [List.map_append, List.map_append, List.map_cons, List.map_cons, List.map_cons, List.map_cons, h1, hx, hy, hq]
/-! ### the line -/
theorem left_line (S : List Int) : ∀ (l : List Int) (z : List Int × List Int), (l.foldl (leftStep S) z).1 = l.foldl (fun z s => swp z s.natAbs) z.1
  | [], _ => rfl
  | s :: l, z => by rw [List.foldl_cons, List.foldl_cons, left_line S l]; rfl
theorem leftSt_line (many : Int) (l S : List Int) : (leftSt many l S).1 = lineOf many l := left_line S l _
theorem line_pm {many : Int} {l : List Int} (ok : ∀ s ∈ l, 1 ≤ s.natAbs ∧ (s.natAbs : Int) < many) : (lineOf many l).Perm (rng 0 many) := by
  rw [← leftSt_line many l []]
  exact line_perm [] l _ (List.Perm.refl _) ok
theorem zipIdx_mem {l : List Int} {x : Int} {i : Nat} : (x, i) ∈ l.zipIdx ↔ l[i]? = some x := by
  rw [List.mem_zipIdx_iff_getElem?]
theorem mem_where {line lot : List Int} {d : Int} : d ∈ whereOf line lot ↔ 0 ≤ d ∧ d < line.length ∧ line.getD d.toNat 0 ∈ lot := by
  unfold whereOf
  rw [List.mem_map]
  constructor
  · rintro ⟨⟨x, i⟩, h, rfl⟩
    obtain ⟨h1, h2⟩ := List.mem_filter.mp h
    have h3 := zipIdx_mem.mp h1
    have hl := (List.getElem?_eq_some_iff.mp h3).1
    have h4 : x ∈ lot := by simpa using h2
    refine ⟨by omega, by omega, ?_⟩
    rw [show ((i : Int)).toNat = i by omega, List.getD_eq_getElem?_getD, h3]
    exact h4
  · rintro ⟨h0, h1, h2⟩
    refine ⟨(line.getD d.toNat 0, d.toNat), List.mem_filter.mpr ⟨zipIdx_mem.mpr ?_, by simpa using h2⟩, by show ((d.toNat : Nat) : Int) = d; omega⟩
    rw [List.getD_eq_getElem?_getD, List.getElem?_eq_getElem (by omega)]
    rfl
theorem rng_getD {n : Int} {i : Nat} (h : (i : Int) < n) : (rng 0 n).getD i 0 = i := by
  unfold rng
  rw [List.getD_eq_getElem?_getD, List.getElem?_map, List.getElem?_range (by omega)]
  simp
theorem mk_where {many : Int} {line S : List Int} (hl : (line.length : Int) = many) : mk S line = mk (whereOf line S) (rng 0 many) := by
  unfold mk
  apply List.ext_getElem
  · rw [List.length_map, List.length_map, rng_len]; omega
  · intro i h1 h2
    rw [List.length_map] at h1 h2
    rw [List.getElem_map, List.getElem_map, decide_eq_decide]
    have e1 : (rng 0 many)[i] = (i : Int) := by
      have := rng_getD (n := many) (i := i) (by omega)
      rw [List.getD_eq_getElem?_getD, List.getElem?_eq_getElem h2] at this
      simpa using this
    rw [e1, mem_where]
    have e2 : line.getD (i : Int).toNat 0 = line[i] := by
      rw [show ((i : Int)).toNat = i by omega, List.getD_eq_getElem?_getD, List.getElem?_eq_getElem h1]
      rfl
    rw [e2]
    exact ⟨fun h => ⟨by omega, by omega, h⟩, fun h => h.2.2⟩
/-- what is left goes on from where the dancers stand -/
theorem left_from {many : Int} {line S l : List Int} (hl : (line.length : Int) = many) (ok : ∀ s ∈ l, 1 ≤ s.natAbs ∧ (s.natAbs : Int) < many) : (l.foldl (leftStep S) (line, [])).2 = leftOf many l (whereOf line S) := by
  unfold leftOf leftSt
  exact left_mk _ _ l _ _ _ (mk_where hl) fun s hs => by have := ok s hs; omega
theorem left_cat {many : Int} {l other : List Int} (S : List Int) (h0 : 0 ≤ many) (ok : ∀ s ∈ l, 1 ≤ s.natAbs ∧ (s.natAbs : Int) < many) (ok2 : ∀ s ∈ other, 1 ≤ s.natAbs ∧ (s.natAbs : Int) < many) : leftOf many (l ++ other) S = leftOf many l S ++ leftOf many other (whereOf (lineOf many l) S) := by
  have hl : ((lineOf many l).length : Int) = many := by rw [lineOf_len]; omega
  rw [← left_from hl ok2, ← leftSt_line many l S]
  show ((l ++ other).foldl (leftStep S) (rng 0 many, [])).2 = _
  rw [List.foldl_append]
  show (other.foldl (leftStep S) (leftSt many l S)).2 = _
  generalize hz : leftSt many l S = z
  obtain ⟨z1, z2⟩ := z
  rw [left_acc]
  show z2 ++ _ = leftOf many l S ++ _
  have : leftOf many l S = z2 := by unfold leftOf; rw [hz]
  rw [this]
/-- undone, from the end -/
theorem undo_cons (s : Int) (l : List Int) : undo (s :: l) = undo l ++ [0 - s] := by simp [undo]
theorem undo_app (a b : List Int) : undo (a ++ b) = undo b ++ undo a := by simp [undo]
theorem sgn_neg' {s : Int} (h : 1 ≤ s.natAbs) : sgn (0 - s) = -sgn s := by
  unfold sgn
  split <;> split <;> omega
theorem left_back (S : List Int) : ∀ (l z : List Int), okL z.length l → (undo l).foldl (leftStep S) ((l.foldl (leftStep S) (z, [])).1, []) = (z, undo (l.foldl (leftStep S) (z, [])).2)
  | [], z, _ => rfl
  | s :: l, z, ok => by
    have hs := ok s (by simp)
    obtain ⟨p, x, y, q, rfl, hp⟩ := split2 z hs.1 hs.2
    rw [List.foldl_cons, left_swp _ _ _ _ _ _ _ hp.symm, List.nil_append, undo_cons, List.foldl_append, left_acc S l (p ++ y :: x :: q) (if x ∈ S ∧ y ∈ S then [sgn s * (cs S p + 1)] else [])]
    have ih := left_back S l (p ++ y :: x :: q) fun u hu => by have := ok u (by simp [hu]); simpa using this
    dsimp only
    rw [ih, List.foldl_cons, List.foldl_nil, left_swp _ _ _ _ _ _ _ (by omega), undo_app]
    refine Prod.ext rfl ?_
    dsimp only
    congr 1
    rw [sgn_neg' hs.1]
    by_cases c : x ∈ S ∧ y ∈ S
    · rw [if_pos c, if_pos ⟨c.2, c.1⟩]
      show _ = [0 - _]
      rw [Int.neg_mul]
      simp
    · rw [if_neg c, if_neg fun d => c ⟨d.2, d.1⟩]
      rfl
theorem left_undo {many : Int} {l : List Int} (S : List Int) (h0 : 0 ≤ many) (ok : ∀ s ∈ l, 1 ≤ s.natAbs ∧ (s.natAbs : Int) < many) : leftOf many (undo l) (whereOf (lineOf many l) S) = undo (leftOf many l S) := by
  have hl : ((lineOf many l).length : Int) = many := by rw [lineOf_len]; omega
  rw [← left_from hl fun s hs => by
    unfold undo at hs
    obtain ⟨t, ht, rfl⟩ := List.mem_map.mp hs
    have := ok t (List.mem_reverse.mp ht)
    omega, ← leftSt_line many l S]
  have := left_back S l (rng 0 many) fun s hs => by have := ok s hs; rw [rng_len]; omega
  show ((undo l).foldl (leftStep S) ((l.foldl (leftStep S) (rng 0 many, [])).1, [])).2 = _
  rw [this]
  rfl
theorem left_mirs (S : List Int) : ∀ (l z : List Int), okL z.length l → ((mir l).foldl (leftStep S) (z, [])).2 = mir (l.foldl (leftStep S) (z, [])).2
  | [], z, _ => rfl
  | s :: l, z, ok => by
    have hs := ok s (by simp)
    obtain ⟨p, x, y, q, rfl, hp⟩ := split2 z hs.1 hs.2
    show ((mir l).foldl (leftStep S) (leftStep S (p ++ x :: y :: q, []) (0 - s))).2 = _
    rw [List.foldl_cons, left_swp _ _ _ _ _ _ _ hp.symm, left_swp _ _ _ _ _ _ _ (by omega), left_acc, left_acc S l]
    show _ ++ _ = mir (_ ++ _)
    unfold mir
    rw [List.map_append]
    have ih := left_mirs S l (p ++ y :: x :: q) fun u hu => by have := ok u (by simp [hu]); simpa using this
    unfold mir at ih
    rw [ih]
    congr 1
    rw [sgn_neg' hs.1]
    by_cases c : x ∈ S ∧ y ∈ S
    · rw [if_pos c, if_pos c]
      simp [Int.neg_mul]
    · rw [if_neg c, if_neg c]; rfl
theorem left_mir {many : Int} {l : List Int} (S : List Int) (ok : ∀ s ∈ l, 1 ≤ s.natAbs ∧ (s.natAbs : Int) < many) : leftOf many (mir l) S = mir (leftOf many l S) :=
  left_mirs S l (rng 0 many) fun s hs => by have := ok s hs; rw [rng_len]; omega
/-! ### seen from behind -/
theorem left_turns (S S' : List Int) (many m : Int) : ∀ (l z z' e : List Int), mk S' z' = (mk S z).reverse → (z.length : Int) = many → cs S z = m → okL z.length l → ((turn many l).foldl (leftStep S') (z', turn m e)).2 = turn m (l.foldl (leftStep S) (z, e)).2
  | [], z, z', e, _, _, _, _ => rfl
  | s :: l, z, z', e, h, hn, hm, ok => by
    have hs := ok s (by simp)
    have hl : z'.length = z.length := by
      have := congrArg List.length h
      simpa [mk] using this
    obtain ⟨p, x, y, q, rfl, hp⟩ := split2 z hs.1 hs.2
    have hzl : (p ++ x :: y :: q).length = p.length + q.length + 2 := by simp; omega
    generalize ht : (if 0 < s then many - s else 0 - s - many) = t
    have hta : t.natAbs = q.length + 1 := by
      subst ht
      split <;> omega
    have hsg : sgn t = sgn s := by
      unfold sgn
      subst ht
      split <;> split <;> first | rfl | omega
    obtain ⟨q', y', x', p', rfl, hq'⟩ := split2 z' (a := t.natAbs) (by omega) (by omega)
    unfold mk at h
    rw [List.map_append, List.map_append, List.map_cons, List.map_cons, List.map_cons, List.map_cons, List.reverse_append, List.reverse_cons, List.reverse_cons] at h
    rw [List.append_assoc, List.append_assoc] at h
    obtain ⟨h1, h2⟩ := List.append_inj h (by simp; omega)
    injection h2 with hy h2
    injection h2 with hx h3
    show ((turn many l).foldl (leftStep S') (leftStep S' (q' ++ y' :: x' :: p', turn m e) (if 0 < s then many - s else 0 - s - many))).2 = _
    rw [ht, List.foldl_cons, left_swp _ _ _ _ _ _ _ hp.symm, left_swp _ _ _ _ _ _ _ hq'.symm, hsg]
    have hx' : (x' ∈ S') ↔ (x ∈ S) := by simpa using hx
    have hy' : (y' ∈ S') ↔ (y ∈ S) := by simpa using hy
    have hcq : cs S' q' = cs S q := by
      rw [cs_mk, cs_mk]
      unfold mk
      rw [h1, List.filter_reverse, List.length_reverse]
    have hpm : cs S (p ++ y :: x :: q) = cs S (p ++ x :: y :: q) := by
      rw [cs_app, cs_app, cs_cons, cs_cons, cs_cons, cs_cons]; omega
    have e1 : turn m e ++ (if y' ∈ S' ∧ x' ∈ S' then [sgn s * (cs S' q' + 1)] else []) = turn m (e ++ if x ∈ S ∧ y ∈ S then [sgn s * (cs S p + 1)] else []) := by
      unfold turn
      rw [List.map_append]
      congr 1
      by_cases c : x ∈ S ∧ y ∈ S
      · rw [if_pos c, if_pos ⟨hy'.mpr c.2, hx'.mpr c.1⟩, hcq]
        rw [cs_app, cs_cons, cs_cons, if_pos c.1, if_pos c.2] at hm
        have := cs_nn S p
        have := cs_nn S q
        simp only [List.map_cons, List.map_nil]
        congr 1
        rcases sgn_abs s with g | g
        · rw [g, Int.one_mul, Int.one_mul, if_pos (by omega)]; omega
        · rw [g, Int.neg_one_mul, Int.neg_one_mul, if_neg (by omega)]; omega
      · rw [if_neg c, if_neg fun d => c ⟨hx'.mp d.2, hy'.mp d.1⟩]
        rfl
    rw [e1]
    refine left_turns S S' many m l _ _ _ ?_ (by simpa using hn) (by rw [hpm]; exact hm) fun u hu => by have := ok u (by simp [hu]); simpa using this
    unfold mk
    rw [List.map_append, List.map_append, List.map_cons, List.map_cons, List.map_cons, List.map_cons, List.reverse_append, List.reverse_cons, List.reverse_cons, h1, hx, hy, h3]
    simp
theorem mem_back {many : Int} {S : List Int} {d : Int} : d ∈ backLot many S ↔ many - 1 - d ∈ S := by
  unfold backLot
  rw [List.mem_reverse, List.mem_map]
  constructor
  · rintro ⟨x, hx, rfl⟩
    rw [show many - 1 - (many - 1 - x) = x by omega]
    exact hx
  · intro h
    exact ⟨_, h, by omega⟩
theorem left_turn {many : Int} {l S : List Int} (hS : Lot many S) (h0 : 0 ≤ many) (ok : ∀ s ∈ l, 1 ≤ s.natAbs ∧ (s.natAbs : Int) < many) : leftOf many (turn many l) (backLot many S) = turn S.length (leftOf many l S) := by
  have hc : cs S (rng 0 many) = S.length := by
    unfold cs
    have hp : ((rng 0 many).filter (· ∈ S)).Perm S := by
      refine (List.perm_ext_iff_of_nodup ((rng_nodup _ _).filter _) hS.nodup).mpr fun x => ?_
      rw [List.mem_filter, mem_rng]
      exact ⟨fun q => by simpa using q.2, fun q => ⟨hS.2 x q, by simpa using q⟩⟩
    rw [hp.length_eq]
  have := left_turns S (backLot many S) many S.length l (rng 0 many) (rng 0 many) [] ?_ (by rw [rng_len]; omega) hc fun s hs => by have := ok s hs; rw [rng_len]; omega
  · exact this
  · unfold mk
    apply List.ext_getElem
    · simp
    · intro i h1 h2
      rw [List.length_map, rng_len] at h1
      rw [List.getElem_reverse, List.getElem_map, List.getElem_map, decide_eq_decide, mem_back]
      have g : ∀ (j : Nat) (hj : j < (rng 0 many).length), (rng 0 many)[j] = (j : Int) := fun j hj => by
        have := rng_getD (n := many) (i := j) (by rw [rng_len] at hj; omega)
        rw [List.getD_eq_getElem?_getD, List.getElem?_eq_getElem hj] at this
        simpa using this
      rw [g, g]
      simp only [List.length_map, rng_len]
      have : many - 1 - (i : Int) = (((many - 0).toNat - 1 - i : Nat) : Int) := by omega
      rw [this]
/-! ### left twice -/
theorem left_sub (S T : List Int) (hT : ∀ x ∈ T, x ∈ S) : ∀ (l z e : List Int), okL z.length l → (l.foldl (leftStep T) (z, e)).2 = e ++ ((l.foldl (leftStep S) (z, [])).2.foldl (leftStep T) (z.filter (· ∈ S), [])).2
  | [], z, e, _ => by simp
  | s :: l, z, e, ok => by
    have hs := ok s (by simp)
    obtain ⟨p, x, y, q, rfl, hp⟩ := split2 z hs.1 hs.2
    have hcT : cs T (p.filter (· ∈ S)) = cs T p := by
      unfold cs
      rw [List.filter_filter]
      congr 2
      apply List.filter_congr
      intro u _
      by_cases c : u ∈ T
      · simp [c, hT u c]
      · simp [c]
    rw [List.foldl_cons, List.foldl_cons, left_swp _ _ _ _ _ _ _ hp.symm, left_swp _ _ _ _ _ _ _ hp.symm, List.nil_append, left_acc S l, List.foldl_append]
    rw [left_sub S T hT l (p ++ y :: x :: q) _ fun u hu => by have := ok u (by simp [hu]); simpa using this, List.append_assoc]
    congr 1
    by_cases c : x ∈ S ∧ y ∈ S
    · rw [if_pos c]
      have e1 : (p ++ x :: y :: q).filter (· ∈ S) = p.filter (· ∈ S) ++ x :: y :: q.filter (· ∈ S) := by
        rw [List.filter_append, List.filter_cons, List.filter_cons, if_pos (by simpa using c.1), if_pos (by simpa using c.2)]
      have e2 : (p ++ y :: x :: q).filter (· ∈ S) = p.filter (· ∈ S) ++ y :: x :: q.filter (· ∈ S) := by
        rw [List.filter_append, List.filter_cons, List.filter_cons, if_pos (by simpa using c.2), if_pos (by simpa using c.1)]
      obtain ⟨g1, g2⟩ := sgn_mul (sg := sgn s) (k := cs S p + 1) (sgn_abs s) (by have := cs_nn S p; omega)
      have hn : (sgn s * (cs S p + 1)).natAbs = (p.filter (· ∈ S)).length + 1 := by
        rw [g2]
        unfold cs
        omega
      rw [List.foldl_cons, List.foldl_nil, e1, e2, left_swp _ _ _ _ _ _ _ hn, g1, hcT, List.nil_append, left_acc T _ _ (if x ∈ T ∧ y ∈ T then [sgn s * (cs T p + 1)] else [])]
    · rw [if_neg c, if_neg fun d => c ⟨hT _ d.1, hT _ d.2⟩]
      have e1 : (p ++ x :: y :: q).filter (· ∈ S) = (p ++ y :: x :: q).filter (· ∈ S) := by
        rw [List.filter_append, List.filter_append, List.filter_cons, List.filter_cons, List.filter_cons, List.filter_cons]
        by_cases cx : x ∈ S
        · have cy : y ∉ S := fun h => c ⟨cx, h⟩
          simp [cx, cy]
        · simp [cx]
      rw [e1]
      rfl
theorem lot_filter {many : Int} {S : List Int} (hS : Lot many S) : (rng 0 many).filter (· ∈ S) = S := by
  have : ∀ {l m : List Int}, l.Pairwise (· < ·) → m.Pairwise (· < ·) → (∀ x, x ∈ l ↔ x ∈ m) → l = m := fun h1 h2 h3 => asc_uniq h1 h2 h3
  refine this ?_ hS.1 fun x => ?_
  · refine List.Pairwise.filter _ ?_
    unfold rng
    rw [List.pairwise_map]
    exact List.pairwise_lt_range.imp fun h => by omega
  · rw [List.mem_filter, mem_rng]
    exact ⟨fun q => by simpa using q.2, fun q => ⟨hS.2 x q, by simpa using q⟩⟩
/-- left twice is left once -/
theorem left_two {many : Int} {l S T U : List Int} (hS : Lot many S) (ok : ∀ s ∈ l, 1 ≤ s.natAbs ∧ (s.natAbs : Int) < many) (hT : ∀ x ∈ T, x ∈ S) (hU : ∀ i : Nat, i < S.length → (S.getD i 0 ∈ T ↔ (i : Int) ∈ U)) : leftOf S.length (leftOf many l S) U = leftOf many l T := by
  have h := left_sub S T hT l (rng 0 many) [] fun s hs => by have := ok s hs; rw [rng_len]; omega
  rw [List.nil_append, lot_filter hS] at h
  show _ = (l.foldl (leftStep T) (rng 0 many, [])).2
  rw [h]
  have okw : okL S.length (l.foldl (leftStep S) (rng 0 many, [])).2 := fun s hs => by
    have := left_ok (many := many) (stay := S) l (rng 0 many, []) (List.Perm.refl _) ok (fun s hs => by simp at hs) s hs
    omega
  refine left_mk U T _ (rng 0 S.length) S [] ?_ (by rw [rng_len, show ((S.length : Int) - 0).toNat = S.length by omega]; exact okw)
  unfold mk
  apply List.ext_getElem
  · rw [List.length_map, List.length_map, rng_len]; omega
  · intro i h1 h2
    rw [List.length_map] at h1 h2
    rw [List.getElem_map, List.getElem_map, decide_eq_decide]
    have e1 : (rng 0 S.length)[i] = (i : Int) := by
      have := rng_getD (n := S.length) (i := i) (by omega)
      rw [List.getD_eq_getElem?_getD, List.getElem?_eq_getElem h1] at this
      simpa using this
    have e2 := hU i h2
    rw [List.getD_eq_getElem?_getD, List.getElem?_eq_getElem h2] at e2
    rw [e1]
    exact e2.symm
end Mi
end
section
set_option linter.all false
set_option maxRecDepth 100000
set_option maxHeartbeats 1000000
/-! PB: the numbers told of some dancers are the numbers told of what is left. -/
namespace Mi
open Mp L2
def meetStep (z : LD × List Int) (s : Int) : LD × List Int := (putK z.1 (kI (pairAt z.2 s.natAbs)) (.int (getI z.1 (kI (pairAt z.2 s.natAbs)) + 1)), swp z.2 s.natAbs)
/-- one pair's meetings while a dance goes on -/
theorem meet_val {m low high : Int} (h0 : 0 ≤ low) (h1 : low < high) (h2 : high < m) : ∀ (l : List Int) (D : LD) (line : List Int) (v : Int), LGood m D → valV D (kI [low, high]) = some (.int v) → line.Perm (rng 0 m) → (∀ s ∈ l, 1 ≤ s.natAbs ∧ (s.natAbs : Int) < m) →
    LGood m (l.foldl meetStep (D, line)).1 ∧ valV (l.foldl meetStep (D, line)).1 (kI [low, high]) = some (.int (v + (l.foldl (leftStep [low, high]) (line, [])).2.length))
  | [], D, line, v, hg, hv, _, _ => ⟨hg, by simpa using hv⟩
  | s :: l, D, line, v, hg, hv, hp, ok => by
    have hs := ok s (by simp)
    have hl := hp.length_eq
    rw [rng_len] at hl
    obtain ⟨lo, hi, e, g0, g1, g2⟩ := pairAt_ok hp hs.1 (by omega)
    obtain ⟨p, x, y, q, rfl, hpl⟩ := split2 line hs.1 (by omega)
    have hnd := hp.nodup_iff.mpr (rng_nodup 0 m)
    have hpe : pairAt (p ++ x :: y :: q) s.natAbs = [min x y, max x y] := by
      unfold pairAt
      rw [← hpl, Nat.add_sub_cancel, getD_app0, getD_app1]
    have hsw : (swp (p ++ x :: y :: q) s.natAbs) = p ++ y :: x :: q := by rw [← hpl]; exact swp_app p q x y
    have hp' : (p ++ y :: x :: q).Perm (rng 0 m) := (List.Perm.append_left _ (List.Perm.swap _ _ _)).trans hp
    rw [List.foldl_cons, List.foldl_cons, left_swp _ _ _ _ _ _ _ (by omega), left_acc]
    show LGood m (l.foldl meetStep (putK D (kI (pairAt _ _)) _, swp _ _)).1 ∧ valV (l.foldl meetStep (putK D (kI (pairAt _ _)) _, swp _ _)).1 _ = _
    rw [hsw, e]
    by_cases hxy : x ∈ [low, high] ∧ y ∈ [low, high]
    · have hne : x ≠ y := by
        intro e
        subst e
        have := (List.nodup_append.mp hnd).2.1
        simp at this
      have he : lo = low ∧ hi = high := by
        rw [hpe] at e
        simp only [List.mem_cons, List.not_mem_nil, or_false] at hxy
        simp only [List.cons.injEq, and_true] at e
        omega
      obtain ⟨rfl, rfl⟩ := he
      have hc : cs [lo, hi] p = 0 := by
        unfold cs
        have hd := (List.nodup_append.mp hnd).2.2
        have : p.filter (· ∈ [lo, hi]) = [] := by
          rw [List.filter_eq_nil_iff]
          intro u hu
          have a1 := hd u hu x (by simp)
          have a2 := hd u hu y (by simp)
          simp only [List.mem_cons, List.not_mem_nil, or_false] at hxy
          simp only [decide_eq_true_eq, List.mem_cons, List.not_mem_nil, or_false]
          omega
        rw [this]
        rfl
      have hgi : getI D (kI [lo, hi]) = v := by unfold getI; rw [hv]
      rw [if_pos hxy, hc, hgi]
      obtain ⟨a, b⟩ := meet_val h0 h1 h2 l (putK D (kI [lo, hi]) (.int (v + 1))) (p ++ y :: x :: q) (v + 1) (lgood_put hg h0 h1 h2 _) (by rw [valV_put, if_pos rfl]) hp' fun u hu => ok u (by simp [hu])
      refine ⟨a, ?_⟩
      rw [b]
      congr 2
      simp only [List.nil_append, List.singleton_append, List.length_cons]
      omega
    · have hne : kI [low, high] ≠ kI [lo, hi] := by
        intro ek
        have ek := kI_inj ek
        rw [hpe] at e
        simp only [List.cons.injEq, and_true] at ek e
        apply hxy
        simp only [List.mem_cons, List.not_mem_nil, or_false]
        omega
      rw [if_neg hxy]
      obtain ⟨a, b⟩ := meet_val h0 h1 h2 l (putK D (kI [lo, hi]) (.int (getI D (kI [lo, hi]) + 1))) (p ++ y :: x :: q) v (lgood_put hg g0 g1 g2 _) (by rw [valV_put, if_neg hne]; exact hv) hp' fun u hu => ok u (by simp [hu])
      exact ⟨a, by rw [b]; rfl⟩
theorem met_fuse : ∀ (l line : List Int) (e : List (List Int × Bool)) (D : LD), (l.foldl (fun (z : List Int × List (List Int × Bool)) s => (swp z.1 s.natAbs, z.2 ++ [(pairAt z.1 s.natAbs, decide (0 < s))])) (line, e)).2.foldl (fun acc z => putK acc (kI z.1) (.int (getI acc (kI z.1) + 1))) D = (l.foldl meetStep (e.foldl (fun acc z => putK acc (kI z.1) (.int (getI acc (kI z.1) + 1))) D, line)).1
  | [], line, e, D => rfl
  | s :: l, line, e, D => by
    rw [List.foldl_cons, met_fuse l _ _ D, List.foldl_append]
    rfl
theorem meetD_fuse (many : Int) (l : List Int) : meetD many l = (l.foldl meetStep ((prsOf many).foldl (fun acc p => putK acc (kI p) (.int 0)) [], rng 0 many)).1 := by
  rw [meetD_eq]
  exact met_fuse l _ [] _
theorem base_prs {m : Int} : ∀ (ps : List (List Int)) (D : LD), (∀ p ∈ ps, ∃ low high : Int, p = [low, high] ∧ 0 ≤ low ∧ low < high ∧ high < m) → LGood m D → LZero D → LGood m (ps.foldl (fun acc p => putK acc (kI p) (.int 0)) D) ∧ LZero (ps.foldl (fun acc p => putK acc (kI p) (.int 0)) D)
  | [], D, _, h1, h2 => ⟨h1, h2⟩
  | p :: ps, D, h, h1, h2 => by
    obtain ⟨low, high, rfl, g0, g1, g2⟩ := h p (by simp)
    rw [List.foldl_cons]
    refine base_prs ps _ (fun p hp => h p (by simp [hp])) (lgood_put h1 g0 g1 g2 0) fun z hz => ?_
    rcases putK_mem hz with rfl | ⟨hz, _⟩
    · rfl
    · exact h2 z hz
theorem base_prs0 (m : Int) : LGood m ((prsOf m).foldl (fun acc p => putK acc (kI p) (.int 0)) []) ∧ LZero ((prsOf m).foldl (fun acc p => putK acc (kI p) (.int 0)) []) := base_prs _ [] (fun p hp => mem_prs.mp hp) (fun z h => by simp at h) fun z h => by simp at h
theorem meets_val {m low high : Int} {l : List Int} (h0 : 0 ≤ low) (h1 : low < high) (h2 : high < m) (ok : ∀ s ∈ l, 1 ≤ s.natAbs ∧ (s.natAbs : Int) < m) : valV (meetD m l) (kI [low, high]) = some (.int (leftOf m l [low, high]).length) := by
  obtain ⟨i, hi⟩ := hasAll_prs m low high h0 h1 h2
  obtain ⟨z, hz, e⟩ := valV_mem hi
  have := (base_prs0 m).2 z hz
  rw [this] at e
  have e : i = 0 := by injection e with e; exact e.symm
  subst e
  obtain ⟨_, b⟩ := meet_val h0 h1 h2 l _ (rng 0 m) 0 (base_prs0 m).1 hi (List.Perm.refl _) ok
  rw [Int.zero_add] at b
  rw [meetD_fuse]
  exact b
theorem meets_good {m : Int} {l : List Int} (h2 : 2 ≤ m) (ok : ∀ s ∈ l, 1 ≤ s.natAbs ∧ (s.natAbs : Int) < m) : LGood m (meetD m l) := by
  obtain ⟨i, hi⟩ := hasAll_prs m 0 1 (by omega) (by omega) (by omega)
  rw [meetD_fuse]
  exact (meet_val (low := 0) (high := 1) (by omega) (by omega) (by omega) l _ (rng 0 m) i (base_prs0 m).1 hi (List.Perm.refl _) ok).1
theorem lot_at {many : Int} {S : List Int} (hS : Lot many S) {i : Nat} (h : i < S.length) : 0 ≤ S.getD i 0 ∧ S.getD i 0 < many := by
  rw [List.getD_eq_getElem?_getD, List.getElem?_eq_getElem h]
  exact hS.2 _ (List.getElem_mem h)
theorem lot_lt {many : Int} {S : List Int} (hS : Lot many S) {i j : Nat} (h : i < j) (hj : j < S.length) : S.getD i 0 < S.getD j 0 := by
  rw [List.getD_eq_getElem?_getD, List.getElem?_eq_getElem (by omega : i < S.length), List.getD_eq_getElem?_getD, List.getElem?_eq_getElem hj]
  exact List.pairwise_iff_getElem.mp hS.1 i j (by omega) hj h
theorem lot_inj {many : Int} {S : List Int} (hS : Lot many S) {i j : Nat} (hi : i < S.length) (hj : j < S.length) (e : S.getD i 0 = S.getD j 0) : i = j := by
  rcases Nat.lt_trichotomy i j with q | q | q
  · have := lot_lt hS q hj; omega
  · exact q
  · have := lot_lt hS q hi; omega
theorem left_pair {many : Int} {l S : List Int} (hS : Lot many S) (ok : ∀ s ∈ l, 1 ≤ s.natAbs ∧ (s.natAbs : Int) < many) {a b : Int} (ha : 0 ≤ a ∧ a < S.length) (hb : 0 ≤ b ∧ b < S.length) : leftOf S.length (leftOf many l S) [a, b] = leftOf many l [S.getD a.toNat 0, S.getD b.toNat 0] := by
  refine left_two hS ok (fun x hx => ?_) fun i hi => ?_
  · have g : ∀ i : Nat, i < S.length → S.getD i 0 ∈ S := fun i h => by
      rw [List.getD_eq_getElem?_getD, List.getElem?_eq_getElem h]
      exact List.getElem_mem h
    simp only [List.mem_cons, List.not_mem_nil, or_false] at hx
    rcases hx with rfl | rfl
    · exact g _ (by omega)
    · exact g _ (by omega)
  · simp only [List.mem_cons, List.not_mem_nil, or_false]
    constructor
    · rintro (h | h)
      · have := lot_inj hS hi (by omega) h; omega
      · have := lot_inj hS hi (by omega) h; omega
    · rintro (rfl | rfl)
      · exact .inl rfl
      · exact .inr rfl
theorem left_okI {many : Int} {l S : List Int} (hS : Lot many S) (ok : ∀ s ∈ l, 1 ≤ s.natAbs ∧ (s.natAbs : Int) < many) : ∀ s ∈ leftOf many l S, 1 ≤ s.natAbs ∧ (s.natAbs : Int) < S.length := left_ok l (rng 0 many, []) (List.Perm.refl _) ok (fun s h => by simp at h)
theorem where_len {many : Int} {l S : List Int} (hS : Lot many S) (h0 : 0 ≤ many) (ok : ∀ s ∈ l, 1 ≤ s.natAbs ∧ (s.natAbs : Int) < many) : (whereOf (lineOf many l) S).length = S.length := by
  unfold whereOf
  rw [List.length_map]
  have e : ((lineOf many l).zipIdx.filter fun z => decide (z.1 ∈ S)).map (·.1) = (lineOf many l).filter fun x => decide (x ∈ S) := by
    have : ∀ (z : List Int) (k : Nat), ((z.zipIdx k).filter fun z => decide (z.1 ∈ S)).map (·.1) = z.filter fun x => decide (x ∈ S) := by
      intro z
      induction z with
      | nil => intro k; rfl
      | cons x z ih =>
        intro k
        rw [List.zipIdx_cons, List.filter_cons, List.filter_cons]
        by_cases c : x ∈ S
        · simp [c, ih (k + 1)]
        · simp [c, ih (k + 1)]
    exact this _ 0
  have := congrArg List.length e
  rw [List.length_map] at this
  rw [this]
  have hp := (line_pm ok).filter (fun x => decide (x ∈ S))
  rw [hp.length_eq]
  have := lot_filter hS
  rw [this]
theorem where_lot {many : Int} {l : List Int} (S : List Int) (h0 : 0 ≤ many) : Lot many (whereOf (lineOf many l) S) := by
  refine ⟨where_asc _ _, fun x hx => ?_⟩
  have := mem_where.mp hx
  rw [lineOf_len] at this
  omega
theorem back_lot {many : Int} {S : List Int} (hS : Lot many S) : Lot many (backLot many S) := by
  refine ⟨?_, fun x hx => ?_⟩
  · unfold backLot
    rw [List.pairwise_reverse, List.pairwise_map]
    exact hS.1.imp fun {a b} q => by omega
  · have := hS.2 _ (mem_back.mp hx)
    omega
theorem side_ok {many : Int} {l lot : List Int} (h2 : 2 ≤ many) (ok : ∀ s ∈ l, 1 ≤ s.natAbs ∧ (s.natAbs : Int) < many) (hL : Lot many lot) (hl : 2 ≤ lot.length) : SideW many l lot where
  isl := hL
  len := hl
  there := ⟨where_lot lot (by omega), by rw [where_len hL (by omega) ok]; exact hl⟩
  und := left_undo lot (by omega) ok
  mir := left_mir lot ok
  back := back_lot hL
  trn := left_turn hL (by omega) ok
theorem num_ok {many : Int} {l other lot : List Int} (h2 : 2 ≤ many) (ok : ∀ s ∈ l, 1 ≤ s.natAbs ∧ (s.natAbs : Int) < many) (oko : ∀ s ∈ other, 1 ≤ s.natAbs ∧ (s.natAbs : Int) < many) (hL : Lot many lot) (hl : 2 ≤ lot.length) : NumW many l lot other where
  isl := hL
  len := hl
  there := ⟨where_lot lot (by omega), by rw [where_len hL (by omega) ok]; exact hl⟩
  cat := left_cat lot (by omega) ok oko
  lead := fun z hz => by
    obtain ⟨a, b, x, rfl, h0, h1, h3, hv⟩ := leads_good (by omega) (left_okI hL ok) z hz
    have e := leads_val h0 h1 h3 (left_okI hL ok)
    rw [left_pair hL ok ⟨h0, by omega⟩ ⟨by omega, h3⟩] at e
    refine ⟨a, b, x, rfl, ⟨h0, by omega⟩, ⟨by omega, h3⟩, hv, ?_⟩
    rw [leads_val (lot_at hL (by omega)).1 (lot_lt hL (by omega) (by omega)) (lot_at hL (by omega)).2 ok, ← e, hv]
  meet := fun z hz => by
    obtain ⟨a, b, x, rfl, h0, h1, h3, hv⟩ := meets_good (by omega) (left_okI hL ok) z hz
    have e := meets_val h0 h1 h3 (left_okI hL ok)
    rw [left_pair hL ok ⟨h0, by omega⟩ ⟨by omega, h3⟩] at e
    refine ⟨a, b, x, rfl, ⟨h0, by omega⟩, ⟨by omega, h3⟩, hv, ?_⟩
    rw [meets_val (lot_at hL (by omega)).1 (lot_lt hL (by omega) (by omega)) (lot_at hL (by omega)).2 ok, ← e, hv]
  two := fun h3 => by
    have hne : lot ≠ [] := fun e => by rw [e] at hl; simp at hl
    have e0 := (List.dropLast_concat_getLast hne).symm
    generalize lot.dropLast = c at e0
    generalize lot.getLast hne = x at e0
    subst e0
    have hlast : (c ++ [x]).getLastD 0 = x := by simp
    have hx : ∀ y ∈ c, y < x := fun y hy => (List.pairwise_append.mp hL.1).2.2 y hy x (by simp)
    have hw : without (c ++ [x]) x = c := by
      unfold without
      rw [List.filter_append]
      have e1 : c.filter (fun y => !decide (y = x)) = c := List.filter_eq_self.mpr fun y hy => by have := hx y hy; simp; omega
      rw [e1]
      simp
    rw [hlast, hw]
    have hlen : (c ++ [x]).length = c.length + 1 := by simp
    refine ⟨⟨(List.pairwise_append.mp hL.1).1, fun y hy => hL.2 y (by simp [hy])⟩, by omega, ⟨?_, fun y hy => by have := mem_rng.mp hy; omega⟩, ?_⟩
    · unfold rng
      rw [List.pairwise_map]
      exact List.pairwise_lt_range.imp fun h => by omega
    · refine left_two hL ok (fun y hy => by simp [hy]) fun i hi => ?_
      rw [mem_rng]
      constructor
      · intro hc
        rcases Nat.lt_or_ge i c.length with q | q
        · omega
        · have : i = c.length := by omega
          subst this
          have e : (c ++ [x]).getD c.length 0 = x := by simp [List.getD_eq_getElem?_getD]
          rw [e] at hc
          have := hx x hc
          omega
      · intro h
        have q : i < c.length := by omega
        have e : (c ++ [x]).getD i 0 = c.getD i 0 := by
          rw [List.getD_eq_getElem?_getD, List.getD_eq_getElem?_getD, List.getElem?_append_left q]
        rw [e, List.getD_eq_getElem?_getD, List.getElem?_eq_getElem q]
        exact List.getElem_mem q
end Mi
end
section
set_option linter.all false
set_option maxRecDepth 100000
set_option maxHeartbeats 1000000
/-! B4: near dances are near when widened. -/
namespace Mi
open Mp
def le6 : List Int := [0, 1, 2, 3, 4, 5]
theorem mem_le6 {x : Int} (h0 : 0 ≤ x) (h5 : x ≤ 5) : x ∈ le6 := by
  unfold le6
  simp only [List.mem_cons, List.not_mem_nil, or_false]
  omega
def chkInv : Bool := le6.all fun p => le6.all fun x => le6.all fun y => decide (5 < p + x + y) || [1, -1].all fun sg => eqv (passed p y x (-sg)) (inv (passed p x y sg))
def chkBr : Bool := le6.all fun p => le6.all fun a => le6.all fun b => le6.all fun c => decide (5 < p + a + b + c) || [1, -1].all fun sg => eqv (passed p a b sg ++ passed (p + b) a c sg ++ passed p b c sg) (passed (p + a) b c sg ++ passed p a c sg ++ passed (p + c) a b sg)
theorem chk_inv : chkInv = true := by decide +kernel
theorem chk_br : chkBr = true := by decide +kernel
theorem sgn_mem (s : Int) : sgn s ∈ ([1, -1] : List Int) := by
  rcases sgn_abs s with h | h <;> rw [h] <;> decide
theorem pas_inv {p x y sg : Int} (hp : 0 ≤ p) (hx : 0 ≤ x) (hy : 0 ≤ y) (h : p + x + y ≤ 5) (hs : sg ∈ ([1, -1] : List Int)) : eqv (passed p y x (-sg)) (inv (passed p x y sg)) = true := by
  have h1 := List.all_eq_true.mp chk_inv p (mem_le6 hp (by omega))
  have h2 := List.all_eq_true.mp h1 x (mem_le6 hx (by omega))
  have h3 := List.all_eq_true.mp h2 y (mem_le6 hy (by omega))
  rw [decide_eq_false (by omega), Bool.false_or] at h3
  exact List.all_eq_true.mp h3 sg hs
theorem pas_br {p a b c sg : Int} (hp : 0 ≤ p) (ha : 0 ≤ a) (hb : 0 ≤ b) (hc : 0 ≤ c) (h : p + a + b + c ≤ 5) (hs : sg ∈ ([1, -1] : List Int)) : eqv (passed p a b sg ++ passed (p + b) a c sg ++ passed p b c sg) (passed (p + a) b c sg ++ passed p a c sg ++ passed (p + c) a b sg) = true := by
  have h1 := List.all_eq_true.mp chk_br p (mem_le6 hp (by omega))
  have h2 := List.all_eq_true.mp h1 a (mem_le6 ha (by omega))
  have h3 := List.all_eq_true.mp h2 b (mem_le6 hb (by omega))
  have h4 := List.all_eq_true.mp h3 c (mem_le6 hc (by omega))
  rw [decide_eq_false (by omega), Bool.false_or] at h4
  exact List.all_eq_true.mp h4 sg hs
def wline (z w : List Int) : List Int := (w.foldl widStep (z, [])).1
def wword (z w : List Int) : List Int := (w.foldl widStep (z, [])).2
theorem wline_app (z a b : List Int) : wline z (a ++ b) = wline (wline z a) b := by
  unfold wline
  rw [List.foldl_append]
  generalize a.foldl widStep (z, []) = u
  obtain ⟨u1, u2⟩ := u
  rw [wid_acc]
theorem wword_app (z a b : List Int) : wword z (a ++ b) = wword z a ++ wword (wline z a) b := by
  unfold wword wline
  rw [List.foldl_append]
  generalize a.foldl widStep (z, []) = u
  obtain ⟨u1, u2⟩ := u
  rw [wid_acc]
/-- a line of blocks -/
structure Ln (n m : Nat) (z : List Int) : Prop where
  len : z.length = n
  sum : z.sum = (m : Int)
  pos : ∀ x ∈ z, 0 ≤ x
theorem Ln.perm {n m : Nat} {z y : List Int} (h : Ln n m z) (hp : y.Perm z) : Ln n m y := ⟨by rw [hp.length_eq]; exact h.len, by rw [sum_perm hp]; exact h.sum, fun x hx => h.pos x (hp.mem_iff.mp hx)⟩
theorem wline1 {n m : Nat} {z : List Int} (h : Ln n m z) {s : Int} (hs : 1 ≤ s.natAbs ∧ s.natAbs < n) : ∃ (p : List Int) (A B : Int) (q : List Int), z = p ++ A :: B :: q ∧ p.length + 1 = s.natAbs ∧ 0 ≤ p.sum ∧ 0 ≤ A ∧ 0 ≤ B ∧ 0 ≤ q.sum ∧ p.sum + A + B + q.sum = m := by
  obtain ⟨p, A, B, q, rfl, hp⟩ := split2 z hs.1 (by rw [h.len]; exact hs.2)
  have hsum := h.sum
  rw [List.sum_append, List.sum_cons, List.sum_cons] at hsum
  exact ⟨p, A, B, q, rfl, hp, sum_nonneg fun x hx => h.pos x (by simp [hx]), h.pos A (by simp), h.pos B (by simp), sum_nonneg fun x hx => h.pos x (by simp [hx]), by omega⟩
theorem wl_cons (z : List Int) (s : Int) (w : List Int) : wline z (s :: w) = wline (wline z [s]) w := wline_app z [s] w
theorem ww_cons (z : List Int) (s : Int) (w : List Int) : wword z (s :: w) = wword z [s] ++ wword (wline z [s]) w := wword_app z [s] w
theorem w_at (p q : List Int) (x y s : Int) (h : p.length + 1 = s.natAbs) : wline (p ++ x :: y :: q) [s] = p ++ y :: x :: q ∧ wword (p ++ x :: y :: q) [s] = passed p.sum x y (sgn s) := by
  unfold wline wword
  rw [List.foldl_cons, List.foldl_nil, widStep_at _ _ _ _ _ _ h.symm]
  exact ⟨rfl, List.nil_append _⟩
theorem Ln.go {n m : Nat} : ∀ {w z : List Int}, Ln n m z → okL n w → Ln n m (wline z w) ∧ okL m (wword z w)
  | [], z, h, _ => ⟨h, fun s hs => by simp [wword] at hs⟩
  | s :: w, z, h, ok => by
    have hs := ok s (by simp)
    obtain ⟨p, A, B, q, rfl, hp, h1, h2, h3, h4, h5⟩ := wline1 h hs
    obtain ⟨e1, e2⟩ := w_at p q A B s hp
    have h' : Ln n m (p ++ B :: A :: q) := h.perm (List.Perm.append_left _ (List.Perm.swap _ _ _))
    obtain ⟨a, b⟩ := Ln.go (w := w) h' fun x hx => ok x (by simp [hx])
    rw [wl_cons, ww_cons, e1, e2]
    refine ⟨a, okL.app (fun x hx => ?_) b⟩
    have := passed_ok (many := m) h1 (sgn_abs s) (by omega) x hx
    omega
theorem sgn_neg {s : Int} (h : 1 ≤ s.natAbs) : sgn (0 - s) = -sgn s := by
  unfold sgn
  split <;> split <;> omega
theorem wid_undo {n m : Nat} (h5 : m ≤ 5) {z : List Int} (h : Ln n m z) {s : Int} (hs : 1 ≤ s.natAbs ∧ s.natAbs < n) : wline z [s, 0 - s] = z ∧ Act m (wword z [s, 0 - s]) [] := by
  obtain ⟨p, A, B, q, rfl, hp, h1, h2, h3, h4, h6⟩ := wline1 h hs
  obtain ⟨e1, e2⟩ := w_at p q A B s hp
  obtain ⟨e3, e4⟩ := w_at p q B A (0 - s) (by omega)
  rw [wl_cons, ww_cons, e1, e2, e3, e4, sgn_neg hs.1]
  have ok1 : okL m (passed p.sum A B (sgn s)) := fun x hx => by
    have := passed_ok (many := m) h1 (sgn_abs s) (by omega) x hx
    omega
  have ok2 : okL m (inv (passed p.sum A B (sgn s))) := fun x hx => by
    unfold inv at hx
    obtain ⟨y, hy, rfl⟩ := List.mem_map.mp hx
    have := ok1 y (List.mem_reverse.mp hy)
    omega
  have := eqv_ok (m := m) _ _ (pas_inv h1 h2 h3 (by omega) (sgn_mem s)) ok2
  exact ⟨rfl, (Act.app (Act.refl _ _) this ok1).trans (act_inv _ ok1)⟩
theorem mem_passed {p a b sg x : Int} (hs : sg = 1 ∨ sg = -1) (hp : 0 ≤ p) (h : x ∈ passed p a b sg) : p + 1 ≤ (x.natAbs : Int) ∧ (x.natAbs : Int) < p + a + b := by
  unfold passed row at h
  obtain ⟨first, hf, h⟩ := List.mem_flatMap.mp h
  obtain ⟨k, hk, rfl⟩ := List.mem_map.mp h
  rw [mem_rgd] at hf
  rw [mem_rng] at hk
  rcases hs with rfl | rfl
  · rw [Int.one_mul]; omega
  · rw [Int.neg_one_mul]; omega
theorem wid_far_lt {n m : Nat} {z : List Int} (h : Ln n m z) {x y : Int} (hx : 1 ≤ x.natAbs ∧ x.natAbs < n) (hy : 1 ≤ y.natAbs ∧ y.natAbs < n) (hf : x.natAbs + 1 < y.natAbs) : wline z [x, y] = wline z [y, x] ∧ Act m (wword z [x, y]) (wword z [y, x]) := by
  obtain ⟨p, C, D, q, rfl, hp, h1, h2, h3, h4, h6⟩ := wline1 h hy
  obtain ⟨p2, A, B, q2, rfl, hp2⟩ := split2 p (a := x.natAbs) hx.1 (by omega)
  have e0 : ∀ u v, (p2 ++ A :: B :: q2) ++ u :: v :: q = p2 ++ A :: B :: (q2 ++ u :: v :: q) := fun u v => by simp
  have e0' : ∀ u v, p2 ++ B :: A :: (q2 ++ u :: v :: q) = (p2 ++ B :: A :: q2) ++ u :: v :: q := fun u v => by simp
  obtain ⟨a1, a2⟩ := w_at (p2 ++ A :: B :: q2) q C D y hp
  obtain ⟨b1, b2⟩ := w_at p2 (q2 ++ D :: C :: q) A B x hp2
  obtain ⟨c1, c2⟩ := w_at p2 (q2 ++ C :: D :: q) A B x hp2
  obtain ⟨d1, d2⟩ := w_at (p2 ++ B :: A :: q2) q C D y (by simp at hp ⊢; omega)
  have hz := h.pos
  have hA := hz A (by simp)
  have hB := hz B (by simp)
  have hp0 := sum_nonneg (l := p2) fun u hu => hz u (by simp [hu])
  have hq0 := sum_nonneg (l := q2) fun u hu => hz u (by simp [hu])
  have es : (p2 ++ B :: A :: q2).sum = (p2 ++ A :: B :: q2).sum := sum_perm (List.Perm.append_left _ (List.Perm.swap _ _ _))
  have es2 : (p2 ++ A :: B :: q2).sum = p2.sum + A + B + q2.sum := by
    rw [List.sum_append, List.sum_cons, List.sum_cons]; omega
  rw [wl_cons _ y, ww_cons _ y, a1, a2, e0 D C, b1, b2]
  rw [e0 C D, wl_cons _ x, ww_cons _ x, c1, c2, e0' C D, d1, d2, es]
  refine ⟨by simp, act_fars _ _ ?_ ?_ ?_⟩
  · intro u hu
    have := mem_passed (sgn_abs x) hp0 hu
    omega
  · intro u hu
    have := mem_passed (sgn_abs y) (by omega) hu
    omega
  · intro u hu v hv
    have a := mem_passed (sgn_abs x) hp0 hu
    have b := mem_passed (sgn_abs y) (by omega) hv
    omega
theorem wid_far {n m : Nat} {z : List Int} (h : Ln n m z) {x y : Int} (hx : 1 ≤ x.natAbs ∧ x.natAbs < n) (hy : 1 ≤ y.natAbs ∧ y.natAbs < n) (hf : 1 < ((x.natAbs : Int) - (y.natAbs : Int)).natAbs) : wline z [x, y] = wline z [y, x] ∧ Act m (wword z [x, y]) (wword z [y, x]) := by
  rcases Nat.lt_or_ge x.natAbs y.natAbs with q | q
  · exact wid_far_lt h hx hy (by omega)
  · obtain ⟨a, b⟩ := wid_far_lt h hy hx (by omega)
    exact ⟨a.symm, b.symm⟩
theorem wid_braid_lt {n m : Nat} (h5 : m ≤ 5) {z : List Int} (h : Ln n m z) {x y : Int} (hx : 1 ≤ x.natAbs ∧ x.natAbs < n) (hy : 1 ≤ y.natAbs ∧ y.natAbs < n) (hf : x.natAbs + 1 = y.natAbs) (hs : 0 < x ↔ 0 < y) : wline z [x, y, x] = wline z [y, x, y] ∧ Act m (wword z [x, y, x]) (wword z [y, x, y]) := by
  obtain ⟨p, A, B, q, rfl, hp, h1, h2, h3, h4, h6⟩ := wline1 h hx
  have hl := h.len
  obtain ⟨C, q, rfl⟩ : ∃ C q', q = C :: q' := by
    match q with
    | [] => simp at hl; omega
    | C :: q => exact ⟨C, q, rfl⟩
  have hC := h.pos C (by simp)
  have hq := sum_nonneg (l := q) fun u hu => h.pos u (by simp [hu])
  rw [List.sum_cons] at h6
  have sh : ∀ u v w : Int, p ++ u :: v :: w :: q = (p ++ [u]) ++ v :: w :: q := fun u v w => by simp
  have hp2 : ∀ u : Int, (p ++ [u]).length + 1 = y.natAbs := fun u => by simp; omega
  have su : ∀ u : Int, (p ++ [u]).sum = p.sum + u := fun u => by simp
  have hsg : sgn y = sgn x := by
    unfold sgn
    by_cases q : 0 < x
    · rw [if_pos q, if_pos (hs.mp q)]
    · rw [if_neg q, if_neg fun w => q (hs.mpr w)]
  obtain ⟨a1, a2⟩ := w_at p (C :: q) A B x hp
  obtain ⟨b1, b2⟩ := w_at (p ++ [B]) q A C y (hp2 B)
  obtain ⟨c1, c2⟩ := w_at p (A :: q) B C x hp
  obtain ⟨d1, d2⟩ := w_at (p ++ [A]) q B C y (hp2 A)
  obtain ⟨e1, e2⟩ := w_at p (B :: q) A C x hp
  obtain ⟨f1, f2⟩ := w_at (p ++ [C]) q A B y (hp2 C)
  rw [wl_cons _ x, ww_cons _ x, a1, a2, wl_cons _ y [x], ww_cons _ y [x], sh, b1, b2, ← sh, c1, c2]
  rw [sh A B C, wl_cons _ y, ww_cons _ y, d1, d2, ← sh, wl_cons _ x [y], ww_cons _ x [y], e1, e2, sh C A B, f1, f2, hsg, su, su, su]
  refine ⟨by simp, ?_⟩
  have := eqv_ok (m := m) _ _ (pas_br (p := p.sum) (a := A) (b := B) (c := C) h1 h2 h3 hC (by omega) (sgn_mem x)) (okL.app (okL.app ?_ ?_) ?_)
  · rw [List.append_assoc, List.append_assoc] at this
    exact this
  all_goals
    intro u hu
    have := mem_passed (sgn_abs x) (by omega) hu
    omega
theorem wid_braid {n m : Nat} (h5 : m ≤ 5) {z : List Int} (h : Ln n m z) {x y : Int} (hx : 1 ≤ x.natAbs ∧ x.natAbs < n) (hy : 1 ≤ y.natAbs ∧ y.natAbs < n) (hf : ((x.natAbs : Int) - (y.natAbs : Int)).natAbs = 1) (hs : 0 < x ↔ 0 < y) : wline z [x, y, x] = wline z [y, x, y] ∧ Act m (wword z [x, y, x]) (wword z [y, x, y]) := by
  rcases Nat.lt_or_ge x.natAbs y.natAbs with q | q
  · exact wid_braid_lt h5 h hx hy (by omega) hs
  · obtain ⟨a, b⟩ := wid_braid_lt h5 h hy hx (by omega) hs.symm
    exact ⟨a.symm, b.symm⟩
/-- the middle may be told otherwise -/
theorem wid_mid {n m : Nat} {z a u v b : List Int} (h : Ln n m z) (oka : okL n a) (oku : okL n u) (k : ∀ y, Ln n m y → wline y u = wline y v ∧ Act m (wword y u) (wword y v)) : Act m (wword z (a ++ (u ++ b))) (wword z (a ++ (v ++ b))) := by
  obtain ⟨h1, h2⟩ := h.go oka
  obtain ⟨k1, k2⟩ := k _ h1
  obtain ⟨h3, h4⟩ := h1.go oku
  rw [wword_app z a (u ++ b), wword_app _ u b, wword_app z a (v ++ b), wword_app _ v b, k1]
  exact Act.app (Act.refl _ _) (Act.app k2 (Act.refl _ _) h4) h2
theorem wid_near1 {n m : Nat} (h5 : m ≤ 5) {z l l' : List Int} (h : Ln n m z) (hv : Mv n l l') (ok : okL n l) : Act m (wword z l) (wword z l') := by
  cases hv with
  | ins a b s h1 h2 =>
    rw [List.append_assoc]
    exact wid_mid (u := []) h ok.left (fun s hs => by simp at hs) fun y hy => by
      obtain ⟨a, b⟩ := wid_undo h5 hy (s := s) ⟨h1, by omega⟩
      exact ⟨a.symm, b.symm⟩
  | del a b x y e =>
    have hx := ok x (by simp)
    have hy := ok y (by simp)
    have : y = 0 - x := by omega
    subst this
    exact wid_mid (u := [x, 0 - x]) (v := []) h ok.left (fun s hs => by
      simp only [List.mem_cons, List.not_mem_nil, or_false] at hs
      rcases hs with rfl | rfl
      · exact hx
      · exact hy) fun y hy => wid_undo h5 hy hx
  | far a b x y e =>
    have hx := ok x (by simp)
    have hy := ok y (by simp)
    rw [List.append_assoc]
    exact wid_mid (u := [x, y]) (v := [y, x]) h ok.left (fun s hs => by
      simp only [List.mem_cons, List.not_mem_nil, or_false] at hs
      rcases hs with rfl | rfl
      · exact hx
      · exact hy) fun z hz => wid_far hz hx hy e
  | braid a b x y e1 e2 =>
    have hx := ok x (by simp)
    have hy := ok y (by simp)
    rw [List.append_assoc]
    exact wid_mid (u := [x, y, x]) (v := [y, x, y]) h ok.left (fun s hs => by
      simp only [List.mem_cons, List.not_mem_nil, or_false] at hs
      rcases hs with rfl | rfl | rfl
      · exact hx
      · exact hy
      · exact hx) fun z hz => wid_braid h5 hz hx hy e2 e1
theorem wid_near {n m : Nat} (h5 : m ≤ 5) {z l l' : List Int} (h : Ln n m z) (hv : Near n l l') (ok : okL n l) : Act m (wword z l) (wword z l') ∧ okL n l' := by
  induction hv with
  | refl => exact ⟨Act.refl _ _, ok⟩
  | step _ hv ih =>
    obtain ⟨a, b⟩ := ih
    exact ⟨a.trans (wid_near1 h5 h hv b), (near1 hv b).2⟩
theorem near_ok {sizes l l' : List Int} (hz : Sizes sizes) (ok : ∀ s ∈ l, 1 ≤ s.natAbs ∧ (s.natAbs : Int) < sizes.length) (h : Near sizes.length l l') : isAlike sizes.sum (widenedOf sizes l') (widenedOf sizes l) = true := by
  have hn : ∀ s ∈ sizes, 0 ≤ s := fun s hs => by have := (hz.2.1 s hs).1; omega
  have h0 := sum_nonneg hn
  have hl : Ln sizes.length sizes.sum.toNat sizes := ⟨rfl, by omega, hn⟩
  have := (wid_near (by have := hz.2.2; omega) hl h fun s hs => by have := ok s hs; omega).1
  refine decide_eq_true ?_
  exact (this (base0 sizes.sum) (base_len _)).symm
end Mi
end
section
set_option linter.all false
set_option maxRecDepth 100000
set_option maxHeartbeats 1000000
/-! PC: looseness: of less, of undone, of mirrored, of turned. -/
namespace Mi
open Mp
theorem br_far1 {m : Nat} {x : Int} (hx : okx m x) : ∀ (w : List Int), okL m w → (∀ y ∈ w, 1 < ((x.natAbs : Int) - (y.natAbs : Int)).natAbs) → Br m (x :: w) (w ++ [x])
  | [], _, _ => Br.refl _
  | y :: w, ok, h => by
    have hy : okx m y := ok y (by simp)
    exact (br_far hx hy (h y (by simp)) w).trans (Br.cons y (br_far1 hx w (fun s hs => ok s (by simp [hs])) fun z hz => h z (by simp [hz])))
theorem br_fars {m : Nat} : ∀ (v w : List Int), okL m v → okL m w → (∀ x ∈ v, ∀ y ∈ w, 1 < ((x.natAbs : Int) - (y.natAbs : Int)).natAbs) → Br m (v ++ w) (w ++ v)
  | [], w, _, _, _ => by rw [List.append_nil]; exact Br.refl _
  | x :: v, w, ov, ow, h => by
    have hx : okx m x := ov x (by simp)
    have hv : okL m v := fun s hs => ov s (by simp [hs])
    have ih := br_fars v w hv ow fun a ha => h a (by simp [ha])
    have e : w ++ x :: v = (w ++ [x]) ++ v := by simp
    rw [e]
    exact (Br.cons x ih).trans (Br.end_ (br_far1 hx w ow (h x (by simp))) v)
theorem wbr_undo {n m : Nat} (h5 : m ≤ 5) {z : List Int} (h : Ln n m z) {s : Int} (hs : 1 ≤ s.natAbs ∧ s.natAbs < n) : wline z [s, 0 - s] = z ∧ Br m (wword z [s, 0 - s]) [] := by
  obtain ⟨p, A, B, q, rfl, hp, h1, h2, h3, h4, h6⟩ := wline1 h hs
  obtain ⟨e1, e2⟩ := w_at p q A B s hp
  obtain ⟨e3, e4⟩ := w_at p q B A (0 - s) (by omega)
  rw [wl_cons, ww_cons, e1, e2, e3, e4, sgn_neg hs.1]
  have ok1 : okL m (passed p.sum A B (sgn s)) := fun x hx => by
    have := passed_ok (many := m) h1 (sgn_abs s) (by omega) x hx
    omega
  have ok2 : okL m (inv (passed p.sum A B (sgn s))) := fun x hx => by
    unfold inv at hx
    obtain ⟨y, hy, rfl⟩ := List.mem_map.mp hx
    have := ok1 y (List.mem_reverse.mp hy)
    omega
  have := eqv_br (m := m) _ _ (pas_inv h1 h2 h3 (by omega) (sgn_mem s)) ok2
  exact ⟨rfl, (Br.app (Br.refl _) this).trans (br_inv _ ok1)⟩
theorem wbr_far_lt {n m : Nat} {z : List Int} (h : Ln n m z) {x y : Int} (hx : 1 ≤ x.natAbs ∧ x.natAbs < n) (hy : 1 ≤ y.natAbs ∧ y.natAbs < n) (hf : x.natAbs + 1 < y.natAbs) : wline z [x, y] = wline z [y, x] ∧ Br m (wword z [x, y]) (wword z [y, x]) := by
  obtain ⟨p, C, D, q, rfl, hp, h1, h2, h3, h4, h6⟩ := wline1 h hy
  obtain ⟨p2, A, B, q2, rfl, hp2⟩ := split2 p (a := x.natAbs) hx.1 (by omega)
  have e0 : ∀ u v, (p2 ++ A :: B :: q2) ++ u :: v :: q = p2 ++ A :: B :: (q2 ++ u :: v :: q) := fun u v => by simp
  have e0' : ∀ u v, p2 ++ B :: A :: (q2 ++ u :: v :: q) = (p2 ++ B :: A :: q2) ++ u :: v :: q := fun u v => by simp
  obtain ⟨a1, a2⟩ := w_at (p2 ++ A :: B :: q2) q C D y hp
  obtain ⟨b1, b2⟩ := w_at p2 (q2 ++ D :: C :: q) A B x hp2
  obtain ⟨c1, c2⟩ := w_at p2 (q2 ++ C :: D :: q) A B x hp2
  obtain ⟨d1, d2⟩ := w_at (p2 ++ B :: A :: q2) q C D y (by simp at hp ⊢; omega)
  have hz := h.pos
  have hA := hz A (by simp)
  have hB := hz B (by simp)
  have hp0 := sum_nonneg (l := p2) fun u hu => hz u (by simp [hu])
  have hq0 := sum_nonneg (l := q2) fun u hu => hz u (by simp [hu])
  have es : (p2 ++ B :: A :: q2).sum = (p2 ++ A :: B :: q2).sum := sum_perm (List.Perm.append_left _ (List.Perm.swap _ _ _))
  have es2 : (p2 ++ A :: B :: q2).sum = p2.sum + A + B + q2.sum := by
    rw [List.sum_append, List.sum_cons, List.sum_cons]; omega
  rw [wl_cons _ y, ww_cons _ y, a1, a2, e0 D C, b1, b2]
  rw [e0 C D, wl_cons _ x, ww_cons _ x, c1, c2, e0' C D, d1, d2, es]
  refine ⟨by simp, br_fars _ _ ?_ ?_ ?_⟩
  · intro u hu
    have := mem_passed (sgn_abs x) hp0 hu
    omega
  · intro u hu
    have := mem_passed (sgn_abs y) (by omega) hu
    omega
  · intro u hu v hv
    have a := mem_passed (sgn_abs x) hp0 hu
    have b := mem_passed (sgn_abs y) (by omega) hv
    omega
theorem wbr_far {n m : Nat} {z : List Int} (h : Ln n m z) {x y : Int} (hx : 1 ≤ x.natAbs ∧ x.natAbs < n) (hy : 1 ≤ y.natAbs ∧ y.natAbs < n) (hf : 1 < ((x.natAbs : Int) - (y.natAbs : Int)).natAbs) : wline z [x, y] = wline z [y, x] ∧ Br m (wword z [x, y]) (wword z [y, x]) := by
  rcases Nat.lt_or_ge x.natAbs y.natAbs with q | q
  · exact wbr_far_lt h hx hy (by omega)
  · obtain ⟨a, b⟩ := wbr_far_lt h hy hx (by omega)
    exact ⟨a.symm, b.symm⟩
theorem wbr_braid_lt {n m : Nat} (h5 : m ≤ 5) {z : List Int} (h : Ln n m z) {x y : Int} (hx : 1 ≤ x.natAbs ∧ x.natAbs < n) (hy : 1 ≤ y.natAbs ∧ y.natAbs < n) (hf : x.natAbs + 1 = y.natAbs) (hs : 0 < x ↔ 0 < y) : wline z [x, y, x] = wline z [y, x, y] ∧ Br m (wword z [x, y, x]) (wword z [y, x, y]) := by
  obtain ⟨p, A, B, q, rfl, hp, h1, h2, h3, h4, h6⟩ := wline1 h hx
  have hl := h.len
  obtain ⟨C, q, rfl⟩ : ∃ C q', q = C :: q' := by
    match q with
    | [] => simp at hl; omega
    | C :: q => exact ⟨C, q, rfl⟩
  have hC := h.pos C (by simp)
  have hq := sum_nonneg (l := q) fun u hu => h.pos u (by simp [hu])
  rw [List.sum_cons] at h6
  have sh : ∀ u v w : Int, p ++ u :: v :: w :: q = (p ++ [u]) ++ v :: w :: q := fun u v w => by simp
  have hp2 : ∀ u : Int, (p ++ [u]).length + 1 = y.natAbs := fun u => by simp; omega
  have su : ∀ u : Int, (p ++ [u]).sum = p.sum + u := fun u => by simp
  have hsg : sgn y = sgn x := by
    unfold sgn
    by_cases q : 0 < x
    · rw [if_pos q, if_pos (hs.mp q)]
    · rw [if_neg q, if_neg fun w => q (hs.mpr w)]
  obtain ⟨a1, a2⟩ := w_at p (C :: q) A B x hp
  obtain ⟨b1, b2⟩ := w_at (p ++ [B]) q A C y (hp2 B)
  obtain ⟨c1, c2⟩ := w_at p (A :: q) B C x hp
  obtain ⟨d1, d2⟩ := w_at (p ++ [A]) q B C y (hp2 A)
  obtain ⟨e1, e2⟩ := w_at p (B :: q) A C x hp
  obtain ⟨f1, f2⟩ := w_at (p ++ [C]) q A B y (hp2 C)
  rw [wl_cons _ x, ww_cons _ x, a1, a2, wl_cons _ y [x], ww_cons _ y [x], sh, b1, b2, ← sh, c1, c2]
  rw [sh A B C, wl_cons _ y, ww_cons _ y, d1, d2, ← sh, wl_cons _ x [y], ww_cons _ x [y], e1, e2, sh C A B, f1, f2, hsg, su, su, su]
  refine ⟨by simp, ?_⟩
  have := eqv_br (m := m) _ _ (pas_br (p := p.sum) (a := A) (b := B) (c := C) h1 h2 h3 hC (by omega) (sgn_mem x)) (okL.app (okL.app ?_ ?_) ?_)
  · rw [List.append_assoc, List.append_assoc] at this
    exact this
  all_goals
    intro u hu
    have := mem_passed (sgn_abs x) (by omega) hu
    omega
theorem wbr_braid {n m : Nat} (h5 : m ≤ 5) {z : List Int} (h : Ln n m z) {x y : Int} (hx : 1 ≤ x.natAbs ∧ x.natAbs < n) (hy : 1 ≤ y.natAbs ∧ y.natAbs < n) (hf : ((x.natAbs : Int) - (y.natAbs : Int)).natAbs = 1) (hs : 0 < x ↔ 0 < y) : wline z [x, y, x] = wline z [y, x, y] ∧ Br m (wword z [x, y, x]) (wword z [y, x, y]) := by
  rcases Nat.lt_or_ge x.natAbs y.natAbs with q | q
  · exact wbr_braid_lt h5 h hx hy (by omega) hs
  · obtain ⟨a, b⟩ := wbr_braid_lt h5 h hy hx (by omega) hs.symm
    exact ⟨a.symm, b.symm⟩
theorem wbr_mid {n m : Nat} {z a u v b : List Int} (h : Ln n m z) (oka : okL n a) (k : ∀ y, Ln n m y → wline y u = wline y v ∧ Br m (wword y u) (wword y v)) : wline z (a ++ (u ++ b)) = wline z (a ++ (v ++ b)) ∧ Br m (wword z (a ++ (u ++ b))) (wword z (a ++ (v ++ b))) := by
  obtain ⟨h1, _⟩ := h.go oka
  obtain ⟨k1, k2⟩ := k _ h1
  rw [wword_app z a (u ++ b), wword_app _ u b, wword_app z a (v ++ b), wword_app _ v b, wline_app z a, wline_app _ u b, wline_app z a, wline_app _ v b, k1]
  exact ⟨rfl, Br.app (Br.refl _) (Br.app k2 (Br.refl _))⟩
theorem wbr {n m : Nat} (h5 : m ≤ 5) {l l' : List Int} (hb : Br n l l') : ∀ {z : List Int}, okL n l → Ln n m z → wline z l = wline z l' ∧ Br m (wword z l) (wword z l') := by
  induction hb with
  | refl w => exact fun _ _ => ⟨rfl, .refl _⟩
  | undo a b x hx =>
    intro z ok h
    exact wbr_mid (u := [x, 0 - x]) (v := []) h ok.left fun y hy => wbr_undo h5 hy hx
  | far a b x y hx hy e =>
    intro z ok h
    exact wbr_mid (u := [x, y]) (v := [y, x]) h ok.left fun z hz => wbr_far hz hx hy e
  | braid a b x y hx hy e s =>
    intro z ok h
    exact wbr_mid (u := [x, y, x]) (v := [y, x, y]) h ok.left fun z hz => wbr_braid h5 hz hx hy e s
  | symm k ih =>
    intro z ok h
    obtain ⟨a, b⟩ := ih (k.ok.mpr ok) h
    exact ⟨a.symm, b.symm⟩
  | trans k1 k2 ih1 ih2 =>
    intro z ok h
    obtain ⟨a, b⟩ := ih1 ok h
    obtain ⟨c, d⟩ := ih2 (k1.ok.mp ok) h
    exact ⟨a.trans c, b.trans d⟩
theorem cs_lot {n : Int} {U : List Int} (h : Lot n U) : cs U (rng 0 n) = U.length := by
  unfold cs
  rw [lot_filter h]
theorem sum_inU (U : List Int) : ∀ L : List Int, (L.map (inU U)).sum = cs U L
  | [] => rfl
  | x :: L => by rw [List.map_cons, List.sum_cons, sum_inU U L, cs_cons]; rfl
/-- alike dances leave alike dances -/
theorem left_br {n : Int} {U w v : List Int} (h0 : 0 ≤ n) (hU : Lot n U) (h5 : U.length ≤ 5) (hb : Br n.toNat w v) (ok : okL n.toNat w) : Br U.length (leftOf n w U) (leftOf n v U) := by
  have okv := hb.ok.mp ok
  rw [left_ones U fun s hs => by have := ok s hs; omega, left_ones U fun s hs => by have := okv s hs; omega]
  refine (wbr h5 hb ok ⟨?_, ?_, ?_⟩).2
  · rw [List.length_map, rng_len, Int.sub_zero]
  · rw [sum_inU, cs_lot hU]
  · intro x hx
    obtain ⟨k, _, rfl⟩ := List.mem_map.mp hx
    unfold inU
    split <;> omega
theorem alike_iff {k : Nat} {w : List Int} (ok : okL k w) : isAlike (k : Int) w [] = true ↔ Br k w [] := by
  unfold isAlike numbersIn allLed
  rw [decide_eq_true_iff]
  constructor
  · intro h
    exact faithful k w ok h
  · intro h
    exact h.act ok _ (base_len _)
theorem loose_iff {n : Int} {l S : List Int} (hS : Lot n S) (ok : ∀ s ∈ l, 1 ≤ s.natAbs ∧ (s.natAbs : Int) < n) : looseIn n l S = true ↔ S.length < 2 ∨ Br S.length (leftOf n l S) [] := by
  unfold looseIn
  rw [Bool.or_eq_true, decide_eq_true_iff, alike_iff fun s hs => by have := left_okI hS ok s hs; omega]
  refine or_congr_left ?_
  omega
theorem lot_len {n : Int} {S : List Int} (h5 : n ≤ 5) (hS : Lot n S) : S.length ≤ 5 := by
  have := hS.len (k := 0) (fun x hx => (hS.2 x hx).1) (Int.le_refl _)
  omega
theorem where_length (line S : List Int) : (whereOf line S).length = (line.filter fun x => decide (x ∈ S)).length := by
  unfold whereOf
  rw [List.length_map]
  have : ∀ (z : List Int) (k : Nat), ((z.zipIdx k).filter fun z => decide (z.1 ∈ S)).length = (z.filter fun x => decide (x ∈ S)).length := by
    intro z
    induction z with
    | nil => intro k; rfl
    | cons x z ih =>
      intro k
      rw [List.zipIdx_cons, List.filter_cons, List.filter_cons]
      by_cases c : x ∈ S
      · simp [c, ih (k + 1)]
      · simp [c, ih (k + 1)]
  exact this line 0
/-- less is loose -/
theorem loose_sub {n : Int} {l S R : List Int} (h0 : 0 ≤ n) (h5 : n ≤ 5) (ok : ∀ s ∈ l, 1 ≤ s.natAbs ∧ (s.natAbs : Int) < n) (hS : Lot n S) (hR : Lot n R) (hs : ∀ x ∈ R, x ∈ S) (h : looseIn n l S = true) : looseIn n l R = true := by
  rw [loose_iff hR ok]
  rcases (loose_iff hS ok).mp h with q | q
  · have := sub_len R S hR.nodup hs
    exact .inl (by omega)
  · right
    have hU : Lot S.length (whereOf S R) := ⟨where_asc _ _, fun d hd => by have := mem_where.mp hd; omega⟩
    have hl : (whereOf S R).length = R.length := by
      rw [where_length]
      have : S.filter (fun x => decide (x ∈ R)) = R := asc_uniq (hS.1.filter _) hR.1 fun x => by
        rw [List.mem_filter]
        exact ⟨fun q => by simpa using q.2, fun q => ⟨hs x q, by simpa using q⟩⟩
      rw [this]
    have hb := left_br (n := (S.length : Int)) (by omega) hU (by rw [hl]; exact lot_len h5 hR) q fun s hs => by have := left_okI hS ok s hs; omega
    rw [hl, left_two hS ok hs fun i hi => by
      rw [mem_where]
      rw [show ((i : Int)).toNat = i by omega]
      exact ⟨fun h => ⟨by omega, by omega, h⟩, fun h => h.2.2⟩] at hb
    exact hb
theorem bool_iff {a b : Bool} (h : a = true ↔ b = true) : a = b := by cases a <;> cases b <;> simp_all
theorem undo_inv (l : List Int) : undo l = inv l := rfl
theorem ok_undo {n : Int} {l : List Int} (ok : ∀ s ∈ l, 1 ≤ s.natAbs ∧ (s.natAbs : Int) < n) : ∀ s ∈ undo l, 1 ≤ s.natAbs ∧ (s.natAbs : Int) < n := fun s hs => by
  unfold undo at hs
  obtain ⟨t, ht, rfl⟩ := List.mem_map.mp hs
  have := ok t (List.mem_reverse.mp ht)
  omega
theorem ok_mir {n : Int} {l : List Int} (ok : ∀ s ∈ l, 1 ≤ s.natAbs ∧ (s.natAbs : Int) < n) : ∀ s ∈ mir l, 1 ≤ s.natAbs ∧ (s.natAbs : Int) < n := fun s hs => by
  unfold mir at hs
  obtain ⟨t, ht, rfl⟩ := List.mem_map.mp hs
  have := ok t ht
  omega
theorem ok_turn {n : Int} {l : List Int} (ok : ∀ s ∈ l, 1 ≤ s.natAbs ∧ (s.natAbs : Int) < n) : ∀ s ∈ turn n l, 1 ≤ s.natAbs ∧ (s.natAbs : Int) < n := fun s hs => by
  unfold turn at hs
  obtain ⟨t, ht, rfl⟩ := List.mem_map.mp hs
  have := ok t ht
  split <;> omega
theorem loose_undo {n : Int} {l S : List Int} (h0 : 0 ≤ n) (ok : ∀ s ∈ l, 1 ≤ s.natAbs ∧ (s.natAbs : Int) < n) (hS : Lot n S) : looseIn n (undo l) (whereOf (lineOf n l) S) = looseIn n l S := by
  refine bool_iff ?_
  rw [loose_iff (where_lot S h0) (ok_undo ok), loose_iff hS ok, where_len hS h0 ok, left_undo S h0 ok]
  refine or_congr_right ⟨fun h => ?_, fun h => h.inv⟩
  have := h.inv
  rw [undo_inv, inv_inv] at this
  exact this
def neg (s : Int) : Int := 0 - s
/-- alike dances mirrored -/
theorem Br.mapped {m : Nat} {f : Int → Int} (h1 : ∀ x, okx m x → okx m (f x) ∧ f (0 - x) = 0 - f x) (h2 : ∀ x y, okx m x → okx m y → (((f x).natAbs : Int) - ((f y).natAbs : Int)).natAbs = ((x.natAbs : Int) - (y.natAbs : Int)).natAbs) (h3 : ∀ x y, okx m x → okx m y → (0 < x ↔ 0 < y) → (0 < f x ↔ 0 < f y)) {w v : List Int} (h : Br m w v) : Br m (w.map f) (v.map f) := by
  induction h with
  | refl => exact .refl _
  | undo a b x hx =>
    rw [List.map_append, List.map_append, List.map_cons, List.map_cons, (h1 x hx).2]
    exact .undo _ _ _ (h1 x hx).1
  | far a b x y hx hy e =>
    rw [List.map_append, List.map_append, List.map_cons, List.map_cons, List.map_cons, List.map_cons]
    exact .far _ _ _ _ (h1 x hx).1 (h1 y hy).1 (by rw [h2 x y hx hy]; exact e)
  | braid a b x y hx hy e s =>
    rw [List.map_append, List.map_append, List.map_cons, List.map_cons, List.map_cons, List.map_cons, List.map_cons, List.map_cons]
    exact .braid _ _ _ _ (h1 x hx).1 (h1 y hy).1 (by rw [h2 x y hx hy]; exact e) (h3 x y hx hy s)
  | symm _ ih => exact ih.symm
  | trans _ _ ih1 ih2 => exact ih1.trans ih2
theorem Br.mir {m : Nat} {w v : List Int} (h : Br m w v) : Br m (Mi.mir w) (Mi.mir v) := by
  refine Br.mapped (f := fun s => 0 - s) (fun x hx => ⟨?_, rfl⟩) (fun x y hx hy => ?_) (fun x y hx hy s => ?_) h
  · exact okx_neg hx
  · omega
  · unfold okx at hx hy
    omega
theorem Br.turn {m : Nat} {w v : List Int} (h : Br m w v) : Br m (Mi.turn m w) (Mi.turn m v) := by
  refine Br.mapped (f := fun s => if 0 < s then m - s else 0 - s - m) (fun x hx => ⟨?_, ?_⟩) (fun x y hx hy => ?_) (fun x y hx hy s => ?_) h
  · unfold okx at *
    split <;> omega
  · unfold okx at *
    split <;> split <;> omega
  · unfold okx at *
    split <;> split <;> omega
  · unfold okx at *
    split <;> split <;> omega
theorem mir_mir (l : List Int) : mir (mir l) = l := by
  unfold mir
  rw [List.map_map]
  have : ((fun s : Int => 0 - s) ∘ fun s => 0 - s) = id := by funext s; simp
  rw [this, List.map_id]
theorem turn_turn {n : Int} {l : List Int} (ok : ∀ s ∈ l, 1 ≤ s.natAbs ∧ (s.natAbs : Int) < n) : turn n (turn n l) = l := by
  unfold turn
  rw [List.map_map]
  conv => rhs; rw [← List.map_id l]
  refine List.map_congr_left fun s hs => ?_
  have := ok s hs
  simp only [Function.comp, id]
  split <;> split <;> omega
theorem loose_mir {n : Int} {l S : List Int} (ok : ∀ s ∈ l, 1 ≤ s.natAbs ∧ (s.natAbs : Int) < n) (hS : Lot n S) : looseIn n (mir l) S = looseIn n l S := by
  refine bool_iff ?_
  rw [loose_iff hS (ok_mir ok), loose_iff hS ok, left_mir S ok]
  refine or_congr_right ⟨fun h => ?_, fun h => h.mir⟩
  have := h.mir
  rw [mir_mir] at this
  exact this
theorem back_len (n : Int) (S : List Int) : (backLot n S).length = S.length := by simp [backLot]
theorem loose_turn {n : Int} {l S : List Int} (h0 : 0 ≤ n) (ok : ∀ s ∈ l, 1 ≤ s.natAbs ∧ (s.natAbs : Int) < n) (hS : Lot n S) : looseIn n (turn n l) (backLot n S) = looseIn n l S := by
  refine bool_iff ?_
  rw [loose_iff (back_lot hS) (ok_turn ok), loose_iff hS ok, back_len, left_turn hS h0 ok]
  refine or_congr_right ⟨fun h => ?_, fun h => h.turn⟩
  have := h.turn
  rw [turn_turn (left_okI hS ok)] at this
  exact this
end Mi
end
section
set_option linter.all false
set_option maxRecDepth 100000
set_option maxHeartbeats 1000000
/-! PD: tangles and least lots, seen from elsewhere. -/
namespace Mi
open Mp
theorem lotsN_nodup : ∀ n : Nat, (lotsN n).Nodup
  | 0 => by simp [lotsN]
  | n + 1 => by
    have e : lotsN (n + 1) = lotsN n ++ (lotsN n).map fun lot => lot ++ [(n : Int)] := by
      simp [lotsN, List.range_succ]
    rw [e]
    refine List.nodup_append.mpr ⟨lotsN_nodup n, ?_, fun x hx y hy exy => ?_⟩
    · rw [List.Nodup, List.pairwise_map]
      exact (lotsN_nodup n).imp fun {a b} h e => h (List.append_cancel_right e)
    · subst exy
      obtain ⟨m, _, rfl⟩ := List.mem_map.mp hy
      have := (lotsN_ok n _ hx).2 (n : Int) (by simp)
      omega
theorem allLots_nodup (m : Int) : (allLots m).Nodup := by
  have hp := (tot_PT.srt_ok ((lotsN m.toNat).map fun lot => ((lot.length : Int), lot))).1
  have hp2 : (allLots m).Perm (lotsN m.toNat) := by
    have := hp.map (·.2)
    rw [List.map_map] at this
    have e : ((fun x : Int × List Int => x.2) ∘ fun lot : List Int => ((lot.length : Int), lot)) = id := rfl
    rw [e, List.map_id] at this
    exact this
  exact hp2.nodup_iff.mpr (lotsN_nodup _)
/-- lots sorted, and then chosen from -/
theorem srt_filter (m : Int) (T : List Int → Bool) {Y : List (List Int)} (hY : Y.Nodup) (h : ∀ lot, lot ∈ Y ↔ lot ∈ allLots m ∧ T lot = true) : (allLots m).filter T = (srt ltPT (Y.map fun lot => ((lot.length : Int), lot))).map (·.2) := by
  have hs := tot_PT.srt_ok ((lotsN m.toNat).map fun lot => ((lot.length : Int), lot))
  have hmem : ∀ z ∈ srt ltPT ((lotsN m.toNat).map fun lot => ((lot.length : Int), lot)), z = ((z.2.length : Int), z.2) := fun z hz => by
    obtain ⟨lot, _, rfl⟩ := List.mem_map.mp (hs.1.mem_iff.mp hz)
    rfl
  have hnd : (srt ltPT ((lotsN m.toNat).map fun lot => ((lot.length : Int), lot))).Nodup := by
    have := allLots_nodup m
    unfold allLots at this
    exact (List.pairwise_map.mp this).imp fun {a b} h e => h (by rw [e])
  have : srt ltPT (Y.map fun lot => ((lot.length : Int), lot)) = (srt ltPT ((lotsN m.toNat).map fun lot => ((lot.length : Int), lot))).filter fun z => T z.2 := by
    refine tot_PT.srt_eq ?_ (hs.2.filter _)
    refine (List.perm_ext_iff_of_nodup (hnd.filter _) ?_).mpr fun z => ?_
    · rw [List.Nodup, List.pairwise_map]
      exact hY.imp fun {a b} h e => h (by injection e)
    · rw [List.mem_filter, List.mem_map]
      constructor
      · rintro ⟨hz, ht⟩
        refine ⟨z.2, (h z.2).mpr ⟨?_, ht⟩, (hmem z hz).symm⟩
        unfold allLots
        exact List.mem_map.mpr ⟨z, hz, rfl⟩
      · rintro ⟨lot, hl, rfl⟩
        obtain ⟨a, b⟩ := (h lot).mp hl
        refine ⟨?_, b⟩
        unfold allLots at a
        obtain ⟨w, hw, e⟩ := List.mem_map.mp a
        have := hmem w hw
        rw [this] at hw
        subst e
        exact hw
  rw [this]
  unfold allLots
  rw [List.filter_map]
  rfl
theorem mem_without {lot : List Int} {d x : Int} : x ∈ without lot d ↔ x ∈ lot ∧ x ≠ d := by
  unfold without
  rw [List.mem_filter]
  simp
/-- a way to see lots -/
structure Sy (n : Int) (f : List Int → List Int) where
  r : Int → Int
  rin : ∀ x, 0 ≤ x → x < n → 0 ≤ r x ∧ r x < n
  inj : ∀ x y, 0 ≤ x → x < n → 0 ≤ y → y < n → r x = r y → x = y
  sur : ∀ y, 0 ≤ y → y < n → ∃ x, (0 ≤ x ∧ x < n) ∧ r x = y
  lot : ∀ S, Lot n S → Lot n (f S)
  mem : ∀ S x, Lot n S → (x ∈ f S ↔ (0 ≤ x ∧ x < n) ∧ r x ∈ S)
  len : ∀ S, Lot n S → (f S).length = S.length
namespace Sy
variable {n : Int} {f : List Int → List Int} (F : Sy n f)
include F
theorem finj {S T : List Int} (hS : Lot n S) (hT : Lot n T) (e : f S = f T) : S = T := by
  refine asc_uniq hS.1 hT.1 fun y => ?_
  constructor
  · intro hy
    obtain ⟨x, hx, rfl⟩ := F.sur y (hS.2 y hy).1 (hS.2 y hy).2
    have := (F.mem S x hS).mpr ⟨hx, hy⟩
    rw [e] at this
    exact ((F.mem T x hT).mp this).2
  · intro hy
    obtain ⟨x, hx, rfl⟩ := F.sur y (hT.2 y hy).1 (hT.2 y hy).2
    have := (F.mem T x hT).mpr ⟨hx, hy⟩
    rw [← e] at this
    exact ((F.mem S x hS).mp this).2
theorem fsur {T : List Int} (hT : Lot n T) : ∃ S, Lot n S ∧ f S = T := by
  classical
  have hS : Lot n ((rng 0 n).filter fun y => decide (∃ x ∈ T, F.r x = y)) := by
    refine ⟨?_, fun y hy => mem_rng.mp (List.mem_filter.mp hy).1⟩
    refine List.Pairwise.filter _ ?_
    unfold rng
    rw [List.pairwise_map]
    exact List.pairwise_lt_range.imp fun h => by omega
  refine ⟨_, hS, asc_uniq (F.lot _ hS).1 hT.1 fun x => ?_⟩
  rw [F.mem _ x hS, List.mem_filter, decide_eq_true_iff, mem_rng]
  constructor
  · rintro ⟨hx, _, y, hy, e⟩
    have := F.inj y x (hT.2 y hy).1 (hT.2 y hy).2 hx.1 hx.2 e
    rw [← this]
    exact hy
  · intro hx
    exact ⟨hT.2 x hx, F.rin x (hT.2 x hx).1 (hT.2 x hx).2, x, hx, rfl⟩
theorem fsub {S T : List Int} (hS : Lot n S) (hT : Lot n T) : (∀ x ∈ f S, x ∈ f T) ↔ ∀ x ∈ S, x ∈ T := by
  constructor
  · intro h y hy
    obtain ⟨x, hx, rfl⟩ := F.sur y (hS.2 y hy).1 (hS.2 y hy).2
    exact ((F.mem T x hT).mp (h x ((F.mem S x hS).mpr ⟨hx, hy⟩))).2
  · intro h x hx
    obtain ⟨a, b⟩ := (F.mem S x hS).mp hx
    exact (F.mem T x hT).mpr ⟨a, h _ b⟩
theorem fwithout {S : List Int} (hS : Lot n S) {d : Int} (hd : 0 ≤ d ∧ d < n) : without (f S) d = f (without S (F.r d)) := by
  refine asc_uniq (without_ok (F.lot S hS) d).1 (F.lot _ (without_ok hS _)).1 fun x => ?_
  rw [mem_without, F.mem S x hS, F.mem _ x (without_ok hS _), mem_without]
  constructor
  · rintro ⟨⟨hx, h1⟩, h2⟩
    exact ⟨hx, h1, fun e => h2 (F.inj x d hx.1 hx.2 hd.1 hd.2 e)⟩
  · rintro ⟨hx, h1, h2⟩
    exact ⟨⟨hx, h1⟩, fun e => h2 (by rw [e])⟩
end Sy
theorem compl_lot (n : Int) (S : List Int) : Lot n (complOf n S) := by
  refine ⟨?_, fun y hy => mem_rng.mp (List.mem_filter.mp hy).1⟩
  refine List.Pairwise.filter _ ?_
  unfold rng
  rw [List.pairwise_map]
  exact List.pairwise_lt_range.imp fun h => by omega
theorem mem_compl {n : Int} {S : List Int} {x : Int} : x ∈ complOf n S ↔ (0 ≤ x ∧ x < n) ∧ x ∉ S := by
  unfold complOf
  rw [List.mem_filter, mem_rng]
  simp
theorem Sy.fcompl {n : Int} {f : List Int → List Int} (F : Sy n f) {S : List Int} (hS : Lot n S) : complOf n (f S) = f (complOf n S) := by
  refine asc_uniq (compl_lot _ _).1 (F.lot _ (compl_lot n S)).1 fun x => ?_
  rw [mem_compl, F.mem S x hS, F.mem _ x (compl_lot n S), mem_compl]
  constructor
  · rintro ⟨hx, h⟩
    exact ⟨hx, F.rin x hx.1 hx.2, fun q => h ⟨hx, q⟩⟩
  · rintro ⟨hx, _, h⟩
    exact ⟨hx, fun q => h q.2⟩
/-- what is chosen by something that is seen alike -/
theorem seen {n : Int} {f : List Int → List Int} (h0 : 0 ≤ n) (F : Sy n f) {A B : List Int → Bool} (h : ∀ S, Lot n S → B (f S) = A S) : (allLots n).filter B = sortedLots (((allLots n).filter A).map f) := by
  unfold sortedLots
  refine srt_filter n B ?_ fun lot => ?_
  · rw [List.Nodup, List.pairwise_map]
    have hn : ((allLots n).filter A).Pairwise (fun a b => a ≠ b) := (allLots_nodup n).filter _
    refine (List.Pairwise.and_mem.mp hn).imp fun {a b} hab e => ?_
    exact hab.2.2 (F.finj ((allLots_iff h0).mp (List.mem_filter.mp hab.1).1) ((allLots_iff h0).mp (List.mem_filter.mp hab.2.1).1) e)
  · rw [List.mem_map]
    constructor
    · rintro ⟨S, hS, rfl⟩
      obtain ⟨h1, h2⟩ := List.mem_filter.mp hS
      have hL := (allLots_iff h0).mp h1
      exact ⟨(allLots_iff h0).mpr (F.lot S hL), by rw [h S hL]; exact h2⟩
    · rintro ⟨h1, h2⟩
      obtain ⟨S, hS, rfl⟩ := F.fsur ((allLots_iff h0).mp h1)
      exact ⟨S, List.mem_filter.mpr ⟨(allLots_iff h0).mpr hS, by rw [← h S hS]; exact h2⟩, rfl⟩
theorem tang_seen {n : Int} {f : List Int → List Int} (h0 : 0 ≤ n) (F : Sy n f) {l l' : List Int} (h : ∀ S, Lot n S → looseIn n l' (f S) = looseIn n l S) : tanglesOf n l' = sortedLots ((tanglesOf n l).map f) := by
  unfold tanglesOf
  refine seen h0 F fun S hS => ?_
  rw [h S hS]
  congr 1
  refine bool_iff ?_
  rw [List.all_eq_true, List.all_eq_true]
  constructor
  · intro g y hy
    obtain ⟨x, hx, rfl⟩ := F.sur y (hS.2 y hy).1 (hS.2 y hy).2
    have := g x ((F.mem S x hS).mpr ⟨hx, hy⟩)
    rw [F.fwithout hS hx, h _ (without_ok hS _)] at this
    exact this
  · intro g x hx
    obtain ⟨a, b⟩ := (F.mem S x hS).mp hx
    rw [F.fwithout hS a, h _ (without_ok hS _)]
    exact g _ b
/-! ### the least lots -/
theorem sub_lt {n : Int} {R S : List Int} (hR : Lot n R) (hS : Lot n S) (hs : ∀ x ∈ R, x ∈ S) (hne : R ≠ S) : R.length < S.length := by
  have : ∃ x ∈ S, x ∉ R := by
    apply Classical.byContradiction
    intro h
    refine hne (asc_uniq hR.1 hS.1 fun x => ⟨hs x, fun hx => ?_⟩)
    apply Classical.byContradiction
    intro hn
    exact h ⟨x, hx, hn⟩
  obtain ⟨x, hx, hn⟩ := this
  have := sub_len R (S.erase x) hR.nodup fun y hy => (List.mem_erase_of_ne (fun e => hn (by rw [← e]; exact hy))).mpr (hs y hy)
  rw [List.length_erase_of_mem hx] at this
  have : 0 < S.length := List.length_pos_of_mem hx
  omega
/-- a least lot: loose without it, and without no less -/
def LQ (n : Int) (l S : List Int) : Prop := looseIn n l (complOf n S) = true ∧ ∀ R, Lot n R → (∀ x ∈ R, x ∈ S) → R ≠ S → looseIn n l (complOf n R) = false
theorem lq_ex {n : Int} {l : List Int} : ∀ (k : Nat) (S : List Int), S.length ≤ k → Lot n S → looseIn n l (complOf n S) = true → ∃ R, Lot n R ∧ (∀ x ∈ R, x ∈ S) ∧ LQ n l R
  | 0, S, hk, hS, h => by
    have : S = [] := List.length_eq_zero_iff.mp (by omega)
    subst this
    refine ⟨[], hS, fun x hx => hx, h, fun R hR hs hne => ?_⟩
    exact absurd (List.eq_nil_iff_forall_not_mem.mpr fun x hx => by have := hs x hx; simp at this) hne
  | k + 1, S, hk, hS, h => by
    by_cases g : ∃ R, Lot n R ∧ (∀ x ∈ R, x ∈ S) ∧ R ≠ S ∧ looseIn n l (complOf n R) = true
    · obtain ⟨R, hR, hs, hne, hl⟩ := g
      have := sub_lt hR hS hs hne
      obtain ⟨Q, hQ, hs2, hq⟩ := lq_ex k R (by omega) hR hl
      exact ⟨Q, hQ, fun x hx => hs x (hs2 x hx), hq⟩
    · refine ⟨S, hS, fun x hx => hx, h, fun R hR hs hne => ?_⟩
      cases hb : looseIn n l (complOf n R) with
      | false => rfl
      | true => exact absurd ⟨R, hR, hs, hne, hb⟩ g
theorem lots_sorted (n : Int) : (allLots n).Pairwise fun a b => b.length < a.length → False := by
  have hs := tot_PT.srt_ok ((lotsN n.toNat).map fun lot => ((lot.length : Int), lot))
  have hmem : ∀ z ∈ srt ltPT ((lotsN n.toNat).map fun lot => ((lot.length : Int), lot)), z = ((z.2.length : Int), z.2) := fun z hz => by
    obtain ⟨lot, _, rfl⟩ := List.mem_map.mp (hs.1.mem_iff.mp hz)
    rfl
  unfold allLots
  rw [List.pairwise_map]
  refine (List.Pairwise.and_mem.mp hs.2).imp fun {a b} h hlt => ?_
  have h3 := h.2.2
  rw [hmem a h.1, hmem b h.2.1] at h3
  unfold ltPT at h3
  dsimp only at h3
  rw [if_neg (by omega), decide_eq_false_iff_not] at h3
  omega
theorem least_fold {n : Int} {l : List Int} (h0 : 0 ≤ n) : ∀ (suf pre found : List (List Int)), (∃ last, allLots n = pre ++ (suf ++ last)) → (∀ x, x ∈ found ↔ x ∈ pre ∧ LQ n l x) →
    ∀ (P : List Int → Bool), (∀ x, P x = true ↔ LQ n l x) → found = pre.filter P → suf.foldl (fun found lot => if !(found.any fun fewer => fewer.all fun d => decide (d ∈ lot)) && looseIn n l (complOf n lot) then found ++ [lot] else found) found = (pre ++ suf).filter P
  | [], pre, found, _, _, P, hP, hf => by rw [List.append_nil]; exact hf
  | lot :: suf, pre, found, ⟨last, hall⟩, hm, P, hP, hf => by
    have hmem : ∀ x, x ∈ pre ∨ x = lot → Lot n x := fun x hx => (allLots_iff h0).mp (by rw [hall]; rcases hx with hx | rfl <;> simp_all)
    have hL := hmem lot (.inr rfl)
    have hnd := allLots_nodup n
    rw [hall] at hnd
    have hnot : lot ∉ pre := fun h => (List.nodup_append.mp hnd).2.2 lot h lot (by simp) rfl
    have key : (!(found.any fun fewer => fewer.all fun d => decide (d ∈ lot)) && looseIn n l (complOf n lot)) = P lot := by
      refine bool_iff ?_
      rw [hP, Bool.and_eq_true, Bool.not_eq_true', List.any_eq_false]
      constructor
      · rintro ⟨h1, h2⟩
        refine ⟨h2, fun R hR hs hne => ?_⟩
        cases hb : looseIn n l (complOf n R) with
        | false => rfl
        | true =>
          exfalso
          obtain ⟨Q, hQ, hs2, hq⟩ := lq_ex R.length R (Nat.le_refl _) hR hb
          have hlt : Q.length < lot.length := by
            have a := sub_lt hR hL hs hne
            have b := sub_len Q R hQ.nodup hs2
            omega
          have hin : Q ∈ pre := by
            have : Q ∈ allLots n := (allLots_iff h0).mpr hQ
            rw [hall] at this
            rcases List.mem_append.mp this with q | q
            · exact q
            · exfalso
              have hsr := lots_sorted n
              rw [hall] at hsr
              have hsr := (List.pairwise_append.mp hsr).2.1
              rw [List.cons_append] at q hsr
              rcases List.mem_cons.mp q with q | q
              · rw [q] at hlt; omega
              · exact (List.pairwise_cons.mp hsr).1 Q q hlt
          refine h1 Q ((hm Q).mpr ⟨hin, hq⟩) ?_
          rw [List.all_eq_true]
          intro x hx
          exact decide_eq_true (hs x (hs2 x hx))
      · rintro ⟨h1, h2⟩
        refine ⟨fun Q hQ hall2 => ?_, h1⟩
        obtain ⟨hp, hq⟩ := (hm Q).mp hQ
        have hs : ∀ x ∈ Q, x ∈ lot := fun x hx => of_decide_eq_true (List.all_eq_true.mp hall2 x hx)
        have := h2 Q (hmem Q (.inl hp)) hs fun e => hnot (by rw [← e]; exact hp)
        rw [hq.1] at this
        cases this
    rw [List.foldl_cons, key]
    have hall' : allLots n = (pre ++ [lot]) ++ (suf ++ last) := by rw [hall]; simp
    have hf' : (if P lot = true then found ++ [lot] else found) = (pre ++ [lot]).filter P := by
      rw [List.filter_append, hf, List.filter_cons]
      by_cases c : P lot = true
      · rw [if_pos c, if_pos c]; rfl
      · rw [if_neg c, if_neg c]; simp
    rw [least_fold h0 suf (pre ++ [lot]) _ ⟨last, hall'⟩ (fun x => ?_) P hP hf']
    · simp
    · rw [hf', List.mem_filter, hP]
theorem full_uniq {n : Int} {S : List Int} (h0 : 0 ≤ n) (hS : Lot n S) (h : (S.length : Int) = n) : S = rng 0 n := by
  have hr : Lot n (rng 0 n) := ⟨by unfold rng; rw [List.pairwise_map]; exact List.pairwise_lt_range.imp fun h => by omega, fun x hx => mem_rng.mp hx⟩
  apply Classical.byContradiction
  intro hne
  have := sub_lt hS hr (fun x hx => mem_rng.mpr (hS.2 x hx)) hne
  rw [rng_len] at this
  omega
theorem least_eq {n : Int} {l : List Int} (h0 : 0 ≤ n) (P : List Int → Bool) (hP : ∀ x, P x = true ↔ LQ n l x) : leastOf n l = (allLots n).filter fun S => decide ((S.length : Int) < n) && P S := by
  have hr : Lot n (rng 0 n) := ⟨by unfold rng; rw [List.pairwise_map]; exact List.pairwise_lt_range.imp fun h => by omega, fun x hx => mem_rng.mp hx⟩
  have hin := (allLots_iff h0).mpr hr
  have hne : allLots n ≠ [] := fun e => by rw [e] at hin; simp at hin
  have e0 := (List.dropLast_concat_getLast hne).symm
  unfold leastOf
  generalize (allLots n).dropLast = c at e0
  generalize (allLots n).getLast hne = x at e0
  have hx : x = rng 0 n := by
    rw [e0] at hin
    rcases List.mem_append.mp hin with q | q
    · have hsr := lots_sorted n
      rw [e0] at hsr
      have : ¬ x.length < (rng 0 n).length := (List.pairwise_append.mp hsr).2.2 _ q x (by simp)
      have hxL : Lot n x := (allLots_iff h0).mp (by rw [e0]; simp)
      have hl := hxL.len' h0
      rw [rng_len] at this
      exact full_uniq h0 hxL (by omega)
    · exact (List.mem_singleton.mp q).symm
  have := least_fold (l := l) h0 c [] [] ⟨[x], by rw [e0]; simp⟩ (fun x => by simp) P hP rfl
  rw [this, e0, List.nil_append, List.filter_append]
  have e1 : c.filter (fun S => decide ((S.length : Int) < n) && P S) = c.filter P := by
    refine List.filter_congr fun S hS => ?_
    have hSL : Lot n S := (allLots_iff h0).mp (by rw [e0]; simp [hS])
    have hl := hSL.len' h0
    have : (S.length : Int) ≠ n := fun e => by
      have hnd := allLots_nodup n
      rw [e0] at hnd
      exact (List.nodup_append.mp hnd).2.2 S hS x (by simp) (by rw [hx]; exact full_uniq h0 hSL e)
    rw [decide_eq_true (by omega), Bool.true_and]
  have e2 : [x].filter (fun S => decide ((S.length : Int) < n) && P S) = [] := by
    rw [List.filter_cons, hx, decide_eq_false (by rw [rng_len]; omega)]
    rfl
  rw [e1, e2, List.append_nil]
theorem lq_seen {n : Int} {f : List Int → List Int} (F : Sy n f) {l l' : List Int} (h : ∀ S, Lot n S → looseIn n l' (f S) = looseIn n l S) {S : List Int} (hS : Lot n S) : LQ n l' (f S) ↔ LQ n l S := by
  have hc : ∀ R, Lot n R → looseIn n l' (complOf n (f R)) = looseIn n l (complOf n R) := fun R hR => by rw [F.fcompl hR, h _ (compl_lot n R)]
  unfold LQ
  rw [hc S hS]
  refine and_congr_right fun _ => ⟨fun g R hR hs hne => ?_, fun g T hT hs hne => ?_⟩
  · rw [← hc R hR]
    exact g (f R) (F.lot R hR) ((F.fsub hR hS).mpr hs) fun e => hne (F.finj hR hS e)
  · obtain ⟨R, hR, rfl⟩ := F.fsur hT
    rw [hc R hR]
    exact g R hR ((F.fsub hR hS).mp hs) fun e => hne (by rw [e])
theorem least_seen {n : Int} {f : List Int → List Int} (h0 : 0 ≤ n) (F : Sy n f) {l l' : List Int} (h : ∀ S, Lot n S → looseIn n l' (f S) = looseIn n l S) : leastOf n l' = sortedLots ((leastOf n l).map f) := by
  classical
  rw [least_eq h0 (fun S => decide (LQ n l' S)) fun x => decide_eq_true_iff, least_eq h0 (fun S => decide (LQ n l S)) fun x => decide_eq_true_iff]
  refine seen h0 F fun S hS => ?_
  rw [F.len S hS]
  congr 1
  rw [decide_eq_decide]
  exact lq_seen F h hS
theorem told_seen {n : Int} {f : List Int → List Int} (h0 : 0 ≤ n) (F : Sy n f) {l l' : List Int} (h : ∀ S, Lot n S → looseIn n l' (f S) = looseIn n l S) (k : Nat) : toldOf k n l' = sortedLots ((toldOf k n l).map f) := by
  unfold toldOf
  split
  · exact tang_seen h0 F h
  · exact least_seen h0 F h
/-! ### the ways to see -/
def syBack {n : Int} : Sy n (backLot n) where
  r := fun x => n - 1 - x
  rin := fun x h1 h2 => by omega
  inj := fun x y _ _ _ _ e => by omega
  sur := fun y h1 h2 => ⟨n - 1 - y, by omega, by omega⟩
  lot := fun S hS => back_lot hS
  mem := fun S x hS => by
    rw [mem_back]
    exact ⟨fun h => ⟨by have := hS.2 _ h; omega, h⟩, fun h => h.2⟩
  len := fun S _ => back_len n S
def syLine {n : Int} {l : List Int} (h0 : 0 ≤ n) (ok : ∀ s ∈ l, 1 ≤ s.natAbs ∧ (s.natAbs : Int) < n) : Sy n (whereOf (lineOf n l)) where
  r := fun x => (lineOf n l).getD x.toNat 0
  rin := fun x h1 h2 => by
    have hl := lineOf_len n l
    rw [List.getD_eq_getElem?_getD, List.getElem?_eq_getElem (by omega)]
    exact mem_rng.mp ((line_pm ok).mem_iff.mp (List.getElem_mem _))
  inj := fun x y h1 h2 h3 h4 e => by
    have hl := lineOf_len n l
    have hnd := (line_pm ok).nodup_iff.mpr (rng_nodup 0 n)
    rw [List.getD_eq_getElem?_getD, List.getElem?_eq_getElem (by omega : x.toNat < (lineOf n l).length), List.getD_eq_getElem?_getD, List.getElem?_eq_getElem (by omega : y.toNat < (lineOf n l).length)] at e
    have e : (lineOf n l)[x.toNat]'(by omega) = (lineOf n l)[y.toNat]'(by omega) := e
    have g := List.pairwise_iff_getElem.mp hnd
    rcases Nat.lt_trichotomy x.toNat y.toNat with q | q | q
    · exact absurd e (g x.toNat y.toNat (by omega) (by omega) q)
    · omega
    · exact absurd e.symm (g y.toNat x.toNat (by omega) (by omega) q)
  sur := fun y h1 h2 => by
    have hl := lineOf_len n l
    have := (line_pm ok).mem_iff.mpr (mem_rng.mpr ⟨h1, h2⟩)
    obtain ⟨i, hi, e⟩ := List.getElem_of_mem this
    refine ⟨(i : Int), ⟨by omega, by omega⟩, ?_⟩
    rw [show ((i : Int)).toNat = i by omega, List.getD_eq_getElem?_getD, List.getElem?_eq_getElem hi]
    exact e
  lot := fun S _ => where_lot S h0
  mem := fun S x _ => by
    rw [mem_where, lineOf_len]
    constructor
    · rintro ⟨a, b, c⟩
      exact ⟨⟨a, by omega⟩, c⟩
    · rintro ⟨⟨a, b⟩, c⟩
      exact ⟨a, by omega, c⟩
  len := fun S hS => where_len hS h0 ok
theorem told_same {n : Int} {l l' : List Int} (h0 : 0 ≤ n) (h : ∀ S, Lot n S → looseIn n l' S = looseIn n l S) (k : Nat) : toldOf k n l' = toldOf k n l := by
  classical
  unfold toldOf
  split
  · unfold tanglesOf
    refine List.filter_congr fun S hS => ?_
    have hL := (allLots_iff h0).mp hS
    rw [h S hL]
    congr 1
    refine bool_iff ?_
    rw [List.all_eq_true, List.all_eq_true]
    exact ⟨fun g x hx => by rw [← h _ (without_ok hL x)]; exact g x hx, fun g x hx => by rw [h _ (without_ok hL x)]; exact g x hx⟩
  · rw [least_eq h0 (fun S => decide (LQ n l' S)) fun x => decide_eq_true_iff, least_eq h0 (fun S => decide (LQ n l S)) fun x => decide_eq_true_iff]
    refine List.filter_congr fun S hS => ?_
    congr 1
    rw [decide_eq_decide]
    unfold LQ
    rw [h _ (compl_lot n S)]
    refine and_congr_right fun _ => ⟨fun g R hR hs hne => ?_, fun g R hR hs hne => ?_⟩
    · rw [← h _ (compl_lot n R)]; exact g R hR hs hne
    · rw [h _ (compl_lot n R)]; exact g R hR hs hne
/-- where something is not loose, there is a tangle -/
theorem tang_ex {n : Int} {l : List Int} (h0 : 0 ≤ n) : ∀ (k : Nat) (S : List Int), S.length ≤ k → Lot n S → looseIn n l S = false → tanglesOf n l ≠ []
  | 0, S, hk, hS, h => by
    have : S = [] := List.length_eq_zero_iff.mp (by omega)
    subst this
    unfold looseIn at h
    simp at h
  | k + 1, S, hk, hS, h => by
    by_cases g : ∃ d ∈ S, looseIn n l (without S d) = false
    · obtain ⟨d, hd, hl⟩ := g
      refine tang_ex h0 k (without S d) ?_ (without_ok hS d) hl
      have := sub_lt (without_ok hS d) hS (fun x hx => (mem_without.mp hx).1) fun e => by
        rw [← e] at hd
        exact (mem_without.mp hd).2 rfl
      omega
    · intro e
      have : S ∈ tanglesOf n l := by
        unfold tanglesOf
        refine List.mem_filter.mpr ⟨(allLots_iff h0).mpr hS, ?_⟩
        rw [h, Bool.not_false, Bool.true_and, List.all_eq_true]
        intro d hd
        cases hb : looseIn n l (without S d) with
        | true => rfl
        | false => exact absurd ⟨d, hd, hb⟩ g
      rw [e] at this
      simp at this
theorem tangw {n : Int} {l : List Int} (h2 : 2 ≤ n) (h5 : n ≤ 5) (ok : ∀ s ∈ l, 1 ≤ s.natAbs ∧ (s.natAbs : Int) < n) : TangW n l where
  und := fun k _ => told_seen (by omega) (syLine (by omega) ok) (fun S hS => loose_undo (by omega) ok hS) k
  mir := fun k _ => told_same (by omega) (fun S hS => loose_mir ok hS) k
  trn := fun k _ => told_seen (by omega) syBack (fun S hS => loose_turn (by omega) ok hS) k
  meet := fun lot hlot knot hknot e => by
    classical
    rw [least_eq (by omega) (fun S => decide (LQ n l S)) fun x => decide_eq_true_iff] at hlot
    obtain ⟨h1, h3⟩ := List.mem_filter.mp hlot
    obtain ⟨_, h3⟩ := Bool.and_eq_true_iff.mp h3
    have hq := of_decide_eq_true h3
    obtain ⟨k1, k2⟩ := List.mem_filter.mp hknot
    have hK := (allLots_iff (by omega)).mp k1
    have := loose_sub (by omega) h5 ok (compl_lot n lot) hK (fun x hx => mem_compl.mpr ⟨hK.2 x hx, fun hin => by
      have : x ∈ knot.filter fun d => decide (d ∈ lot) := List.mem_filter.mpr ⟨hx, decide_eq_true hin⟩
      rw [e] at this
      simp at this⟩) hq.1
    rw [this] at k2
    simp at k2
  non := by
    classical
    have h0 : (0 : Int) ≤ n := by omega
    have hnil : Lot n [] := ⟨List.Pairwise.nil, fun x hx => by simp at hx⟩
    have hle := least_eq (l := l) h0 (fun S => decide (LQ n l S)) fun x => decide_eq_true_iff
    rw [decide_eq_decide]
    constructor
    · intro ht
      have hall : looseIn n l (complOf n []) = true := by
        cases hb : looseIn n l (complOf n []) with
        | true => rfl
        | false => exact absurd ht (tang_ex h0 _ _ (Nat.le_refl _) (compl_lot n []) hb)
      have hm : ∀ x, x ∈ leastOf n l ↔ x ∈ [([] : List Int)] := fun x => by
        rw [hle, List.mem_filter, allLots_iff h0, Bool.and_eq_true, decide_eq_true_iff, decide_eq_true_iff, List.mem_singleton]
        constructor
        · rintro ⟨hx, _, hq⟩
          apply Classical.byContradiction
          intro hne
          have := hq.2 [] hnil (fun x hx => by simp at hx) fun e => hne e.symm
          rw [hall] at this
          cases this
        · rintro rfl
          refine ⟨hnil, by simp; omega, hall, fun R hR hs hne => ?_⟩
          exact absurd (List.eq_nil_iff_forall_not_mem.mpr fun x hx => by have := hs x hx; simp at this) hne
      have hnd : (leastOf n l).Nodup := by rw [hle]; exact (allLots_nodup n).filter _
      have hp := (List.perm_ext_iff_of_nodup hnd (by simp)).mpr hm
      exact List.perm_singleton.mp hp
    · intro hl
      have hin : [] ∈ leastOf n l := by rw [hl]; simp
      rw [hle, List.mem_filter] at hin
      obtain ⟨_, hin⟩ := hin
      obtain ⟨_, hin⟩ := Bool.and_eq_true_iff.mp hin
      have hq := of_decide_eq_true hin
      unfold tanglesOf
      rw [List.filter_eq_nil_iff]
      intro S hS
      have hL := (allLots_iff h0).mp hS
      have := loose_sub h0 h5 ok (compl_lot n []) hL (fun x hx => mem_compl.mpr ⟨hL.2 x hx, by simp⟩) hq.1
      rw [this]
      simp
end Mi
end
section
set_option linter.all false
set_option maxRecDepth 100000
/-! PE: the plain law of k95. -/
namespace Q95
open Mp Mi
theorem plain : Plain := fun many l other h2 h5 ok oko => ⟨tangw h2 h5 ok.1, fun lot hL hl => ⟨side_ok h2 ok.1 hL hl, num_ok h2 ok.1 oko.1 hL hl⟩⟩
end Q95
end
section
set_option Elab.async false
set_option linter.all false
set_option maxRecDepth 100000
set_option maxHeartbeats 0
/-! the head: facts by names. -/
namespace Q95
open PySem PySem.Spec PyProof.Rows L2
def dd (i : Nat) (x : Str) : He.DefD := ⟨(x, none), x, x, defArgs (topS i), defBody (topS i), defScope (topS i), [], []⟩
def fn0 : List He.DefD := [dd 8 "is_number", dd 9 "is_between", dd 10 "is_step", dd 11 "is_dance", dd 12 "need_many", dd 13 "need_dance", dd 14 "need_one", dd 15 "order_of", dd 16 "undone_of", dd 17 "leads_of", dd 18 "end_order", dd 19 "leads", dd 20 "undone", dd 21 "mirrored", dd 22 "turned_about", dd 24 "most_nought", dd 25 "least_nought", dd 26 "forward_four", dd 27 "backward_four", dd 28 "step_numbers", dd 29 "all_led", dd 30 "numbers_in", dd 31 "is_alike", dd 33 "left_of", dd 34 "is_lot", dd 35 "left_by", dd 36 "is_loose_in", dd 37 "all_lots", dd 38 "without", dd 39 "loose_lots"]
def fn1 : List He.DefD := [dd 40 "tangles_of", dd 41 "tangles", dd 42 "least_leavings", dd 43 "is_woven", dd 45 "pairs_of", dd 46 "swapped", dd 47 "pair_at", dd 48 "met", dd 49 "meetings", dd 51 "_law_begun", dd 52 "_law_mixed", dd 53 "_law_take", dd 54 "_law_pick", dd 55 "_law_dance", dd 56 "_law_turn_back", dd 57 "_law_left", dd 58 "_law_lots", dd 59 "_law_some", dd 60 "_law_where", dd 61 "_law_sorted_lots", dd 62 "_law_sides_right", dd 63 "_law_numbers_right", dd 64 "_law_tangles_right", dd 65 "law"]
def fn : List He.DefD := fn0 ++ fn1
def fa0 : List He.Fa := [.glo "is_number", .glo "is_between", .glo "is_step", .glo "is_dance", .glo "need_many", .glo "need_dance", .glo "need_one", .glo "order_of", .glo "undone_of", .glo "leads_of", .glo "end_order", .glo "leads", .glo "undone", .glo "mirrored", .glo "turned_about", .glo "most_nought", .glo "least_nought", .glo "forward_four", .glo "backward_four", .glo "step_numbers", .glo "all_led", .glo "numbers_in", .glo "is_alike", .glo "left_of", .glo "is_lot", .glo "left_by", .glo "is_loose_in", .glo "all_lots", .glo "without", .glo "loose_lots"]
def fa1 : List He.Fa := [.glo "tangles_of", .glo "tangles", .glo "least_leavings", .glo "is_woven", .glo "pairs_of", .glo "swapped", .glo "pair_at", .glo "met", .glo "meetings", .glo "_law_begun", .glo "_law_mixed", .glo "_law_take", .glo "_law_pick", .glo "_law_dance", .glo "_law_turn_back", .glo "_law_left", .glo "_law_lots", .glo "_law_some", .glo "_law_where", .glo "_law_sorted_lots", .glo "_law_sides_right", .glo "_law_numbers_right", .glo "_law_tangles_right", .glo "law", .int "LEAST" 2, .int "MOST" 5, .free "isinstance", .free "int", .free "bool", .free "tuple"]
def fa2 : List He.Fa := [.free "list", .free "len", .free "abs", .free "range", .free "min", .free "max", .free "sum", .free "all", .free "any", .free "sorted", .free "set", .free "zip", .free "enumerate", .free "dict", .free "str", .free "reversed"]
def fa : List He.Fa := fa0 ++ fa1 ++ fa2
def loose0 : List Str := ["MaypoleError", "BadMany", "BadDance", "BadDancers", "is_number", "is_between", "is_step", "is_dance", "need_many", "need_dance", "need_one", "order_of", "undone_of", "leads_of", "end_order", "leads", "undone", "mirrored", "turned_about", "most_nought", "least_nought", "forward_four", "backward_four", "step_numbers", "all_led", "numbers_in", "is_alike", "left_of", "is_lot", "left_by"]
def loose1 : List Str := ["is_loose_in", "all_lots", "without", "loose_lots", "tangles_of", "tangles", "least_leavings", "is_woven", "pairs_of", "swapped", "pair_at", "met", "meetings", "_law_begun", "_law_mixed", "_law_take", "_law_pick", "_law_dance", "_law_turn_back", "_law_left", "_law_lots", "_law_some", "_law_where", "_law_sorted_lots", "_law_sides_right", "_law_numbers_right", "_law_tangles_right", "LEAST", "MOST"]
def loose : List Str := loose0 ++ loose1
abbrev hR : PySem.W.OpenRow := PySem.W.OpenLaw.row PySem.Challenge.rw_maypole_k95_whole_who_leaves_seen_from_a
abbrev hk : PySem.W.Hook := He.hookD 4 fa fn
def ob (s : PySem.W.SharedT) : He.AlD := He.obsDG 4 fa fn (HandSHeadRun.getT s)
theorem ob_eq (s : PySem.W.SharedT) : ob s = hk.obs s.abs := He.obsDG_eq (HandSHeadRun.getT_eq s)
theorem head_run (w : World) : HandSHeadRun.RunEq hR (PySem.W.view hR.prog [65]) hk ob 6000 loose w := by
  intro os
  kernel_rfl
theorem fun_of {K : PySem.W.Frag} {x : Str} {st : Stmt} {f : Addr} {fd : FuncData} (F : FunD K x x (defArgs st) (defBody st) (defScope st) [] [] f fd) : Fun K x x st f fd := by
  obtain ⟨⟨oc, od, dV, kV, doc, pm, an, cdv, ct, osl, e, l, c, hd, _⟩, kp⟩ := F
  rcases hd with ⟨_, rfl⟩ | ⟨h, _⟩
  · exact ⟨⟨oc, od, kV, doc, pm, an, cdv, ct, osl, e, l, c⟩, kp⟩
  · exact absurd rfl h
theorem head_def {K : PySem.W.Frag} {h : Heap} {mg : Str → Option Value} (X : K.In h) (G : h.Ns mainGlobals mg) (c : He.SaysD fa fn K) (i : Nat) (k : Nat) (x : Str) (e : fn[i]? = some (dd k x)) (g : fa[i]? = some (.glo x)) : ∃ fd, Fun K x x (topS k) (He.ga K x) fd ∧ mg x = some (.ref (He.ga K x)) := by
  obtain ⟨fd, F⟩ := c.def_ i e
  exact ⟨fd, fun_of F, He.glo_ok X G (c.fact i g)⟩
theorem law_bt {K : PySem.W.Frag} {mg : Str → Option Value} (T : Txt K mg) (s : Shared) (v : Value) : BindsTo s T.d_law ⟨[v], []⟩ [("_law_script", v)] := by
  obtain ⟨oc, od, kV, doc, pm, an, cdv, ct, osl, e, l, c⟩ := T.h_law.ex
  rw [e]
  exact .of_eq rfl
theorem head_txt {K : PySem.W.Frag} {h : Heap} {mg : Str → Option Value} (X : K.In h) (G : h.Ns mainGlobals mg) (c : He.SaysD fa fn K) : Nonempty (Txt K mg) := by
  obtain ⟨d0, F0, G0⟩ := head_def X G c 0 8 "is_number" rfl rfl
  obtain ⟨d1, F1, G1⟩ := head_def X G c 1 9 "is_between" rfl rfl
  obtain ⟨d2, F2, G2⟩ := head_def X G c 2 10 "is_step" rfl rfl
  obtain ⟨d3, F3, G3⟩ := head_def X G c 3 11 "is_dance" rfl rfl
  obtain ⟨d4, F4, G4⟩ := head_def X G c 4 12 "need_many" rfl rfl
  obtain ⟨d5, F5, G5⟩ := head_def X G c 5 13 "need_dance" rfl rfl
  obtain ⟨d6, F6, G6⟩ := head_def X G c 6 14 "need_one" rfl rfl
  obtain ⟨d7, F7, G7⟩ := head_def X G c 7 15 "order_of" rfl rfl
  obtain ⟨d8, F8, G8⟩ := head_def X G c 8 16 "undone_of" rfl rfl
  obtain ⟨d9, F9, G9⟩ := head_def X G c 9 17 "leads_of" rfl rfl
  obtain ⟨d10, F10, G10⟩ := head_def X G c 10 18 "end_order" rfl rfl
  obtain ⟨d11, F11, G11⟩ := head_def X G c 11 19 "leads" rfl rfl
  obtain ⟨d12, F12, G12⟩ := head_def X G c 12 20 "undone" rfl rfl
  obtain ⟨d13, F13, G13⟩ := head_def X G c 13 21 "mirrored" rfl rfl
  obtain ⟨d14, F14, G14⟩ := head_def X G c 14 22 "turned_about" rfl rfl
  obtain ⟨d15, F15, G15⟩ := head_def X G c 15 24 "most_nought" rfl rfl
  obtain ⟨d16, F16, G16⟩ := head_def X G c 16 25 "least_nought" rfl rfl
  obtain ⟨d17, F17, G17⟩ := head_def X G c 17 26 "forward_four" rfl rfl
  obtain ⟨d18, F18, G18⟩ := head_def X G c 18 27 "backward_four" rfl rfl
  obtain ⟨d19, F19, G19⟩ := head_def X G c 19 28 "step_numbers" rfl rfl
  obtain ⟨d20, F20, G20⟩ := head_def X G c 20 29 "all_led" rfl rfl
  obtain ⟨d21, F21, G21⟩ := head_def X G c 21 30 "numbers_in" rfl rfl
  obtain ⟨d22, F22, G22⟩ := head_def X G c 22 31 "is_alike" rfl rfl
  obtain ⟨d23, F23, G23⟩ := head_def X G c 23 33 "left_of" rfl rfl
  obtain ⟨d24, F24, G24⟩ := head_def X G c 24 34 "is_lot" rfl rfl
  obtain ⟨d25, F25, G25⟩ := head_def X G c 25 35 "left_by" rfl rfl
  obtain ⟨d26, F26, G26⟩ := head_def X G c 26 36 "is_loose_in" rfl rfl
  obtain ⟨d27, F27, G27⟩ := head_def X G c 27 37 "all_lots" rfl rfl
  obtain ⟨d28, F28, G28⟩ := head_def X G c 28 38 "without" rfl rfl
  obtain ⟨d29, F29, G29⟩ := head_def X G c 29 39 "loose_lots" rfl rfl
  obtain ⟨d30, F30, G30⟩ := head_def X G c 30 40 "tangles_of" rfl rfl
  obtain ⟨d31, F31, G31⟩ := head_def X G c 31 41 "tangles" rfl rfl
  obtain ⟨d32, F32, G32⟩ := head_def X G c 32 42 "least_leavings" rfl rfl
  obtain ⟨d33, F33, G33⟩ := head_def X G c 33 43 "is_woven" rfl rfl
  obtain ⟨d34, F34, G34⟩ := head_def X G c 34 45 "pairs_of" rfl rfl
  obtain ⟨d35, F35, G35⟩ := head_def X G c 35 46 "swapped" rfl rfl
  obtain ⟨d36, F36, G36⟩ := head_def X G c 36 47 "pair_at" rfl rfl
  obtain ⟨d37, F37, G37⟩ := head_def X G c 37 48 "met" rfl rfl
  obtain ⟨d38, F38, G38⟩ := head_def X G c 38 49 "meetings" rfl rfl
  obtain ⟨d39, F39, G39⟩ := head_def X G c 39 51 "_law_begun" rfl rfl
  obtain ⟨d40, F40, G40⟩ := head_def X G c 40 52 "_law_mixed" rfl rfl
  obtain ⟨d41, F41, G41⟩ := head_def X G c 41 53 "_law_take" rfl rfl
  obtain ⟨d42, F42, G42⟩ := head_def X G c 42 54 "_law_pick" rfl rfl
  obtain ⟨d43, F43, G43⟩ := head_def X G c 43 55 "_law_dance" rfl rfl
  obtain ⟨d44, F44, G44⟩ := head_def X G c 44 56 "_law_turn_back" rfl rfl
  obtain ⟨d45, F45, G45⟩ := head_def X G c 45 57 "_law_left" rfl rfl
  obtain ⟨d46, F46, G46⟩ := head_def X G c 46 58 "_law_lots" rfl rfl
  obtain ⟨d47, F47, G47⟩ := head_def X G c 47 59 "_law_some" rfl rfl
  obtain ⟨d48, F48, G48⟩ := head_def X G c 48 60 "_law_where" rfl rfl
  obtain ⟨d49, F49, G49⟩ := head_def X G c 49 61 "_law_sorted_lots" rfl rfl
  obtain ⟨d50, F50, G50⟩ := head_def X G c 50 62 "_law_sides_right" rfl rfl
  obtain ⟨d51, F51, G51⟩ := head_def X G c 51 63 "_law_numbers_right" rfl rfl
  obtain ⟨d52, F52, G52⟩ := head_def X G c 52 64 "_law_tangles_right" rfl rfl
  obtain ⟨d53, F53, G53⟩ := head_def X G c 53 65 "law" rfl rfl
  exact ⟨{
    f_is_number := _, d_is_number := d0, h_is_number := F0, g_is_number := G0,
    f_is_between := _, d_is_between := d1, h_is_between := F1, g_is_between := G1,
    f_is_step := _, d_is_step := d2, h_is_step := F2, g_is_step := G2,
    f_is_dance := _, d_is_dance := d3, h_is_dance := F3, g_is_dance := G3,
    f_need_many := _, d_need_many := d4, h_need_many := F4, g_need_many := G4,
    f_need_dance := _, d_need_dance := d5, h_need_dance := F5, g_need_dance := G5,
    f_need_one := _, d_need_one := d6, h_need_one := F6, g_need_one := G6,
    f_order_of := _, d_order_of := d7, h_order_of := F7, g_order_of := G7,
    f_undone_of := _, d_undone_of := d8, h_undone_of := F8, g_undone_of := G8,
    f_leads_of := _, d_leads_of := d9, h_leads_of := F9, g_leads_of := G9,
    f_end_order := _, d_end_order := d10, h_end_order := F10, g_end_order := G10,
    f_leads := _, d_leads := d11, h_leads := F11, g_leads := G11,
    f_undone := _, d_undone := d12, h_undone := F12, g_undone := G12,
    f_mirrored := _, d_mirrored := d13, h_mirrored := F13, g_mirrored := G13,
    f_turned_about := _, d_turned_about := d14, h_turned_about := F14, g_turned_about := G14,
    f_most_nought := _, d_most_nought := d15, h_most_nought := F15, g_most_nought := G15,
    f_least_nought := _, d_least_nought := d16, h_least_nought := F16, g_least_nought := G16,
    f_forward_four := _, d_forward_four := d17, h_forward_four := F17, g_forward_four := G17,
    f_backward_four := _, d_backward_four := d18, h_backward_four := F18, g_backward_four := G18,
    f_step_numbers := _, d_step_numbers := d19, h_step_numbers := F19, g_step_numbers := G19,
    f_all_led := _, d_all_led := d20, h_all_led := F20, g_all_led := G20,
    f_numbers_in := _, d_numbers_in := d21, h_numbers_in := F21, g_numbers_in := G21,
    f_is_alike := _, d_is_alike := d22, h_is_alike := F22, g_is_alike := G22,
    f_left_of := _, d_left_of := d23, h_left_of := F23, g_left_of := G23,
    f_is_lot := _, d_is_lot := d24, h_is_lot := F24, g_is_lot := G24,
    f_left_by := _, d_left_by := d25, h_left_by := F25, g_left_by := G25,
    f_is_loose_in := _, d_is_loose_in := d26, h_is_loose_in := F26, g_is_loose_in := G26,
    f_all_lots := _, d_all_lots := d27, h_all_lots := F27, g_all_lots := G27,
    f_without := _, d_without := d28, h_without := F28, g_without := G28,
    f_loose_lots := _, d_loose_lots := d29, h_loose_lots := F29, g_loose_lots := G29,
    f_tangles_of := _, d_tangles_of := d30, h_tangles_of := F30, g_tangles_of := G30,
    f_tangles := _, d_tangles := d31, h_tangles := F31, g_tangles := G31,
    f_least_leavings := _, d_least_leavings := d32, h_least_leavings := F32, g_least_leavings := G32,
    f_is_woven := _, d_is_woven := d33, h_is_woven := F33, g_is_woven := G33,
    f_pairs_of := _, d_pairs_of := d34, h_pairs_of := F34, g_pairs_of := G34,
    f_swapped := _, d_swapped := d35, h_swapped := F35, g_swapped := G35,
    f_pair_at := _, d_pair_at := d36, h_pair_at := F36, g_pair_at := G36,
    f_met := _, d_met := d37, h_met := F37, g_met := G37,
    f_meetings := _, d_meetings := d38, h_meetings := F38, g_meetings := G38,
    f__law_begun := _, d__law_begun := d39, h__law_begun := F39, g__law_begun := G39,
    f__law_mixed := _, d__law_mixed := d40, h__law_mixed := F40, g__law_mixed := G40,
    f__law_take := _, d__law_take := d41, h__law_take := F41, g__law_take := G41,
    f__law_pick := _, d__law_pick := d42, h__law_pick := F42, g__law_pick := G42,
    f__law_dance := _, d__law_dance := d43, h__law_dance := F43, g__law_dance := G43,
    f__law_turn_back := _, d__law_turn_back := d44, h__law_turn_back := F44, g__law_turn_back := G44,
    f__law_left := _, d__law_left := d45, h__law_left := F45, g__law_left := G45,
    f__law_lots := _, d__law_lots := d46, h__law_lots := F46, g__law_lots := G46,
    f__law_some := _, d__law_some := d47, h__law_some := F47, g__law_some := G47,
    f__law_where := _, d__law_where := d48, h__law_where := F48, g__law_where := G48,
    f__law_sorted_lots := _, d__law_sorted_lots := d49, h__law_sorted_lots := F49, g__law_sorted_lots := G49,
    f__law_sides_right := _, d__law_sides_right := d50, h__law_sides_right := F50, g__law_sides_right := G50,
    f__law_numbers_right := _, d__law_numbers_right := d51, h__law_numbers_right := F51, g__law_numbers_right := G51,
    f__law_tangles_right := _, d__law_tangles_right := d52, h__law_tangles_right := F52, g__law_tangles_right := G52,
    f_law := _, d_law := d53, h_law := F53, g_law := G53,
    c_LEAST := He.int_ok X G (c.fact 54 rfl),
    c_MOST := He.int_ok X G (c.fact 55 rfl),
    b_isinstance := He.free_ok X G (c.fact 56 rfl),
    b_int := He.free_ok X G (c.fact 57 rfl),
    b_bool := He.free_ok X G (c.fact 58 rfl),
    b_tuple := He.free_ok X G (c.fact 59 rfl),
    b_list := He.free_ok X G (c.fact 60 rfl),
    b_len := He.free_ok X G (c.fact 61 rfl),
    b_abs := He.free_ok X G (c.fact 62 rfl),
    b_range := He.free_ok X G (c.fact 63 rfl),
    b_min := He.free_ok X G (c.fact 64 rfl),
    b_max := He.free_ok X G (c.fact 65 rfl),
    b_sum := He.free_ok X G (c.fact 66 rfl),
    b_all := He.free_ok X G (c.fact 67 rfl),
    b_any := He.free_ok X G (c.fact 68 rfl),
    b_sorted := He.free_ok X G (c.fact 69 rfl),
    b_set := He.free_ok X G (c.fact 70 rfl),
    b_zip := He.free_ok X G (c.fact 71 rfl),
    b_enumerate := He.free_ok X G (c.fact 72 rfl),
    b_dict := He.free_ok X G (c.fact 73 rfl),
    b_str := He.free_ok X G (c.fact 74 rfl),
    b_reversed := He.free_ok X G (c.fact 75 rfl) }⟩
end Q95
open PySem PySem.W PySem.Calls PyProof.Rows
theorem PySem.Challenge.cw_maypole_k95_whole_who_leaves_seen_from_a_holds : PySem.Challenge.rw_maypole_k95_whole_who_leaves_seen_from_a.Holds := by
  w_on; o_law
  refine HandSHeadRun.head_any (r := OpenLaw.row PySem.Challenge.rw_maypole_k95_whole_who_leaves_seen_from_a) (q := view (OpenLaw.row PySem.Challenge.rw_maypole_k95_whole_who_leaves_seen_from_a).prog [65]) (H := Q95.hk) (ob := Q95.ob) (M := 6000) (loose := Q95.loose) (d := HandSHeadRun.topDef (OpenLaw.row PySem.Challenge.rw_maypole_k95_whole_who_leaves_seen_from_a).prog 65) (kwd := []) Q95.ob_eq
    (by kernel_rfl) (fun s => by kernel_rfl) Q95.head_run (by kernel_rfl) (by kernel_rfl) (by kernel_rfl) (by rfl) (by first | assumption | decide +kernel) (by decide +kernel) ⟨rfl, rfl, rfl, rfl, rfl, by decide +kernel⟩ ?hw ?hc
  case hw => w_witness2
  case hc =>
    refine L2.walk_ofE (l := PySem.Challenge.rw_maypole_k95_whole_who_leaves_seen_from_a) (n := 63) (k := 12) (x := "_law_script") (CX := L2.CX0) rfl (by decide) (by kernel_rfl) ⟨rfl, by decide, by decide⟩ ?F (fun _ _ _ _ z => z)
    intro w mg fa h Y G hmg0
    obtain ⟨K, KX, c⟩ := Y
    have hmg : mg ("law" : PySem.Str) = some (.ref fa) := by
      have e : (HandSHeadRun.topDef (OpenLaw.row PySem.Challenge.rw_maypole_k95_whole_who_leaves_seen_from_a).prog 65).name = ("law" : PySem.Str) := by kernel_rfl
      rw [← e]
      exact hmg0
    obtain ⟨T⟩ := Q95.head_txt KX G c
    have e := hmg.symm.trans T.g_law
    cases e
    exact ⟨K, T.d_law, Q95.spLaw K, KX, fun s v => Q95.law_bt T s v, fun H a ns hl _ hS => ⟨a, ns, rfl, hS, hl, fun _ => rfl⟩, fun base _ _ => Q95.law_ok1 Q95.plain T⟩
end
