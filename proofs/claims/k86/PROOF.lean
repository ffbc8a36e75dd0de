import PyProof.Rows.All
import Wide.All
import OpenK.AllK
import Wide.FinOn
import HandS.ForMost
import HandS.More
import HandS.Wide
import HandS.WideBits
import HandS.Deep
import HandS.Style
import HandS.IsInst
import HandS.Gcd
import HandS.SortInts
import HandS.Zip
import HandS.Defaults
import HandS.Head0
import HandS.Head1
import HandS.Head2
import HandS.HeadEnd
import HandS.HeadHook1
import HandS.HeadHook2
import KE.KStateDown
import Lean
import HandS.Base
import HandS.Call
import HandS.Ends
import HandS.Words
import HandS.WordsExc
import PySem.Challenge.RW_fewestfigures_k86_least_pairs_of_great_n

section
set_option Elab.async false
set_option linter.all false
set_option autoImplicit false
set_option maxRecDepth 100000
/-! Vp1: plain data trees D for Python values, how they lie in the abstract heap (Rep), and the frame's cells (ER). -/
namespace Vp
open PySem PySem.Spec PyProof.Rows L2

/-- a value without addresses; fls: a list that is read only (the script) -/
inductive D where
  | non | bl (b : Bool) | int (i : Int) | str (x : Str) | lst (xs : List D) | tup (xs : List D) | fls (xs : List D) | dic (kvs : List (Key × D))

mutual
def D.py : D → PyData
  | .non => .none
  | .bl b => .bool b
  | .int i => .int i
  | .str x => .str x
  | .lst xs => .list (D.pys xs)
  | .tup xs => .tuple (D.pys xs)
  | .fls xs => .list (D.pys xs)
  | .dic _ => .dict []
def D.pys : List D → List PyData
  | [] => []
  | x :: xs => x.py :: D.pys xs
end

mutual
inductive Rep (K : PySem.W.Frag) (H : Hp) : V → D → Prop
  | non : Rep K H .non .non
  | bl (b : Bool) : Rep K H (.bl b) (.bl b)
  | int (i : Int) : Rep K H (.int i) (.int i)
  | str (x : Str) : Rep K H (.str x) (.str x)
  | lst {a : Addr} {xs : List V} {ds : List D} : H a = some (.lst xs) → RepA K H xs ds → Rep K H (.ref a) (.lst ds)
  | tup {a : Addr} {xs : List V} {ds : List D} : SqT K H a xs → RepA K H xs ds → Rep K H (.ref a) (.tup ds)
  | fls {a : Addr} {xs : List V} {ds : List D} : SqL K H a xs → RepA K H xs ds → Rep K H (.ref a) (.fls ds)
  | dic {a : Addr} {kv : List (Key × V)} {kd : List (Key × D)} : Rd H a (.dK kv) → RepK K H kv kd → Rep K H (.ref a) (.dic kd)
inductive RepA (K : PySem.W.Frag) (H : Hp) : List V → List D → Prop
  | nil : RepA K H [] []
  | cons {v : V} {vs : List V} {d : D} {ds : List D} : Rep K H v d → RepA K H vs ds → RepA K H (v :: vs) (d :: ds)
inductive RepK (K : PySem.W.Frag) (H : Hp) : List (Key × V) → List (Key × D) → Prop
  | nil : RepK K H [] []
  | cons {k : Key} {v : V} {kv : List (Key × V)} {d : D} {kd : List (Key × D)} : Rep K H v d → RepK K H kv kd → RepK K H ((k, v) :: kv) ((k, d) :: kd)
end

theorem same_seqT {K : PySem.W.Frag} {H H' : Hp} {a : Addr} {xs : List V} (e : Same H H') (h : SqT K H a xs) : SqT K H' a xs := by
  rcases h with (h | ⟨o, h⟩) | h
  · exact .inl (.inl (e _ _ h))
  · exact .inl (.inr ⟨o, e _ _ h⟩)
  · exact .inr h

theorem rd_same {H H' : Hp} {a : Addr} {u : HO} (s : Same H H') (h : Rd H a u) : Rd H' a u := h.elim (fun h => .inl (s _ _ h)) fun ⟨o, h⟩ => .inr ⟨o, s _ _ h⟩
section
variable {K : PySem.W.Frag} {H H' : Hp}
mutual
theorem Rep.mono (s : Same H H') : ∀ {v : V} {d : D}, Rep K H v d → Rep K H' v d
  | _, _, .non => .non
  | _, _, .bl b => .bl b
  | _, _, .int i => .int i
  | _, _, .str x => .str x
  | _, _, .lst h r => .lst (s _ _ h) (RepA.mono s r)
  | _, _, .tup h r => .tup (same_seqT s h) (RepA.mono s r)
  | _, _, .fls h r => .fls (s.seq h) (RepA.mono s r)
  | _, _, .dic h r => .dic (rd_same s h) (RepK.mono s r)
theorem RepA.mono (s : Same H H') : ∀ {vs : List V} {ds : List D}, RepA K H vs ds → RepA K H' vs ds
  | _, _, .nil => .nil
  | _, _, .cons h r => .cons (Rep.mono s h) (RepA.mono s r)
theorem RepK.mono (s : Same H H') : ∀ {vs : List (Key × V)} {ds : List (Key × D)}, RepK K H vs ds → RepK K H' vs ds
  | _, _, .nil => .nil
  | _, _, .cons h r => .cons (Rep.mono s h) (RepK.mono s r)
end
theorem RepA.length : ∀ {vs : List V} {ds : List D}, RepA K H vs ds → vs.length = ds.length
  | _, _, .nil => rfl
  | _, _, .cons _ r => congrArg (· + 1) (RepA.length r)
theorem RepA.get : ∀ {vs : List V} {ds : List D} {i : Nat} {d : D}, RepA K H vs ds → ds[i]? = some d → ∃ v, vs[i]? = some v ∧ Rep K H v d
  | _, _, _, _, .nil, e => by simp at e
  | _, _, 0, _, .cons h _, e => by
    simp only [List.getElem?_cons_zero, Option.some.injEq] at e
    subst e
    exact ⟨_, rfl, h⟩
  | _, _, i + 1, _, .cons _ r, e => by
    simp only [List.getElem?_cons_succ] at e ⊢
    exact RepA.get r e
theorem RepA.append : ∀ {vs ws : List V} {ds es : List D}, RepA K H vs ds → RepA K H ws es → RepA K H (vs ++ ws) (ds ++ es)
  | _, _, _, _, .nil, q => q
  | _, _, _, _, .cons h r, q => .cons h (RepA.append r q)
theorem RepA.one {v : V} {d : D} (h : Rep K H v d) : RepA K H [v] [d] := .cons h .nil
theorem RepA.take : ∀ {vs : List V} {ds : List D} (n : Nat), RepA K H vs ds → RepA K H (vs.take n) (ds.take n)
  | _, _, 0, _ => .nil
  | _, _, _ + 1, .nil => .nil
  | _, _, n + 1, .cons h r => .cons h (RepA.take n r)
theorem RepA.drop : ∀ {vs : List V} {ds : List D} (n : Nat), RepA K H vs ds → RepA K H (vs.drop n) (ds.drop n)
  | _, _, 0, r => r
  | _, _, _ + 1, .nil => .nil
  | _, _, n + 1, .cons _ r => RepA.drop n r
theorem RepA.set {v : V} {d : D} (h : Rep K H v d) : ∀ {vs : List V} {ds : List D} (i : Nat), RepA K H vs ds → RepA K H (vs.set i v) (ds.set i d)
  | _, _, _, .nil => .nil
  | _, _, 0, .cons _ r => .cons h r
  | _, _, i + 1, .cons q r => .cons q (RepA.set h i r)
theorem RepA.rep {vs : List V} {ds : List D} (r : RepA K H vs ds) : ∀ k : Nat, RepA K H (List.replicate k vs).flatten (List.replicate k ds).flatten
  | 0 => .nil
  | k + 1 => by
    rw [List.replicate_succ, List.replicate_succ, List.flatten_cons, List.flatten_cons]
    exact r.append (RepA.rep r k)
theorem RepA.reverse : ∀ {vs : List V} {ds : List D}, RepA K H vs ds → RepA K H vs.reverse ds.reverse
  | _, _, .nil => .nil
  | _, _, .cons h r => by
    rw [List.reverse_cons, List.reverse_cons]
    exact (RepA.reverse r).append (.one h)
theorem RepA.ints : ∀ {ns : List Int} {vs : List V}, RepA K H vs (ns.map D.int) → vs = ns.map V.int
  | [], _, .nil => rfl
  | n :: ns, _, r => by
    cases r with
    | cons h r =>
      cases h
      rw [RepA.ints r]
      rfl
theorem RepA.of_ints : ∀ (ns : List Int), RepA K H (ns.map V.int) (ns.map D.int)
  | [] => .nil
  | n :: ns => .cons (.int n) (RepA.of_ints ns)
theorem RepA.strs : ∀ {ns : List Str} {vs : List V}, RepA K H vs (ns.map D.str) → vs = ns.map V.str
  | [], _, .nil => rfl
  | n :: ns, _, r => by
    cases r with
    | cons h r =>
      cases h
      rw [RepA.strs r]
      rfl
theorem RepA.of_strs : ∀ (ns : List Str), RepA K H (ns.map V.str) (ns.map D.str)
  | [] => .nil
  | n :: ns => .cons (.str n) (RepA.of_strs ns)
theorem RepA.bls : ∀ {ns : List Bool} {vs : List V}, RepA K H vs (ns.map D.bl) → vs = ns.map V.bl
  | [], _, .nil => rfl
  | n :: ns, _, r => by
    cases r with
    | cons h r =>
      cases h
      rw [RepA.bls r]
      rfl
mutual
theorem Rep.dp : ∀ {v : V} {d : D}, Rep K H v d → d.py.canLay0 = true → Dp K H v d.py
  | _, _, .non, _ => .non
  | _, _, .bl b, _ => .bl b
  | _, _, .int i, _ => .int i
  | _, _, .str x, _ => .str x
  | _, _, .lst h r, c => .lst (.inl (.inl h)) (RepA.dp r (by simpa only [D.py, PyData.canLay0] using c))
  | _, _, .tup h r, c => .tup h (RepA.dp r (by simpa only [D.py, PyData.canLay0] using c))
  | _, _, .fls h r, c => .lst h (RepA.dp r (by simpa only [D.py, PyData.canLay0] using c))
  | _, _, .dic h r, c => by simp only [D.py, PyData.canLay0] at c; cases c
theorem RepA.dp : ∀ {vs : List V} {ds : List D}, RepA K H vs ds → PyData.canLayAll0 (D.pys ds) = true → DpAll K H vs (D.pys ds)
  | _, _, .nil, _ => .nil
  | _, _, .cons h r, c => by
    simp only [D.pys, PyData.canLayAll0, Bool.and_eq_true] at c
    exact .cons (Rep.dp h c.1) (RepA.dp r c.2)
end
end

/-- the heap without the addresses A -/
def mask (A : List Addr) (H : Hp) : Hp := fun a => if a ∈ A then none else H a
theorem mask_some {A : List Addr} {H : Hp} {a : Addr} {o : HO} : mask A H a = some o ↔ a ∉ A ∧ H a = some o := by
  unfold mask
  split <;> simp_all
theorem mask_same {A : List Addr} {H H' : Hp} (s : Same H H') : Same (mask A H) (mask A H') := fun a o e => by
  rw [mask_some] at e ⊢
  exact ⟨e.1, s _ _ e.2⟩
theorem mask_le (A : List Addr) (H : Hp) : Same (mask A H) H := fun a o e => (mask_some.mp e).2
theorem mask_sub {A B : List Addr} (h : ∀ a ∈ B, a ∈ A) (H : Hp) : Same (mask A H) (mask B H) := fun a o e => by
  rw [mask_some] at e ⊢
  exact ⟨fun z => e.1 (h a z), e.2⟩
theorem mask_nil (H : Hp) : mask [] H = H := by
  funext a
  simp [mask]
theorem mask_upd {A : List Addr} {H : Hp} {p : Addr} {o : HO} (h : p ∈ A) : mask A (upd H p o) = mask A H := by
  funext a
  unfold mask
  split
  · rfl
  · rename_i hn
    rw [upd_ne (by rintro rfl; exact hn h)]
theorem mask_new {A : List Addr} {H H' : Hp} {p : Addr} (s : Same H H') (h : H p = none) : Same (mask A H) (mask (p :: A) H') := fun a o e => by
  rw [mask_some] at e ⊢
  refine ⟨fun z => ?_, s _ _ e.2⟩
  rcases List.mem_cons.mp z with rfl | z
  · rw [h] at e
    cases e.2
  · exact e.1 z
theorem same_upd {H : Hp} {p : Addr} {o : HO} (h : H p = none) : Same H (upd H p o) := fun b x e => by
  rw [upd_ne (ne_of_none e h)]
  exact e

/-- a slot: not set; a value; a list of the def's own that nobody else holds -/
inductive Cell where
  | u | f (d : D) | o (ds : List D)

abbrev Env' := List Cell

/-- the frame: L the addresses of the lists that are its own, A all addresses that values must not reach -/
structure ER (K : PySem.W.Frag) (L A : List Addr) (σ : L2.St) (H : Hp) (E : Env') : Prop where
  len : σ.length = E.length
  dom : ∀ a ∈ A, H a ≠ none
  sub : ∀ a ∈ L, a ∈ A
  val : ∀ (i : Nat) (d : D), E[i]? = some (.f d) → ∃ v, σ[i]? = some (some v) ∧ Rep K (mask A H) v d
  own : ∀ (i : Nat) (ds : List D), E[i]? = some (.o ds) → ∃ p vs, σ[i]? = some (some (.ref p)) ∧ p ∈ L ∧ H p = some (.lst vs) ∧ RepA K (mask A H) vs ds
  sep : ∀ (i j : Nat) (ds es : List D) (p : Addr), E[i]? = some (.o ds) → E[j]? = some (.o es) → σ[i]? = some (some (.ref p)) → σ[j]? = some (some (.ref p)) → i = j

section
variable {K : PySem.W.Frag} {L A : List Addr} {σ : L2.St} {H H' : Hp} {E : Env'}
theorem ER.mono (r : ER K L A σ H E) (s : Same H H') : ER K L A σ H' E where
  len := r.len
  dom := fun a ha z => r.dom a ha (s.free z)
  sub := r.sub
  val := fun i d e => by
    obtain ⟨v, h1, h2⟩ := r.val i d e
    exact ⟨v, h1, h2.mono (mask_same s)⟩
  own := fun i ds e => by
    obtain ⟨p, vs, h1, h2, h3, h4⟩ := r.own i ds e
    exact ⟨p, vs, h1, h2, s _ _ h3, h4.mono (mask_same s)⟩
  sep := r.sep
theorem ER.set (r : ER K L A σ H E) {i : Nat} {v : V} {d : D} (h : Rep K (mask A H) v d) : ER K L A (σ.set i (some v)) H (E.set i (.f d)) where
  len := by rw [List.length_set, List.length_set, r.len]
  dom := r.dom
  sub := r.sub
  val := fun j d' e => by
    by_cases hj : i = j
    · subst hj
      by_cases hi : i < E.length
      · rw [List.getElem?_set_self hi] at e
        cases e
        exact ⟨v, List.getElem?_set_self (by rw [r.len]; exact hi), h⟩
      · rw [List.getElem?_eq_none (by rw [List.length_set]; omega)] at e
        cases e
    · rw [List.getElem?_set_ne hj] at e ⊢
      exact r.val j d' e
  own := fun j ds e => by
    by_cases hj : i = j
    · subst hj
      by_cases hi : i < E.length
      · rw [List.getElem?_set_self hi] at e
        cases e
      · rw [List.getElem?_eq_none (by rw [List.length_set]; omega)] at e
        cases e
    · rw [List.getElem?_set_ne hj] at e ⊢
      exact r.own j ds e
  sep := fun j k ds es p e1 e2 => by
    have nj : ∀ {j : Nat} {ds : List D}, (E.set i (.f d))[j]? = some (.o ds) → i ≠ j := fun {j ds} e z => by
      subst z
      by_cases hi : i < E.length
      · rw [List.getElem?_set_self hi] at e
        cases e
      · rw [List.getElem?_eq_none (by rw [List.length_set]; omega)] at e
        cases e
    have hj := nj e1
    have hk := nj e2
    rw [List.getElem?_set_ne hj] at e1 ⊢
    rw [List.getElem?_set_ne hk] at e2 ⊢
    exact r.sep j k ds es p e1 e2
/-- a new list of one's own -/
theorem ER.setO (r : ER K L A σ H E) (s : Same H H') {i : Nat} {p : Addr} {vs : List V} {ds : List D} (hp : H p = none) (hp' : H' p = some (.lst vs)) (h : RepA K (mask (p :: A) H') vs ds) :
    ER K (p :: L) (p :: A) (σ.set i (some (.ref p))) H' (E.set i (.o ds)) where
  len := by rw [List.length_set, List.length_set, r.len]
  dom := fun a ha => by
    rcases List.mem_cons.mp ha with rfl | ha
    · rw [hp']
      simp
    · exact fun z => r.dom a ha (s.free z)
  sub := fun a ha => by
    rcases List.mem_cons.mp ha with rfl | ha
    · exact List.mem_cons_self
    · exact List.mem_cons_of_mem _ (r.sub a ha)
  val := fun j d' e => by
    by_cases hj : i = j
    · subst hj
      by_cases hi : i < E.length
      · rw [List.getElem?_set_self hi] at e
        cases e
      · rw [List.getElem?_eq_none (by rw [List.length_set]; omega)] at e
        cases e
    · rw [List.getElem?_set_ne hj] at e ⊢
      obtain ⟨v, h1, h2⟩ := r.val j d' e
      exact ⟨v, h1, h2.mono (mask_new s hp)⟩
  own := fun j ds' e => by
    by_cases hj : i = j
    · subst hj
      by_cases hi : i < E.length
      · rw [List.getElem?_set_self hi] at e
        cases e
        exact ⟨p, vs, List.getElem?_set_self (by rw [r.len]; exact hi), List.mem_cons_self, hp', h⟩
      · rw [List.getElem?_eq_none (by rw [List.length_set]; omega)] at e
        cases e
    · rw [List.getElem?_set_ne hj] at e ⊢
      obtain ⟨q, ws, h1, h2, h3, h4⟩ := r.own j ds' e
      exact ⟨q, ws, h1, List.mem_cons_of_mem _ h2, s _ _ h3, h4.mono (mask_new s hp)⟩
  sep := fun j k ds1 es q e1 e2 f1 f2 => by
    have old : ∀ {j : Nat} {ds1 : List D}, i ≠ j → (E.set i (.o ds))[j]? = some (.o ds1) → (σ.set i (some (.ref p)))[j]? = some (some (.ref q)) → q ≠ p := fun {j ds1} hj e f z => by
      rw [List.getElem?_set_ne hj] at e f
      obtain ⟨q', ws, h1, _, h3, _⟩ := r.own j ds1 e
      rw [f] at h1
      cases h1
      rw [z, hp] at h3
      cases h3
    have new : ∀ {j : Nat} {ds1 : List D}, i = j → (E.set i (.o ds))[j]? = some (.o ds1) → (σ.set i (some (.ref p)))[j]? = some (some (.ref q)) → q = p := fun {j ds1} hj e f => by
      subst hj
      by_cases hi : i < E.length
      · rw [List.getElem?_set_self (by rw [r.len]; exact hi)] at f
        cases f
        rfl
      · rw [List.getElem?_eq_none (by rw [List.length_set]; omega)] at e
        cases e
    by_cases hj : i = j
    · by_cases hk : i = k
      · omega
      · exact absurd (new hj e1 f1) (old hk e2 f2)
    · by_cases hk : i = k
      · exact absurd (new hk e2 f2) (old hj e1 f1)
      · rw [List.getElem?_set_ne hj] at e1 f1
        rw [List.getElem?_set_ne hk] at e2 f2
        exact r.sep j k ds1 es q e1 e2 f1 f2
/-- a list of one's own is changed -/
theorem ER.upd (r : ER K L A σ H E) {i : Nat} {p : Addr} {vs : List V} {ds ds' : List D} (he : E[i]? = some (.o ds)) (hs : σ[i]? = some (some (.ref p))) (hp : p ∈ L) (h : RepA K (mask A H) vs ds') :
    ER K L A σ (L2.upd H p (.lst vs)) (E.set i (.o ds')) := by
  have em : mask A (L2.upd H p (.lst vs)) = mask A H := mask_upd (r.sub p hp)
  have hi : i < E.length := (List.getElem?_eq_some_iff.mp he).1
  refine ⟨by rw [List.length_set]; exact r.len, fun a ha => ?_, r.sub, fun j d' e => ?_, fun j ds1 e => ?_, fun j k ds1 es q e1 e2 f1 f2 => ?_⟩
  · by_cases hap : a = p
    · subst hap
      rw [upd_same]
      simp
    · rw [upd_ne hap]
      exact r.dom a ha
  · by_cases hj : i = j
    · subst hj
      rw [List.getElem?_set_self hi] at e
      cases e
    · rw [List.getElem?_set_ne hj] at e
      rw [em]
      exact r.val j d' e
  · rw [em]
    by_cases hj : i = j
    · subst hj
      rw [List.getElem?_set_self hi] at e
      cases e
      exact ⟨p, vs, hs, hp, upd_same, h⟩
    · rw [List.getElem?_set_ne hj] at e
      obtain ⟨q, ws, h1, h2, h3, h4⟩ := r.own j ds1 e
      have hq : q ≠ p := by
        rintro rfl
        exact hj (r.sep i j ds ds1 q he e hs h1)
      exact ⟨q, ws, h1, h2, by rw [upd_ne hq]; exact h3, h4⟩
  · have old : ∀ {j : Nat} {ds1 : List D}, (E.set i (.o ds'))[j]? = some (.o ds1) → ∃ ds2, E[j]? = some (.o ds2) := fun {j ds1} e => by
      by_cases hj : i = j
      · subst hj
        exact ⟨_, he⟩
      · rw [List.getElem?_set_ne hj] at e
        exact ⟨_, e⟩
    obtain ⟨_, g1⟩ := old e1
    obtain ⟨_, g2⟩ := old e2
    exact r.sep j k _ _ q g1 g2 f1 f2
/-- a list of one's own becomes a value -/
theorem ER.freeze (r : ER K L A σ H E) {i : Nat} {ds : List D} (he : E[i]? = some (.o ds)) :
    ∃ p, p ∈ L ∧ ER K (L.filter (· ≠ p)) (A.filter (· ≠ p)) σ H (E.set i (.f (.lst ds))) := by
  obtain ⟨p, vs, hs, hp, hH, hr⟩ := r.own i ds he
  have hi : i < E.length := (List.getElem?_eq_some_iff.mp he).1
  have mA : ∀ {a : Addr}, a ∈ A.filter (· ≠ p) ↔ a ∈ A ∧ a ≠ p := fun {a} => by simp [List.mem_filter]
  have mL : ∀ {a : Addr}, a ∈ L.filter (· ≠ p) ↔ a ∈ L ∧ a ≠ p := fun {a} => by simp [List.mem_filter]
  have hs' : Same (mask A H) (mask (A.filter (· ≠ p)) H) := mask_sub (fun a ha => (mA.mp ha).1) H
  refine ⟨p, hp, by rw [List.length_set]; exact r.len, fun a ha => r.dom a (mA.mp ha).1, fun a ha => mA.mpr ⟨r.sub a (mL.mp ha).1, (mL.mp ha).2⟩, fun j d' e => ?_, fun j ds1 e => ?_, fun j k ds1 es q e1 e2 f1 f2 => ?_⟩
  · by_cases hj : i = j
    · subst hj
      rw [List.getElem?_set_self hi] at e
      cases e
      refine ⟨_, hs, .lst (mask_some.mpr ⟨fun z => (mA.mp z).2 rfl, hH⟩) (hr.mono hs')⟩
    · rw [List.getElem?_set_ne hj] at e
      obtain ⟨v, h1, h2⟩ := r.val j d' e
      exact ⟨v, h1, h2.mono hs'⟩
  · by_cases hj : i = j
    · subst hj
      rw [List.getElem?_set_self hi] at e
      cases e
    · rw [List.getElem?_set_ne hj] at e
      obtain ⟨q, ws, h1, h2, h3, h4⟩ := r.own j ds1 e
      refine ⟨q, ws, h1, mL.mpr ⟨h2, ?_⟩, h3, h4.mono hs'⟩
      rintro rfl
      exact hj (r.sep i j ds ds1 q he e hs h1)
  · have old : ∀ {j : Nat} {ds1 : List D}, (E.set i (.f (.lst ds)))[j]? = some (.o ds1) → E[j]? = some (.o ds1) := fun {j ds1} e => by
      by_cases hj : i = j
      · subst hj
        rw [List.getElem?_set_self hi] at e
        cases e
      · rw [List.getElem?_set_ne hj] at e
        exact e
    exact r.sep j k _ _ q (old e1) (old e2) f1 f2
/-- slots forgotten -/
def wipeE (E : Env') : List Nat → Env'
  | [] => E
  | v :: vs => (wipeE E vs).set v .u
theorem ER.wipe (r : ER K L A σ H E) : ∀ vs : List Nat, ER K L A (L2.wipe σ vs) H (wipeE E vs)
  | [] => r
  | v :: vs => by
    have q := ER.wipe r vs
    unfold L2.wipe wipeE
    have other : ∀ {j : Nat} {c : Cell}, c ≠ .u → ((wipeE E vs).set v .u)[j]? = some c → v ≠ j ∧ (wipeE E vs)[j]? = some c := fun {j c} hc e => by
      by_cases hj : v = j
      · subst hj
        by_cases hi : v < (wipeE E vs).length
        · rw [List.getElem?_set_self hi] at e
          exact absurd (Option.some.inj e).symm hc
        · rw [List.getElem?_eq_none (by rw [List.length_set]; omega)] at e
          cases e
      · rw [List.getElem?_set_ne hj] at e
        exact ⟨hj, e⟩
    refine ⟨by rw [List.length_set, List.length_set]; exact q.len, q.dom, q.sub, fun j d e => ?_, fun j ds e => ?_, fun j k ds es p e1 e2 f1 f2 => ?_⟩
    · obtain ⟨hj, e⟩ := other (by simp) e
      rw [List.getElem?_set_ne hj]
      exact q.val j d e
    · obtain ⟨hj, e⟩ := other (by simp) e
      rw [List.getElem?_set_ne hj]
      exact q.own j ds e
    · obtain ⟨hj, e1⟩ := other (by simp) e1
      obtain ⟨hk, e2⟩ := other (by simp) e2
      rw [List.getElem?_set_ne hj] at f1
      rw [List.getElem?_set_ne hk] at f2
      exact q.sep j k ds es p e1 e2 f1 f2
/-- another address is masked that no value reaches: a new one -/
theorem ER.more (r : ER K L A σ H E) (s : Same H H') {p : Addr} (hp : H p = none) (hp' : H' p ≠ none) : ER K L (p :: A) σ H' E where
  len := r.len
  dom := fun a ha => by
    rcases List.mem_cons.mp ha with rfl | ha
    · exact hp'
    · exact fun z => r.dom a ha (s.free z)
  sub := fun a ha => List.mem_cons_of_mem _ (r.sub a ha)
  val := fun i d e => by
    obtain ⟨v, h1, h2⟩ := r.val i d e
    exact ⟨v, h1, h2.mono (mask_new s hp)⟩
  own := fun i ds e => by
    obtain ⟨p, vs, h1, h2, h3, h4⟩ := r.own i ds e
    exact ⟨p, vs, h1, h2, s _ _ h3, h4.mono (mask_new s hp)⟩
  sep := r.sep
end
end Vp

end

section
set_option Elab.async false
set_option linter.all false
set_option autoImplicit false
set_option maxRecDepth 100000
/-! Vp2: readings by data, operators. -/
namespace Vp
open PySem PySem.Spec PyProof.Rows L2

abbrev lineN : Nat := 16777216
theorem le_line {n : Nat} (h : n ≤ lineN) : n ≤ sizeLine := by rw [sizeLine_eq]; exact h

/-- what follows a value d that lies apart from A -/
def Post (K : PySem.W.Frag) (A : List Addr) (H : Hp) (d : D) (Q : VK) : Prop := ∀ v H', Same H H' → Rep K (mask A H') v d → Q v H'
/-- .. a new list, its items apart from A and from itself -/
def PostO (K : PySem.W.Frag) (A : List Addr) (H : Hp) (ds : List D) (Q : VK) : Prop := ∀ p vs H', Same H H' → H p = none → H' p = some (.lst vs) → RepA K (mask (p :: A) H') vs ds → Q (.ref p) H'
def Dom (A : List Addr) (H : Hp) : Prop := ∀ a ∈ A, H a ≠ none
theorem Dom.mono {A : List Addr} {H H' : Hp} (h : Dom A H) (s : Same H H') : Dom A H' := fun a ha z => h a ha (s.free z)
theorem Dom.new {A : List Addr} {H : Hp} {p : Addr} (h : Dom A H) (hp : H p = none) : p ∉ A := fun z => h p z hp

def rdE (K : PySem.W.Frag) (f : Env' → Option D) : TE := fun σ H Q => ∃ L A E d, ER K L A σ H E ∧ f E = some d ∧ Post K A H d Q
def rdO (K : PySem.W.Frag) (f : Env' → Option (List D)) : TE := fun σ H Q => ∃ L A E ds, ER K L A σ H E ∧ f E = some ds ∧ PostO K A H ds Q
def rdT (K : PySem.W.Frag) (f : Env' → Option Bool) : TT := fun σ H Q => ∃ L A E b, ER K L A σ H E ∧ f E = some b ∧ ∀ H', Same H H' → Q b H'
def rdA (K : PySem.W.Frag) (f : Env' → Option (List D)) : TA := fun σ H Q => ∃ L A E ds, ER K L A σ H E ∧ f E = some ds ∧ ∀ vs H', Same H H' → RepA K (mask A H') vs ds → Q vs H'

section
variable {K : PySem.W.Frag} {A : List Addr} {H H' : Hp} {Q : VK} {d : D} {ds : List D}
theorem Post.mono (h : Post K A H d Q) (s : Same H H') : Post K A H' d Q := fun v H2 s2 r => h v H2 (s.trans s2) r
theorem PostO.mono (h : PostO K A H ds Q) (s : Same H H') : PostO K A H' ds Q := fun p vs H2 s2 e1 e2 r => h p vs H2 (s.trans s2) (s.free e1) e2 r
theorem Post.now (h : Post K A H d Q) {v : V} (r : Rep K (mask A H) v d) : Q v H := h v H (Same.refl H) r
/-- a new list is a value -/
theorem Post.ofO (h : Post K A H (.lst ds) Q) (hd : Dom A H) : PostO K A H ds Q := fun p vs H2 s e1 e2 r =>
  h _ H2 s (.lst (mask_some.mpr ⟨hd.new e1, e2⟩) (r.mono (mask_sub (fun a ha => List.mem_cons_of_mem _ ha) H2)))
theorem PostO.now (h : PostO K A H ds Q) {vs : List V} (r : RepA K (mask A H) vs ds) {p : Addr} (hp : H p = none) : Q (.ref p) (upd H p (.lst vs)) :=
  h p vs _ (same_upd hp) hp upd_same (r.mono (mask_new (same_upd hp) hp))
theorem Post.newT (h : Post K A H (.tup ds) Q) (hd : Dom A H) {vs : List V} (r : RepA K (mask A H) vs ds) {p : Addr} (hp : H p = none) : Q (.ref p) (upd H p (.tup vs)) :=
  h _ _ (same_upd hp) (.tup (.inl (.inl (mask_some.mpr ⟨hd.new hp, upd_same⟩))) (r.mono (mask_same (same_upd hp))))
theorem RepA.o (r : RepA K (mask A H) [] ds) : ds = [] := by
  cases r
  rfl
end

section
variable {X : Cx} {e a b c : Expr} {pos : Pos}
theorem pe_imp {t t' : TE} (h : PE X e t) (i : ∀ σ H Q, t' σ H Q → t σ H Q) : PE X e t' := ⟨fun pins s σ H Q I w => h.run pins s σ H Q I (i _ _ _ w)⟩
theorem pt_imp {t t' : TT} (h : PT X e t) (i : ∀ σ H Q, t' σ H Q → t σ H Q) : PT X e t' := ⟨fun pins s σ H Q I w => h.run pins s σ H Q I (i _ _ _ w)⟩
theorem pw_imp {t t' : TT} (h : PW X e t) (i : ∀ σ H Q, t' σ H Q → t σ H Q) : PW X e t' := ⟨fun wh pins s σ H Q I w => h.run wh pins s σ H Q I (i _ _ _ w)⟩
theorem pa_imp {es : List Expr} {t t' : TA} (h : PA X es t) (i : ∀ σ H Q, t' σ H Q → t σ H Q) : PA X es t' := ⟨fun ps pins s σ H Q I w => h.run ps pins s σ H Q I (i _ _ _ w)⟩
theorem ps_imp {st : Stmt} {t t' : TS} (h : PS X st t) (i : ∀ D σ H, t' D σ H → t D σ H) : PS X st t' := ⟨fun pins s σ H D I w => h.run pins s σ H D I (i _ _ _ w)⟩
theorem pss_imp {st : List Stmt} {t t' : TS} (h : PSs X st t) (i : ∀ D σ H, t' D σ H → t D σ H) : PSs X st t' := ⟨fun pins s σ H D I w => h.run pins s σ H D I (i _ _ _ w)⟩

/-- what a rule for two values is to give -/
def rD2 (K : PySem.W.Frag) (g : D → D → Option D) : R2 := fun x y H Q => ∃ A a b d, Dom A H ∧ Rep K (mask A H) x a ∧ Rep K (mask A H) y b ∧ g a b = some d ∧ Post K A H d Q
def rD2o (K : PySem.W.Frag) (g : D → D → Option (List D)) : R2 := fun x y H Q => ∃ A a b ds, Dom A H ∧ Rep K (mask A H) x a ∧ Rep K (mask A H) y b ∧ g a b = some ds ∧ PostO K A H ds Q
def rD1 (K : PySem.W.Frag) (g : D → Option D) : V → Hp → VK → Prop := fun x H Q => ∃ A a d, Dom A H ∧ Rep K (mask A H) x a ∧ g a = some d ∧ Post K A H d Q
def rDA (K : PySem.W.Frag) (g : List D → Option D) : List V → Hp → VK → Prop := fun vs H Q => ∃ A ds d, Dom A H ∧ RepA K (mask A H) vs ds ∧ g ds = some d ∧ Post K A H d Q
def rDAo (K : PySem.W.Frag) (g : List D → Option (List D)) : List V → Hp → VK → Prop := fun vs H Q => ∃ A ds d, Dom A H ∧ RepA K (mask A H) vs ds ∧ g ds = some d ∧ PostO K A H d Q
theorem OpR.imp {f : Value → Value → Sem Value} {r r' : R2} (h : OpR X f r) (i : ∀ x y H Q, r' x y H Q → r x y H Q) : OpR X f r' := fun pins s σ H x y v u Q I rx ry w => h pins s σ H x y v u Q I rx ry (i _ _ _ _ w)

def ap2 (g : D → D → Option D) (fa fb : Env' → Option D) (E : Env') : Option D := (fa E).bind fun x => (fb E).bind fun y => g x y
def ap2o (g : D → D → Option (List D)) (fa fb : Env' → Option D) (E : Env') : Option (List D) := (fa E).bind fun x => (fb E).bind fun y => g x y
def ap1 (g : D → Option D) (fa : Env' → Option D) (E : Env') : Option D := (fa E).bind g
theorem rd_op {g : D → D → Option D} {fa fb : Env' → Option D} : ∀ σ H Q, rdE X.K (ap2 g fa fb) σ H Q → tOp (rD2 X.K g) (rdE X.K fa) (rdE X.K fb) σ H Q := by
  rintro σ H Q ⟨L, A, E, d, er, h, k⟩
  obtain ⟨x, hx, h⟩ := Option.bind_eq_some_iff.mp h
  obtain ⟨y, hy, h⟩ := Option.bind_eq_some_iff.mp h
  refine ⟨L, A, E, x, er, hx, fun v H1 s1 r1 => ⟨L, A, E, y, er.mono s1, hy, fun w H2 s2 r2 => ?_⟩⟩
  exact ⟨A, x, y, d, ((er.mono s1).mono s2).dom, r1.mono (mask_same s2), r2, h, (k.mono s1).mono s2⟩
theorem rd_opo {g : D → D → Option (List D)} {fa fb : Env' → Option D} : ∀ σ H Q, rdO X.K (ap2o g fa fb) σ H Q → tOp (rD2o X.K g) (rdE X.K fa) (rdE X.K fb) σ H Q := by
  rintro σ H Q ⟨L, A, E, d, er, h, k⟩
  obtain ⟨x, hx, h⟩ := Option.bind_eq_some_iff.mp h
  obtain ⟨y, hy, h⟩ := Option.bind_eq_some_iff.mp h
  refine ⟨L, A, E, x, er, hx, fun v H1 s1 r1 => ⟨L, A, E, y, er.mono s1, hy, fun w H2 s2 r2 => ?_⟩⟩
  exact ⟨A, x, y, d, ((er.mono s1).mono s2).dom, r1.mono (mask_same s2), r2, h, (k.mono s1).mono s2⟩
theorem vp_op {op : Operator} {g : D → D → Option D} {fa fb : Env' → Option D} (ho : OpR X (binaryOp op) (rD2 X.K g)) (ha : PE X a (rdE X.K fa)) (hb : PE X b (rdE X.K fb)) : PE X (.BinOp a op b pos) (rdE X.K (ap2 g fa fb)) := pe_imp (pe_op ho ha hb) rd_op
theorem vp_opo {op : Operator} {g : D → D → Option (List D)} {fa fb : Env' → Option D} (ho : OpR X (binaryOp op) (rD2o X.K g)) (ha : PE X a (rdE X.K fa)) (hb : PE X b (rdE X.K fb)) : PE X (.BinOp a op b pos) (rdO X.K (ap2o g fa fb)) := pe_imp (pe_op ho ha hb) rd_opo
theorem vp_cmp {op : CmpOp} {g : D → D → Option D} {fa fb : Env' → Option D} (ho : OpR X (compareOp op) (rD2 X.K g)) (ha : PE X a (rdE X.K fa)) (hb : PE X b (rdE X.K fb)) (hm : behindInMarks op b = false) : PE X (.Compare a [op] [b] pos) (rdE X.K (ap2 g fa fb)) := pe_imp (pe_cmpR ho ha hb hm) rd_op
def toB : D → Option Bool
  | .bl b => some b
  | _ => none
theorem toB_eq {d : D} {b : Bool} (h : toB d = some b) : d = .bl b := by
  cases d <;> simp [toB] at h
  rw [h]
theorem vp_cmpT {op : CmpOp} {g : D → D → Option D} {fa fb : Env' → Option D} (ho : OpR X (compareOp op) (rD2 X.K g)) (ha : PE X a (rdE X.K fa)) (hb : PE X b (rdE X.K fb)) (hm : behindInMarks op b = false) :
    PT X (.Compare a [op] [b] pos) (rdT X.K fun E => (ap2 g fa fb E).bind toB) := by
  refine pt_imp (pt_cmpR ho ha hb hm) ?_
  rintro σ H Q ⟨L, A, E, d, er, h, k⟩
  obtain ⟨x, hx, h⟩ := Option.bind_eq_some_iff.mp h
  cases toB_eq h
  refine rd_op σ H _ ⟨L, A, E, .bl d, er, hx, fun v H1 s1 r1 => ?_⟩
  cases r1
  exact ⟨d, rfl, k H1 s1⟩
/-- a new list as a value -/
theorem vp_ofO {f : Env' → Option (List D)} (h : PE X e (rdO X.K f)) : PE X e (rdE X.K fun E => (f E).map .lst) := by
  refine pe_imp h ?_
  rintro σ H Q ⟨L, A, E, d, er, h, k⟩
  obtain ⟨ds, h1, h2⟩ := Option.map_eq_some_iff.mp h
  subst h2
  exact ⟨L, A, E, ds, er, h1, k.ofO er.dom⟩

/-! ### constants, names -/
theorem vp_const {v : V} {d : D} (h : PE X e (tC v)) (r : ∀ K H, Rep K H v d) : PE X e (rdE X.K fun _ => some d) := by
  refine pe_imp h ?_
  rintro σ H Q ⟨L, A, E, d', er, h, k⟩
  cases h
  exact k.now (r _ _)
def look (i : Nat) (E : Env') : Option D := match E[i]? with
  | some (.f d) => some d
  | _ => none
theorem vp_loc {i : Nat} {x : Str} (hN : X.N[i]? = some x) (hv : Vis X.env.scope x) (hd : (x == ("__debug__" : Str)) = false) (hcd : (x == ("__classdict__" : Str)) = false) : PE X (.Name x pos) (rdE X.K (look i)) := by
  refine pe_imp (pe_var hN hv hd hcd) ?_
  rintro σ H Q ⟨L, A, E, d, er, h, k⟩
  unfold look at h
  split at h
  · rename_i d' e
    cases h
    obtain ⟨v, h1, h2⟩ := er.val i d e
    exact ⟨v, h1, k.now h2⟩
  · cases h

/-! ### and, or, not, if -/
def andB (fa fb : Env' → Option Bool) (E : Env') : Option Bool := (fa E).bind fun c => if c = true then fb E else some false
def orB (fa fb : Env' → Option Bool) (E : Env') : Option Bool := (fa E).bind fun c => if c = true then some true else fb E
def notB (fa : Env' → Option Bool) (E : Env') : Option Bool := (fa E).map (!·)
variable {fa fb fc : Env' → Option D} {ta tb : Env' → Option Bool} {rest : List Expr}
theorem vw_and1 (ha : PT X a (rdT X.K ta)) : PW X (.BoolOp .And [a] pos) (rdT X.K ta) := pw_and1 ha
theorem vw_or1 (ha : PT X a (rdT X.K ta)) : PW X (.BoolOp .Or [a] pos) (rdT X.K ta) := pw_or1 ha
theorem vw_and (ha : PT X a (rdT X.K ta)) (hb : PW X (.BoolOp .And (b :: rest) pos) (rdT X.K tb)) : PW X (.BoolOp .And (a :: b :: rest) pos) (rdT X.K (andB ta tb)) := by
  refine pw_imp (pw_and ha hb) ?_
  rintro σ H Q ⟨L, A, E, d, er, h, k⟩
  obtain ⟨c, hc, h⟩ := Option.bind_eq_some_iff.mp h
  refine ⟨L, A, E, c, er, hc, fun H1 s1 => ?_⟩
  cases c with
  | true => exact ⟨L, A, E, d, er.mono s1, by simpa using h, fun H2 s2 => k H2 (s1.trans s2)⟩
  | false =>
    have h : false = d := by simpa using h
    subst h
    exact k H1 s1
theorem vw_or (ha : PT X a (rdT X.K ta)) (hb : PW X (.BoolOp .Or (b :: rest) pos) (rdT X.K tb)) : PW X (.BoolOp .Or (a :: b :: rest) pos) (rdT X.K (orB ta tb)) := by
  refine pw_imp (pw_or ha hb) ?_
  rintro σ H Q ⟨L, A, E, d, er, h, k⟩
  obtain ⟨c, hc, h⟩ := Option.bind_eq_some_iff.mp h
  refine ⟨L, A, E, c, er, hc, fun H1 s1 => ?_⟩
  cases c with
  | false => exact ⟨L, A, E, d, er.mono s1, by simpa using h, fun H2 s2 => k H2 (s1.trans s2)⟩
  | true =>
    have h : true = d := by simpa using h
    subst h
    exact k H1 s1
theorem vt_not (ha : PT X a (rdT X.K ta)) : PT X (.UnaryOp .Not a pos) (rdT X.K (notB ta)) := by
  refine pt_imp (pt_not ha) ?_
  rintro σ H Q ⟨L, A, E, d, er, h, k⟩
  obtain ⟨c, hc, h⟩ := Option.map_eq_some_iff.mp h
  subst h
  exact ⟨L, A, E, c, er, hc, k⟩
/-- as values: of truth values -/
def andV (fa fb : Env' → Option D) (E : Env') : Option D := ((fa E).bind toB).bind fun c => if c = true then fb E else some (.bl false)
def orV (fa fb : Env' → Option D) (E : Env') : Option D := ((fa E).bind toB).bind fun c => if c = true then some (.bl true) else fb E
def notV (fa : Env' → Option D) (E : Env') : Option D := ((fa E).bind toB).map fun c => .bl (!c)
theorem vp_one {op : BoolOp} (ha : PE X a (rdE X.K fa)) : PE X (.BoolOp op [a] pos) (rdE X.K fa) := pe_one ha
theorem vp_and (ha : PE X a (rdE X.K fa)) (hb : PE X (.BoolOp .And (b :: rest) pos) (rdE X.K fb)) : PE X (.BoolOp .And (a :: b :: rest) pos) (rdE X.K (andV fa fb)) := by
  refine pe_imp (pe_and ha hb) ?_
  rintro σ H Q ⟨L, A, E, d, er, h, k⟩
  obtain ⟨c, hc, h⟩ := Option.bind_eq_some_iff.mp h
  obtain ⟨x, hx, hc⟩ := Option.bind_eq_some_iff.mp hc
  cases toB_eq hc
  refine ⟨L, A, E, _, er, hx, fun v H1 s1 r1 => ?_⟩
  cases r1
  refine ⟨c, rfl, ?_⟩
  cases c with
  | true => exact ⟨L, A, E, d, er.mono s1, by simpa using h, k.mono s1⟩
  | false =>
    have h : D.bl false = d := by simpa using h
    subst h
    exact (k.mono s1).now (.bl false)
theorem vp_or (ha : PE X a (rdE X.K fa)) (hb : PE X (.BoolOp .Or (b :: rest) pos) (rdE X.K fb)) : PE X (.BoolOp .Or (a :: b :: rest) pos) (rdE X.K (orV fa fb)) := by
  refine pe_imp (pe_or ha hb) ?_
  rintro σ H Q ⟨L, A, E, d, er, h, k⟩
  obtain ⟨c, hc, h⟩ := Option.bind_eq_some_iff.mp h
  obtain ⟨x, hx, hc⟩ := Option.bind_eq_some_iff.mp hc
  cases toB_eq hc
  refine ⟨L, A, E, _, er, hx, fun v H1 s1 r1 => ?_⟩
  cases r1
  refine ⟨c, rfl, ?_⟩
  cases c with
  | false => exact ⟨L, A, E, d, er.mono s1, by simpa using h, k.mono s1⟩
  | true =>
    have h : D.bl true = d := by simpa using h
    subst h
    exact (k.mono s1).now (.bl true)
theorem vp_not (ha : PE X a (rdE X.K fa)) : PE X (.UnaryOp .Not a pos) (rdE X.K (notV fa)) := by
  refine pe_imp (pe_not ha) ?_
  rintro σ H Q ⟨L, A, E, d, er, h, k⟩
  obtain ⟨c, hc, h⟩ := Option.map_eq_some_iff.mp h
  obtain ⟨x, hx, hc⟩ := Option.bind_eq_some_iff.mp hc
  cases toB_eq hc
  subst h
  refine ⟨L, A, E, _, er, hx, fun v H1 s1 r1 => ?_⟩
  cases r1
  exact ⟨c, rfl, (k.mono s1).now (.bl _)⟩
def ifV (ta : Env' → Option Bool) (fa fb : Env' → Option D) (E : Env') : Option D := (ta E).bind fun c => if c = true then fa E else fb E
theorem vp_if (hc : PT X c (rdT X.K ta)) (ha : PE X a (rdE X.K fa)) (hb : PE X b (rdE X.K fb)) : PE X (.IfExp c a b pos) (rdE X.K (ifV ta fa fb)) := by
  refine pe_imp (pe_ifExp hc ha hb) ?_
  rintro σ H Q ⟨L, A, E, d, er, h, k⟩
  obtain ⟨c, hc, h⟩ := Option.bind_eq_some_iff.mp h
  refine ⟨L, A, E, c, er, hc, fun H1 s1 => ?_⟩
  cases c with
  | true => exact ⟨L, A, E, d, er.mono s1, by simpa using h, k.mono s1⟩
  | false => exact ⟨L, A, E, d, er.mono s1, by simpa using h, k.mono s1⟩

/-! ### truth -/
def truD : D → Option Bool
  | .non => some false
  | .bl b => some b
  | .int i => some (i != 0)
  | .str x => if x.length ≤ lineN then some ((x.length : Int) != 0) else none
  | .lst ds => some !ds.isEmpty
  | .tup ds => some !ds.isEmpty
  | .fls ds => some !ds.isEmpty
  | .dic _ => none
theorem RepA.empty {K : PySem.W.Frag} {H : Hp} {vs : List V} {ds : List D} (r : RepA K H vs ds) : ds.isEmpty = vs.isEmpty := by
  cases r <;> rfl
theorem RepK.empty {K : PySem.W.Frag} {H : Hp} {vs : List (Key × V)} {ds : List (Key × D)} (r : RepK K H vs ds) : ds.isEmpty = vs.isEmpty := by
  cases r <;> rfl
theorem tru_rep {K : PySem.W.Frag} {A : List Addr} {H : Hp} {x : V} {d : D} {b : Bool} (r : Rep K (mask A H) x d) (h : truD d = some b) : TruV K x H b := by
  cases r with
  | non => cases h; rfl
  | bl b => cases h; rfl
  | int i => cases h; rfl
  | str x =>
    simp only [truD] at h
    split at h
    · rename_i hx
      cases h
      exact ⟨le_line hx, rfl⟩
    · cases h
  | lst h1 r => cases h; exact .inl ⟨_, .inl (.inl (mask_some.mp h1).2), by rw [r.empty]⟩
  | tup h1 r => cases h; exact .inr (.inl ⟨_, same_seqT (mask_le _ _) h1, by rw [r.empty]⟩)
  | fls h1 r => cases h; exact .inl ⟨_, (mask_le _ _).seq h1, by rw [r.empty]⟩
  | dic h1 r => cases h
theorem vt_truth (ha : PE X a (rdE X.K fa)) (he : ∀ whole, isTrue a X.env whole = (do let v ← whole; standAt a.pos; holding [v] (truthy v))) : PT X a (rdT X.K fun E => (fa E).bind truD) := by
  refine pt_imp (pt_truth ha he) ?_
  rintro σ H Q ⟨L, A, E, d, er, h, k⟩
  obtain ⟨x, hx, h⟩ := Option.bind_eq_some_iff.mp h
  exact ⟨L, A, E, x, er, hx, fun v H1 s1 r1 => ⟨d, tru_rep r1 h, k H1 s1⟩⟩

/-! ### arguments, displays -/
theorem va_nil : PA X [] (rdA X.K fun _ => some []) := by
  refine pa_imp pa_nil ?_
  rintro σ H Q ⟨L, A, E, d, er, h, k⟩
  cases h
  exact k [] H (Same.refl H) .nil
def consA (fa : Env' → Option D) (fr : Env' → Option (List D)) (E : Env') : Option (List D) := (fa E).bind fun x => (fr E).map fun r => x :: r
theorem va_cons {es : List Expr} {fr : Env' → Option (List D)} (ha : PE X a (rdE X.K fa)) (hr : PA X es (rdA X.K fr)) (hs : starEach (a :: es) X.env = (false, eval a X.env) :: starEach es X.env) : PA X (a :: es) (rdA X.K (consA fa fr)) := by
  refine pa_imp (pa_cons ha hr hs) ?_
  rintro σ H Q ⟨L, A, E, d, er, h, k⟩
  obtain ⟨x, hx, h⟩ := Option.bind_eq_some_iff.mp h
  obtain ⟨xs, hxs, h⟩ := Option.map_eq_some_iff.mp h
  subst h
  refine ⟨L, A, E, x, er, hx, fun v H1 s1 r1 => ⟨L, A, E, xs, er.mono s1, hxs, fun vs H2 s2 r2 => ?_⟩⟩
  exact k _ H2 (s1.trans s2) (.cons (r1.mono (mask_same s2)) r2)
def short (ds : List D) : Option (List D) := if ds.length ≤ lineN then some ds else none
theorem vp_tup {es : List Expr} {k : Nat} {f : Env' → Option (List D)} (h : PA X es (rdA X.K f)) : PE X (.Tuple es k pos) (rdE X.K fun E => ((f E).bind short).map .tup) := by
  refine pe_imp (pe_tup h) ?_
  rintro σ H Q ⟨L, A, E, d, er, h, k⟩
  obtain ⟨ds, h1, h2⟩ := Option.map_eq_some_iff.mp h
  obtain ⟨ds', h0, h3⟩ := Option.bind_eq_some_iff.mp h1
  unfold short at h3
  split at h3
  · rename_i hl
    cases h3
    subst h2
    refine ⟨L, A, E, ds, er, h0, fun vs H1 s1 r1 => ⟨?_, fun p hp => (k.mono s1).newT (er.mono s1).dom r1 hp⟩⟩
    rw [r1.length]
    exact le_line hl
  · cases h3
theorem vp_lst {es : List Expr} {f : Env' → Option (List D)} (h : PA X es (rdA X.K f)) : PE X (.List es pos) (rdO X.K fun E => (f E).bind short) := by
  refine pe_imp (pe_lst h) ?_
  rintro σ H Q ⟨L, A, E, d, er, h, k⟩
  obtain ⟨ds', h, h3⟩ := Option.bind_eq_some_iff.mp h
  unfold short at h3
  split at h3
  · rename_i hl
    cases h3
    refine ⟨L, A, E, d, er, h, fun vs H1 s1 r1 => ⟨?_, fun p hp => (k.mono s1).now r1 hp⟩⟩
    rw [r1.length]
    exact le_line hl
  · cases h3
end

/-! ### operators -/
def mulOk (i j : Int) : Bool := decide (i.natAbs.log2 + j.natAbs.log2 < 1000000) || (decide (i.natAbs < 18446744073709551616) || decide (j.natAbs < 18446744073709551616))
theorem mulOk_ok {i j : Int} (h : mulOk i j = true) : IntMulOk i j := by
  unfold mulOk at h
  simp only [Bool.or_eq_true, decide_eq_true_eq] at h
  rcases h with h | h | h
  · exact CMulW.ok h
  · exact CMul.ok (.inl ⟨by omega, by omega⟩)
  · exact CMul.ok (.inr ⟨by omega, by omega⟩)
def divOk (j : Int) : Bool := decide (0 < j) && decide (j.natAbs.log2 < 9000)

def addD : D → D → Option D
  | .int i, .int j => some (.int (i + j))
  | .str x, .str y => if x.length + y.length ≤ lineN then some (.str (x ++ y)) else none
  | .tup (x :: xs), .tup ys => if (x :: xs).length + ys.length ≤ lineN then some (.tup (x :: xs ++ ys)) else none
  | .lst xs, .lst ys => if xs.length + ys.length ≤ lineN then some (.lst (xs ++ ys)) else none
  | _, _ => none
def addO : D → D → Option (List D)
  | .lst xs, .lst ys => if xs.length + ys.length ≤ lineN then some (xs ++ ys) else none
  | _, _ => none
def subD : D → D → Option D
  | .int i, .int j => some (.int (i - j))
  | _, _ => none
def strTimes (x : Str) (k : Nat) : Str := ⟨(List.replicate k x.cps.toList).flatten.toArray⟩
def mulD : D → D → Option D
  | .int i, .int j => if mulOk i j then some (.int (i * j)) else none
  | .str x, .int k => if k ≤ 1000000 ∧ -1000000 ≤ k ∧ x.length * k.toNat ≤ 1000000 then some (.str (strTimes x k.toNat)) else none
  | .lst xs, .int k => if -9223372036854775808 ≤ k ∧ k < 9223372036854775808 ∧ xs.length * k.toNat ≤ lineN then some (.lst (List.replicate k.toNat xs).flatten) else none
  | _, _ => none
def mulO : D → D → Option (List D)
  | .lst xs, .int k => if -9223372036854775808 ≤ k ∧ k < 9223372036854775808 ∧ xs.length * k.toNat ≤ lineN then some (List.replicate k.toNat xs).flatten else none
  | _, _ => none
def fdivD : D → D → Option D
  | .int i, .int j => if divOk j then some (.int (i / j)) else none
  | _, _ => none
def modD : D → D → Option D
  | .int i, .int j => if 0 < j then some (.int (i % j)) else none
  | _, _ => none
def powD : D → D → Option D
  | .int i, .int j => if 0 ≤ j ∧ j ≤ 1000000 ∧ i.natAbs < 18446744073709551616 then some (.int (i ^ j.toNat)) else none
  | _, _ => none
def xorD : D → D → Option D
  | .int i, .int j => some (.int (Builtin.bitXor i j))
  | _, _ => none
inductive BOp where
  | add | sub | mul | fdiv | mod | pow | xor
  deriving DecidableEq
def BOp.op : BOp → Operator
  | .add => .Add | .sub => .Sub | .mul => .Mult | .fdiv => .FloorDiv | .mod => .Mod | .pow => .Pow | .xor => .BitXor
def binD : BOp → D → D → Option D
  | .add => addD | .sub => subD | .mul => mulD | .fdiv => fdivD | .mod => modD | .pow => powD | .xor => xorD
def binO : BOp → D → D → Option (List D)
  | .add => addO | .mul => mulO | _ => fun _ _ => none

section
variable {X : Cx}
theorem op_mulD : OpR X (binaryOp .Mult) (rI (fun i j => mulOk i j = true) fun i j => .int (i * j)) := opI fun _ _ _ _ _ _ _ hc q => mul_int q (mulOk_ok hc)
theorem cps_foldl (x : Array Nat) : ∀ (n : Nat) (acc : Array Nat), ((List.replicate n x).foldl (· ++ ·) acc) = (acc.toList ++ (List.replicate n x.toList).flatten).toArray
  | 0, acc => by simp
  | n + 1, acc => by
    rw [List.replicate_succ, List.foldl_cons, cps_foldl x n, List.replicate_succ, List.flatten_cons]
    simp
theorem op_mulS : OpR X (binaryOp .Mult) (fun x y H Q => ∃ z k, x = .str z ∧ y = .int k ∧ (k ≤ 1000000 ∧ -1000000 ≤ k ∧ z.length * k.toNat ≤ 1000000) ∧ Q (.str (strTimes z k.toNat)) H) := by
  intro pins s σ H x y v u Q I rx ry h
  obtain ⟨z, k, rfl, rfl, ⟨h1, h2, h3⟩, q⟩ := h
  obtain ⟨t, rfl⟩ := rx
  obtain ⟨t', rfl⟩ := ry
  refine PySem.P.mul_str ?_ (fun a b => ?_) (fun a b => ?_) ?_
  · have e1 : ¬ k < -(9223372036854775808 : Int) := by omega
    have e2 : ¬ k ≥ (9223372036854775808 : Int) := by omega
    exact Bool.or_eq_false_iff.mpr ⟨decide_eq_false e1, decide_eq_false e2⟩
  · have h4 : ((z.length * k.toNat : Nat) : Int) ≤ 1000000 := Int.ofNat_le.mpr h3
    rw [Int.natCast_mul, show ((k.toNat : Nat) : Int) = k by omega] at h4
    have h5 : (z.length : Int) ≤ 1000000 := by
      have : (z.length : Int) * 1 ≤ (z.length : Int) * k := Int.mul_le_mul_of_nonneg_left (by omega) (by omega)
      omega
    have h6 : (9223372036854775807 : Int) / k ≥ 1000000 := by
      apply Int.le_ediv_of_mul_le (by omega)
      have : 1000000 * k ≤ 1000000 * 1000000 := Int.mul_le_mul_of_nonneg_left h1 (by omega)
      omega
    show ¬ ((z.length : Int) > (9223372036854775807 : Int) / k)
    omega
  · have e : Builtin.Str.tooLong (z.length * k.toNat) = decide (z.length * k.toNat > sizeLine) := rfl
    rw [e, sizeLine_eq]
    exact decide_eq_false (by omega)
  · split
    · rename_i hk
      have e : k.toNat = 0 := by omega
      rw [e] at q
      exact ⟨by decide, ⟨.str _, H, I.tok _, ⟨_, rfl⟩, q⟩⟩
    · rename_i hk
      split
      · rename_i h0
        have e : strTimes z k.toNat = z := by
          rw [Bool.or_eq_true] at h0
          unfold strTimes
          rcases h0 with h0 | h0
          · rw [show k.toNat = 1 by have := eq_of_beq h0; omega]
            simp
          · have h0 : z.cps.size = 0 := eq_of_beq h0
            have : z.cps = #[] := Array.eq_empty_of_size_eq_zero h0
            obtain ⟨c⟩ := z
            subst this
            simp
        rw [e] at q
        exact ⟨.str _, H, I, ⟨_, rfl⟩, q⟩
      · have e : (⟨(List.replicate k.toNat z.cps).foldl (· ++ ·) #[]⟩ : Str) = strTimes z k.toNat := by
          rw [cps_foldl]
          rfl
        rw [e]
        refine ⟨?_, ⟨.str _, H, I.tok _, ⟨_, rfl⟩, q⟩⟩
        have hl : (strTimes z k.toNat).length = k.toNat * z.length := by
          simp [strTimes, Str.length]
        rw [hl, Nat.mul_comm, sizeLine_eq]
        omega
theorem rd2_cases {f : Value → Value → Sem Value} {K : PySem.W.Frag} {g : D → D → Option D} {r : R2} (h : OpR X f r) (i : ∀ A x y H Q a b d, Dom A H → Rep K (mask A H) x a → Rep K (mask A H) y b → g a b = some d → Post K A H d Q → r x y H Q) : OpR X f (rD2 K g) :=
  OpR.imp h fun x y H Q ⟨A, a, b, d, h1, h2, h3, h4, h5⟩ => i A x y H Q a b d h1 h2 h3 h4 h5
theorem if_some {α : Type} {p : Prop} [Decidable p] {a b : α} (h : (if p then some a else none) = some b) : p ∧ a = b := by
  split at h
  · exact ⟨by assumption, Option.some.inj h⟩
  · cases h
theorem tup_ne {K : PySem.W.Frag} {H : Hp} {vs : List V} {ds : List D} (r : RepA K H vs ds) : vs = [] ↔ ds = [] := by
  cases r <;> simp
theorem bin_ok (o : BOp) : OpR X (binaryOp o.op) (rD2 X.K (binD o)) := by
  intro pins s σ H x y v u Q I rx ry h
  obtain ⟨A, a, b, d, hd, ra, rb, e, k⟩ := h
  cases o with
  | add =>
    cases ra with
    | int i =>
      cases rb <;> simp only [binD, addD] at e <;> cases e
      exact op_add pins s σ H _ _ v u Q I rx ry ⟨_, _, rfl, rfl, k.now (.int _)⟩
    | str z =>
      cases rb <;> simp only [binD, addD] at e <;> try (cases e; done)
      obtain ⟨h1, rfl⟩ := if_some e
      exact op_add_str pins s σ H _ _ v u Q I rx ry ⟨_, _, rfl, rfl, le_line h1, k.now (.str _)⟩
    | tup ha ra =>
      cases rb with
      | tup hb rb =>
        rename_i a' xs ds b' ys es
        have key : ds ≠ [] ∧ ds.length + es.length ≤ lineN ∧ D.tup (ds ++ es) = d := by
          cases ds with
          | nil => simp only [binD, addD] at e; cases e
          | cons z zs =>
            simp only [binD, addD] at e
            obtain ⟨h1, h2⟩ := if_some e
            exact ⟨by simp, h1, h2⟩
        obtain ⟨h0, h1, rfl⟩ := key
        have sa := same_seqT (mask_le _ _) ha
        have sb := same_seqT (mask_le _ _) hb
        refine op_catT pins s σ H _ _ v u Q I rx ry ⟨_, _, xs, ys, rfl, rfl, sa, sb, fun z => h0 ((tup_ne ra).mp z), ?_, fun z => ?_, fun z p hp => ?_⟩
        · rw [ra.length, rb.length]
          exact le_line h1
        · have e0 : es = [] := (tup_ne rb).mp z
          subst e0
          rw [List.append_nil] at k
          exact k.now (.tup ha ra)
        · exact k.newT hd (ra.append rb) hp
      | _ => (rename_i ds _ _; cases ds <;> simp only [binD, addD] at e <;> cases e)
    | lst ha ra =>
      cases rb <;> simp only [binD, addD] at e <;> try (cases e; done)
      rename_i hb rb
      obtain ⟨h1, rfl⟩ := if_some e
      refine op_cat pins s σ H _ _ v u Q I rx ry ⟨_, _, _, _, rfl, rfl, (mask_some.mp ha).2, (mask_some.mp hb).2, ?_, fun p hp => (k.ofO hd).now (ra.append rb) hp⟩
      rw [ra.length, rb.length]
      exact le_line h1
    | _ => cases rb <;> simp only [binD, addD] at e <;> cases e
  | sub =>
    cases ra <;> cases rb <;> simp only [binD, subD] at e <;> try (cases e; done)
    cases e
    exact op_sub pins s σ H _ _ v u Q I rx ry ⟨_, _, rfl, rfl, k.now (.int _)⟩
  | mul =>
    cases ra with
    | int i =>
      cases rb <;> simp only [binD, mulD] at e <;> try (cases e; done)
      obtain ⟨h1, rfl⟩ := if_some e
      exact op_mulD pins s σ H _ _ v u Q I rx ry ⟨_, _, rfl, rfl, h1, k.now (.int _)⟩
    | str z =>
      cases rb <;> simp only [binD, mulD] at e <;> try (cases e; done)
      obtain ⟨h1, rfl⟩ := if_some e
      exact op_mulS pins s σ H _ _ v u Q I rx ry ⟨_, _, rfl, rfl, h1, k.now (.str _)⟩
    | lst ha ra =>
      cases rb <;> simp only [binD, mulD] at e <;> try (cases e; done)
      obtain ⟨h1, rfl⟩ := if_some e
      refine op_rep pins s σ H _ _ v u Q I rx ry ⟨_, _, _, rfl, rfl, (mask_some.mp ha).2, by have := h1.1; omega, by have := h1.2.1; omega, ?_, fun p hp => (k.ofO hd).now (ra.rep _) hp⟩
      rw [ra.length]
      exact le_line h1.2.2
    | _ => cases rb <;> simp only [binD, mulD] at e <;> cases e
  | fdiv =>
    cases ra <;> cases rb <;> simp only [binD, fdivD] at e <;> try (cases e; done)
    obtain ⟨h1, rfl⟩ := if_some e
    simp only [divOk, Bool.and_eq_true, decide_eq_true_eq] at h1
    exact op_fdivW pins s σ H _ _ v u Q I rx ry ⟨_, _, rfl, rfl, h1, k.now (.int _)⟩
  | mod =>
    cases ra <;> cases rb <;> simp only [binD, modD] at e <;> try (cases e; done)
    obtain ⟨h1, rfl⟩ := if_some e
    exact op_mod pins s σ H _ _ v u Q I rx ry ⟨_, _, rfl, rfl, h1, k.now (.int _)⟩
  | pow =>
    cases ra <;> cases rb <;> simp only [binD, powD] at e <;> try (cases e; done)
    obtain ⟨h1, rfl⟩ := if_some e
    exact op_pow pins s σ H _ _ v u Q I rx ry ⟨_, _, rfl, rfl, ⟨h1.1, h1.2.1, by have := h1.2.2; omega⟩, k.now (.int _)⟩
  | xor =>
    cases ra <;> cases rb <;> simp only [binD, xorD] at e <;> try (cases e; done)
    cases e
    exact op_xor pins s σ H _ _ v u Q I rx ry ⟨_, _, rfl, rfl, k.now (.int _)⟩
theorem binO_ok (o : BOp) : OpR X (binaryOp o.op) (rD2o X.K (binO o)) := by
  intro pins s σ H x y v u Q I rx ry h
  obtain ⟨A, a, b, d, hd, ra, rb, e, k⟩ := h
  cases o with
  | add =>
    cases ra <;> cases rb <;> simp only [binO, addO] at e <;> try (cases e; done)
    rename_i ha ra _ _ _ hb rb
    obtain ⟨h1, rfl⟩ := if_some e
    refine op_cat pins s σ H _ _ v u Q I rx ry ⟨_, _, _, _, rfl, rfl, (mask_some.mp ha).2, (mask_some.mp hb).2, ?_, fun p hp => k.now (ra.append rb) hp⟩
    rw [ra.length, rb.length]
    exact le_line h1
  | mul =>
    cases ra <;> cases rb <;> simp only [binO, mulO] at e <;> try (cases e; done)
    rename_i ha ra _
    obtain ⟨h1, rfl⟩ := if_some e
    refine op_rep pins s σ H _ _ v u Q I rx ry ⟨_, _, _, rfl, rfl, (mask_some.mp ha).2, by have := h1.1; omega, by have := h1.2.1; omega, ?_, fun p hp => k.now (ra.rep _) hp⟩
    rw [ra.length]
    exact le_line h1.2.2
  | _ => simp only [binO] at e; cases e

/-! ### comparisons -/
def eqD (a b : D) : Option Bool := match a, b with
  | .int i, .int j => some (decide (i = j))
  | .str x, .str y => some (decide (x = y))
  | _, _ => if SeqAt.shaped a.py = true ∧ SeqAt.shaped b.py = true then some (PyData.eqv a.py b.py) else none
def ordD (p : Int → Int → Bool) : D → D → Option Bool
  | .int i, .int j => some (p i j)
  | _, _ => none
def isD (a b : D) : Option Bool := match b with
  | .non => some (match a with
    | .non => true
    | _ => false)
  | .bl y => (match a with
    | .bl x => some (decide (x = y))
    | _ => none)
  | _ => none
def flatD : D → Bool
  | .non => true | .bl _ => true | .int _ => true | .str _ => true
  | _ => false
def eqF : D → D → Bool
  | .non, .non => true
  | .bl a, .bl b => a == b
  | .bl a, .int b => (if a then 1 else 0) == b
  | .int a, .bl b => a == (if b then 1 else 0)
  | .int a, .int b => a == b
  | .str a, .str b => a == b
  | _, _ => false
/-- x in a list, a tuple, a text -/
def inD (a b : D) : Option Bool := match b with
  | .lst ds => if flatD a = true ∧ ds.all flatD = true then some (ds.any fun y => eqF y a)
      else if SeqAt.shaped a.py = true ∧ SeqAt.shaped (PyData.list (D.pys ds)) = true then some ((D.pys ds).any fun z => PyData.eqv z a.py) else none
  | .tup ds => if flatD a = true ∧ ds.all flatD = true then some (ds.any fun y => eqF y a) else none
  | .str z => (match a with
    | .str x => (match x.cps.toList with
      | [c] => some (decide (c ∈ z.cps.toList))
      | _ => none)
    | _ => none)
  | _ => none
def cmpD : CmpOp → D → D → Option Bool
  | .Eq, a, b => eqD a b
  | .NotEq, a, b => (eqD a b).map (!·)
  | .Lt, a, b => ordD (fun i j => decide (i < j)) a b
  | .LtE, a, b => ordD (fun i j => decide (i ≤ j)) a b
  | .Gt, a, b => ordD (fun i j => decide (j < i)) a b
  | .GtE, a, b => ordD (fun i j => decide (j ≤ i)) a b
  | .Is, a, b => isD a b
  | .IsNot, a, b => (isD a b).map (!·)
  | .In, a, b => inD a b
  | .NotIn, a, b => (inD a b).map (!·)
theorem Rep.flat {K : PySem.W.Frag} {H : Hp} {v : V} {d : D} (r : Rep K H v d) (h : flatD d = true) : flatV v = true := by
  cases r <;> first | rfl | cases h
theorem RepA.flat {K : PySem.W.Frag} {H : Hp} : ∀ {vs : List V} {ds : List D}, RepA K H vs ds → ds.all flatD = true → vs.all flatV = true
  | _, _, .nil, _ => rfl
  | _, _, .cons h r, e => by
    rw [List.all_cons, Bool.and_eq_true] at e ⊢
    exact ⟨h.flat e.1, r.flat e.2⟩
theorem Rep.eqF {K : PySem.W.Frag} {H : Hp} {v w : V} {d e : D} (r : Rep K H v d) (q : Rep K H w e) (h : flatD d = true) (h' : flatD e = true) : eqV v w = Vp.eqF d e := by
  cases r <;> first | (cases h; done) | (cases q <;> first | rfl | (cases h'; done))
theorem RepA.anyF {K : PySem.W.Frag} {H : Hp} {w : V} {e : D} (q : Rep K H w e) (h' : flatD e = true) : ∀ {vs : List V} {ds : List D}, RepA K H vs ds → ds.all flatD = true → (ds.any fun y => Vp.eqF y e) = inV w vs
  | _, _, .nil, _ => rfl
  | _, _, .cons h r, e => by
    rw [List.all_cons, Bool.and_eq_true] at e
    unfold inV
    rw [List.any_cons, List.any_cons, h.eqF q e.1 h', r.anyF q h' e.2]
    rfl
def blD (b : Option Bool) : Option D := b.map .bl
theorem blD_some {b : Option Bool} {d : D} (h : blD b = some d) : ∃ c, b = some c ∧ d = .bl c := by
  obtain ⟨c, h1, h2⟩ := Option.map_eq_some_iff.mp h
  exact ⟨c, h1, h2.symm⟩
theorem int_pair {K : PySem.W.Frag} {H : Hp} {x y : V} {a b : D} {p : Int → Int → Bool} {c : Bool} (ra : Rep K H x a) (rb : Rep K H y b) (e : ordD p a b = some c) : ∃ i j, x = .int i ∧ y = .int j ∧ p i j = c := by
  cases ra <;> cases rb <;> simp only [ordD] at e <;> try (cases e; done)
  exact ⟨_, _, rfl, rfl, Option.some.inj e⟩
theorem eqD_ok {K : PySem.W.Frag} {H H' : Hp} {x y : V} {a b : D} {c : Bool} (s : Same H' H) (ra : Rep K H' x a) (rb : Rep K H' y b) (e : eqD a b = some c) :
    (∃ i j, x = .int i ∧ y = .int j ∧ decide (i = j) = c) ∨ (∃ i j, x = .str i ∧ y = .str j ∧ decide (i = j) = c) ∨
      (Dp K H x a.py ∧ Dp K H y b.py ∧ SeqAt.shaped a.py = true ∧ SeqAt.shaped b.py = true ∧ PyData.eqv a.py b.py = c) := by
  have gen : (if SeqAt.shaped a.py = true ∧ SeqAt.shaped b.py = true then some (PyData.eqv a.py b.py) else none) = some c →
      Dp K H x a.py ∧ Dp K H y b.py ∧ SeqAt.shaped a.py = true ∧ SeqAt.shaped b.py = true ∧ PyData.eqv a.py b.py = c := fun h => by
    obtain ⟨⟨h1, h2⟩, h3⟩ := if_some h
    exact ⟨(ra.mono s).dp (SeqAt.canLay_of_shaped h1), (rb.mono s).dp (SeqAt.canLay_of_shaped h2), h1, h2, h3⟩
  cases ra with
  | int i =>
    cases rb with
    | int j => exact .inl ⟨i, j, rfl, rfl, Option.some.inj e⟩
    | _ => exact .inr (.inr (gen e))
  | str i =>
    cases rb with
    | str j => exact .inr (.inl ⟨i, j, rfl, rfl, Option.some.inj e⟩)
    | _ => exact .inr (.inr (gen e))
  | _ => exact .inr (.inr (gen e))
theorem cmp_ok (hu : X.A.units + 65 < cLine) (o : CmpOp) : OpR X (compareOp o) (rD2 X.K fun a b => blD (cmpD o a b)) := by
  intro pins s σ H x y v u Q I rx ry h
  obtain ⟨A, a, b, d, hd, ra, rb, e, k⟩ := h
  obtain ⟨c, e1, rfl⟩ := blD_some e
  clear e
  have e := e1
  clear e1
  have q : ∀ {c' : Bool}, c' = c → Q (.bl c') H := fun {c'} z => by
    subst z
    exact k.now (.bl _)
  cases o with
  | Lt =>
    obtain ⟨i, j, rfl, rfl, z⟩ := int_pair ra rb e
    exact op_lt pins s σ H _ _ v u Q I rx ry ⟨_, _, rfl, rfl, q z⟩
  | LtE =>
    obtain ⟨i, j, rfl, rfl, z⟩ := int_pair ra rb e
    exact op_le pins s σ H _ _ v u Q I rx ry ⟨_, _, rfl, rfl, q z⟩
  | Gt =>
    obtain ⟨i, j, rfl, rfl, z⟩ := int_pair ra rb e
    exact op_gt pins s σ H _ _ v u Q I rx ry ⟨_, _, rfl, rfl, q z⟩
  | GtE =>
    obtain ⟨i, j, rfl, rfl, z⟩ := int_pair ra rb e
    exact op_ge pins s σ H _ _ v u Q I rx ry ⟨_, _, rfl, rfl, q z⟩
  | Eq =>
    rcases eqD_ok (mask_le A H) ra rb e with ⟨i, j, rfl, rfl, z⟩ | ⟨i, j, rfl, rfl, z⟩ | ⟨h1, h2, h3, h4, z⟩
    · exact op_eq pins s σ H _ _ v u Q I rx ry ⟨rfl, q (by rw [← z]; simp)⟩
    · exact op_eq pins s σ H _ _ v u Q I rx ry ⟨rfl, q (by rw [← z]; simp)⟩
    · exact op_eqD (by omega) pins s σ H _ _ v u Q I rx ry ⟨_, _, h1, h2, h3, h4, q z⟩
  | NotEq =>
    obtain ⟨c', e', rfl⟩ := Option.map_eq_some_iff.mp e
    rcases eqD_ok (mask_le A H) ra rb e' with ⟨i, j, rfl, rfl, z⟩ | ⟨i, j, rfl, rfl, z⟩ | ⟨h1, h2, h3, h4, z⟩
    · exact op_ne pins s σ H _ _ v u Q I rx ry ⟨rfl, q (by rw [← z]; simp)⟩
    · exact op_ne pins s σ H _ _ v u Q I rx ry ⟨rfl, q (by rw [← z]; simp)⟩
    · exact op_neD (by omega) pins s σ H _ _ v u Q I rx ry ⟨_, _, h1, h2, h3, h4, q (by rw [z])⟩
  | Is =>
    cases rb <;> simp only [cmpD, isD] at e <;> try (cases e; done)
    · refine op_isN pins s σ H _ _ v u Q I rx ry ⟨rfl, q ?_⟩
      cases ra <;> (rw [← Option.some.inj e]; simp)
    · cases ra <;> try (cases e; done)
      exact op_isBl pins s σ H _ _ v u Q I rx ry ⟨_, _, rfl, rfl, q (Option.some.inj e)⟩
  | IsNot =>
    obtain ⟨c', e', rfl⟩ := Option.map_eq_some_iff.mp e
    cases rb <;> simp only [isD] at e' <;> try (cases e'; done)
    · refine op_notN pins s σ H _ _ v u Q I rx ry ⟨rfl, q ?_⟩
      cases ra <;> (rw [← Option.some.inj e']; simp)
    · cases ra <;> try (cases e'; done)
      exact op_notBl pins s σ H _ _ v u Q I rx ry ⟨_, _, rfl, rfl, q (by rw [Option.some.inj e'])⟩
  | In =>
    have rbm := rb.mono (mask_le A H)
    have ram := ra.mono (mask_le A H)
    cases rb with
    | lst hb rb =>
      simp only [cmpD, inD] at e
      split at e
      · rename_i h1
        exact op_in_seq pins s σ H _ _ v u Q I rx ry ⟨_, _, rfl, .inl (.inl (.inl (mask_some.mp hb).2)), ra.flat h1.1, rb.flat h1.2, q (by rw [← Option.some.inj e, rb.anyF ra h1.1 h1.2]; rfl)⟩
      · obtain ⟨⟨h1, h2⟩, h3⟩ := if_some e
        exact op_inD hu pins s σ H _ _ v u Q I rx ry ⟨_, _, ram.dp (SeqAt.canLay_of_shaped h1), rbm.dp (SeqAt.canLay_of_shaped h2), h1, h2, q h3⟩
    | tup hb rb =>
      simp only [cmpD, inD] at e
      obtain ⟨h1, h3⟩ := if_some e
      exact op_in_seq pins s σ H _ _ v u Q I rx ry ⟨_, _, rfl, .inr (same_seqT (mask_le A H) hb), ra.flat h1.1, rb.flat h1.2, q (by rw [← h3, rb.anyF ra h1.1 h1.2]; rfl)⟩
    | str z =>
      cases ra <;> simp only [cmpD, inD] at e <;> try (cases e; done)
      rename_i w
      split at e
      · rename_i c1 hc
        have ew : w = ⟨#[c1]⟩ := by
          obtain ⟨arr⟩ := w
          have : arr = [c1].toArray := by
            rw [← hc]
          rw [this]
        subst ew
        exact op_in_sign pins s σ H _ _ v u Q I rx ry ⟨_, _, rfl, rfl, q (Option.some.inj e)⟩
      · cases e
    | _ => simp only [cmpD, inD] at e; cases e
  | NotIn =>
    obtain ⟨c', e', rfl⟩ := Option.map_eq_some_iff.mp e
    have rbm := rb.mono (mask_le A H)
    have ram := ra.mono (mask_le A H)
    cases rb with
    | lst hb rb =>
      simp only [inD] at e'
      split at e'
      · rename_i h1
        exact op_notIn_seq pins s σ H _ _ v u Q I rx ry ⟨_, _, rfl, .inl (.inl (.inl (mask_some.mp hb).2)), ra.flat h1.1, rb.flat h1.2, q (by rw [← Option.some.inj e', rb.anyF ra h1.1 h1.2]; rfl)⟩
      · obtain ⟨⟨h1, h2⟩, h3⟩ := if_some e'
        exact op_notInD hu pins s σ H _ _ v u Q I rx ry ⟨_, _, ram.dp (SeqAt.canLay_of_shaped h1), rbm.dp (SeqAt.canLay_of_shaped h2), h1, h2, q (by rw [h3])⟩
    | tup hb rb =>
      simp only [inD] at e'
      obtain ⟨h1, h3⟩ := if_some e'
      exact op_notIn_seq pins s σ H _ _ v u Q I rx ry ⟨_, _, rfl, .inr (same_seqT (mask_le A H) hb), ra.flat h1.1, rb.flat h1.2, q (by rw [← h3, rb.anyF ra h1.1 h1.2]; rfl)⟩
    | str z =>
      cases ra <;> simp only [inD] at e' <;> try (cases e'; done)
      rename_i w
      split at e'
      · rename_i c1 hc
        have ew : w = ⟨#[c1]⟩ := by
          obtain ⟨arr⟩ := w
          have : arr = [c1].toArray := by
            rw [← hc]
          rw [this]
        subst ew
        exact op_notIn_sign pins s σ H _ _ v u Q I rx ry ⟨_, _, rfl, rfl, q (by rw [Option.some.inj e'])⟩
      · cases e'
    | _ => simp only [inD] at e'; cases e'
end
end Vp

end

section
set_option Elab.async false
set_option linter.all false
set_option autoImplicit false
set_option maxRecDepth 100000
/-! Vp3: built-in calls, subscripts, slices. -/
namespace Vp
open PySem PySem.Spec PyProof.Rows L2

/-! ### argument lists without stars -/
def notStar : Expr → Bool
  | .Starred _ _ => false
  | _ => true
theorem star_cons {e : Expr} {es : List Expr} {env : Env} (h : notStar e = true) : starEach (e :: es) env = (false, eval e env) :: starEach es env := by
  cases e <;> first | rfl | cases h
theorem star_map {env : Env} : ∀ {es : List Expr}, es.all notStar = true → starEach es env = es.map fun e => (false, eval e env)
  | [], _ => rfl
  | e :: es, h => by
    rw [List.all_cons, Bool.and_eq_true] at h
    rw [star_cons h.1, star_map h.2]
    rfl
theorem back_plain {pos : Pos} {env : Env} : ∀ {es : List Expr}, es.all notStar = true → (backTo pos (starEach es env)).any (·.1) = false := by
  intro es h
  rw [star_map h]
  unfold backTo
  rw [List.map_map, List.any_map, List.any_eq_false]
  intro x hx
  simp

/-! ### built-in functions -/
def intsOf : List D → Option (List Int)
  | [] => some []
  | .int i :: r => (intsOf r).map (i :: ·)
  | _ => none
theorem intsOf_eq : ∀ {ds : List D} {ns : List Int}, intsOf ds = some ns → ds = ns.map .int
  | [], ns, h => by cases h; rfl
  | .int i :: r, ns, h => by
    obtain ⟨ms, h1, rfl⟩ := Option.map_eq_some_iff.mp h
    rw [intsOf_eq h1]
    rfl
  | .non :: r, ns, h => by cases h
  | .bl _ :: r, ns, h => by cases h
  | .str _ :: r, ns, h => by cases h
  | .lst _ :: r, ns, h => by cases h
  | .tup _ :: r, ns, h => by cases h
  | .fls _ :: r, ns, h => by cases h
  | .dic _ :: r, ns, h => by cases h
def blsOf : List D → Option (List Bool)
  | [] => some []
  | .bl i :: r => (blsOf r).map (i :: ·)
  | _ => none
theorem blsOf_eq : ∀ {ds : List D} {ns : List Bool}, blsOf ds = some ns → ds = ns.map .bl
  | [], ns, h => by cases h; rfl
  | .bl i :: r, ns, h => by
    obtain ⟨ms, h1, rfl⟩ := Option.map_eq_some_iff.mp h
    rw [blsOf_eq h1]
    rfl
  | .non :: r, ns, h => by cases h
  | .int _ :: r, ns, h => by cases h
  | .str _ :: r, ns, h => by cases h
  | .lst _ :: r, ns, h => by cases h
  | .tup _ :: r, ns, h => by cases h
  | .fls _ :: r, ns, h => by cases h
  | .dic _ :: r, ns, h => by cases h
def ins (i : Int) : List Int → List Int
  | [] => [i]
  | j :: r => if i ≤ j then i :: j :: r else j :: ins i r
def isort : List Int → List Int
  | [] => []
  | i :: r => ins i (isort r)
theorem ins_perm (i : Int) : ∀ r : List Int, (ins i r).Perm (i :: r)
  | [] => .refl _
  | j :: r => by
    unfold ins
    split
    · exact .refl _
    · exact ((ins_perm i r).cons j).trans (.swap _ _ _)
theorem isort_perm : ∀ r : List Int, (isort r).Perm r
  | [] => .refl _
  | i :: r => (ins_perm i _).trans ((isort_perm r).cons i)
theorem ins_sorted (i : Int) : ∀ r : List Int, r.Pairwise (· ≤ ·) → (ins i r).Pairwise (· ≤ ·)
  | [], _ => by simp [ins]
  | j :: r, h => by
    rw [List.pairwise_cons] at h
    unfold ins
    split
    · rename_i hij
      rw [List.pairwise_cons, List.pairwise_cons]
      refine ⟨fun a ha => ?_, h⟩
      rcases List.mem_cons.mp ha with rfl | ha
      · exact hij
      · exact Int.le_trans hij (h.1 a ha)
    · rename_i hij
      rw [List.pairwise_cons]
      refine ⟨fun a ha => ?_, ins_sorted i r h.2⟩
      rcases List.mem_cons.mp ((ins_perm i r).mem_iff.mp ha) with rfl | ha
      · omega
      · exact h.1 a ha
theorem isort_sorted : ∀ r : List Int, (isort r).Pairwise (· ≤ ·)
  | [] => .nil
  | i :: r => ins_sorted i _ (isort_sorted r)
theorem sorted_one : ∀ {xs ys : List Int}, xs.Perm ys → xs.Pairwise (· ≤ ·) → ys.Pairwise (· ≤ ·) → xs = ys := fun h h1 h2 =>
  h.eq_of_pairwise (fun a b _ _ x y => Int.le_antisymm x y) h1 h2

inductive BF where
  | len | abs | max2 | min2 | maxl | minl | suml | alll | anyl | int | bool | str | tupof
  deriving DecidableEq
inductive BO where
  | listof | sorted
  deriving DecidableEq
def BF.name : BF → Str
  | .len => "len" | .abs => "abs" | .max2 => "max" | .min2 => "min" | .maxl => "max" | .minl => "min" | .suml => "sum" | .alll => "all" | .anyl => "any" | .int => "int" | .bool => "bool" | .str => "str" | .tupof => "tuple"
def BO.name : BO → Str
  | .listof => "list" | .sorted => "sorted"
def seqOf : D → Option (List D)
  | .lst ds => some ds
  | .tup ds => some ds
  | .fls ds => some ds
  | _ => none
def lisOf : D → Option (List D)
  | .lst ds => some ds
  | .fls ds => some ds
  | _ => none
def maxI (i : Int) (r : List Int) : Int := r.foldl max i
def minI (i : Int) (r : List Int) : Int := r.foldl min i
def lenD : D → Option D
  | .str x => if x.length ≤ lineN then some (.int (x.length : Nat)) else none
  | d => (seqOf d).map fun ds => .int (ds.length : Nat)
def bfD : BF → List D → Option D
  | .len, [d] => lenD d
  | .abs, [.int i] => some (.int (if i < 0 then -i else i))
  | .max2, [.int i, .int j] => some (.int (if j > i then j else i))
  | .min2, [.int i, .int j] => some (.int (if j < i then j else i))
  | .maxl, [d] => ((lisOf d).bind intsOf).bind fun | [] => none | i :: r => some (.int (maxI i r))
  | .minl, [d] => ((lisOf d).bind intsOf).bind fun | [] => none | i :: r => some (.int (minI i r))
  | .suml, [d] => ((lisOf d).bind intsOf).map fun ns => .int ns.sum
  | .alll, [d] => ((lisOf d).bind blsOf).map fun ns => .bl (ns.all id)
  | .anyl, [d] => ((lisOf d).bind blsOf).map fun ns => .bl (ns.any id)
  | .int, [.int i] => some (.int i)
  | .int, [.bl b] => some (.int (if b then 1 else 0))
  | .bool, [.int i] => some (.bl (i != 0))
  | .bool, [.bl b] => some (.bl b)
  | .str, [.int i] => if i.natAbs.log2 < 1920 then some (.str (toString i)) else none
  | .tupof, [.lst ds] => some (.tup ds)
  | .tupof, [.tup ds] => some (.tup ds)
  | _, _ => none
def keysI : List (Key × D) → Option (List Int)
  | [] => some []
  | (.inl i, _) :: r => (keysI r).map (i :: ·)
  | _ => none
def bfO : BO → List D → Option (List D)
  | .listof, [d] => seqOf d
  | .sorted, [.dic kd] => (keysI kd).bind fun ns => if ns.length < 64 then some ((isort ns).map .int) else none
  | .sorted, [d] => ((lisOf d).bind intsOf).map fun ns => (isort ns).map .int
  | _, _ => none

section
variable {X : Cx}
theorem lis_rep {K : PySem.W.Frag} {A : List Addr} {H : Hp} {x : V} {d : D} {ds : List D} (r : Rep K (mask A H) x d) (h : lisOf d = some ds) : ∃ a vs, x = .ref a ∧ SqL K H a vs ∧ RepA K (mask A H) vs ds := by
  cases r <;> simp only [lisOf] at h <;> try (cases h; done)
  · rename_i h1 r
    cases h
    exact ⟨_, _, rfl, .inl (.inl (mask_some.mp h1).2), r⟩
  · rename_i h1 r
    cases h
    exact ⟨_, _, rfl, (mask_le _ _).seq h1, r⟩
theorem seq_rep {K : PySem.W.Frag} {A : List Addr} {H : Hp} {x : V} {d : D} {ds : List D} (r : Rep K (mask A H) x d) (h : seqOf d = some ds) : ∃ a vs, x = .ref a ∧ (SqL K H a vs ∨ SqT K H a vs) ∧ RepA K (mask A H) vs ds := by
  cases r <;> simp only [seqOf] at h <;> try (cases h; done)
  · rename_i h1 r
    cases h
    exact ⟨_, _, rfl, .inl (.inl (.inl (mask_some.mp h1).2)), r⟩
  · rename_i h1 r
    cases h
    exact ⟨_, _, rfl, .inr (same_seqT (mask_le _ _) h1), r⟩
  · rename_i h1 r
    cases h
    exact ⟨_, _, rfl, .inl ((mask_le _ _).seq h1), r⟩
theorem ints_rep {K : PySem.W.Frag} {A : List Addr} {H : Hp} {x : V} {d : D} {ns : List Int} (r : Rep K (mask A H) x d) (h : (lisOf d).bind intsOf = some ns) : ∃ a, x = .ref a ∧ SqL K H a (ns.map V.int) := by
  obtain ⟨ds, h1, h2⟩ := Option.bind_eq_some_iff.mp h
  obtain ⟨a, vs, rfl, h3, h4⟩ := lis_rep r h1
  rw [intsOf_eq h2] at h4
  rw [← h4.ints]
  exact ⟨a, rfl, h3⟩
theorem bls_rep {K : PySem.W.Frag} {A : List Addr} {H : Hp} {x : V} {d : D} {ns : List Bool} (r : Rep K (mask A H) x d) (h : (lisOf d).bind blsOf = some ns) : ∃ a, x = .ref a ∧ SqL K H a (ns.map V.bl) := by
  obtain ⟨ds, h1, h2⟩ := Option.bind_eq_some_iff.mp h
  obtain ⟨a, vs, rfl, h3, h4⟩ := lis_rep r h1
  rw [blsOf_eq h2] at h4
  rw [← h4.bls]
  exact ⟨a, rfl, h3⟩
theorem len_rep {K : PySem.W.Frag} {A : List Addr} {H : Hp} {x : V} {d e : D} (r : Rep K (mask A H) x d) (h : lenD d = some e) : ∃ n : Nat, LenV K x H n ∧ e = .int n := by
  have go : (seqOf d).map (fun ds => D.int (ds.length : Nat)) = some e → ∃ n : Nat, LenV K x H n ∧ e = .int n := fun h => by
    obtain ⟨ds, h1, rfl⟩ := Option.map_eq_some_iff.mp h
    obtain ⟨a, vs, rfl, h3, h4⟩ := seq_rep r h1
    rcases h3 with h3 | h3
    · exact ⟨ds.length, .inl ⟨vs, h3, h4.length.symm⟩, rfl⟩
    · exact ⟨ds.length, .inr ⟨vs, h3, h4.length.symm⟩, rfl⟩
  cases r with
  | str z =>
    simp only [lenD] at h
    obtain ⟨h1, rfl⟩ := if_some h
    exact ⟨_, ⟨le_line h1, rfl⟩, rfl⟩
  | lst h1 r => exact go h
  | tup h1 r => exact go h
  | fls h1 r => exact go h
  | _ => simp only [lenD, seqOf] at h; cases h
theorem RepA.inv1 {K : PySem.W.Frag} {H : Hp} {vs : List V} {d : D} (r : RepA K H vs [d]) : ∃ v, vs = [v] ∧ Rep K H v d := by
  cases r with
  | cons h r =>
    cases r
    exact ⟨_, rfl, h⟩
theorem RepA.inv2 {K : PySem.W.Frag} {H : Hp} {vs : List V} {d e : D} (r : RepA K H vs [d, e]) : ∃ v w, vs = [v, w] ∧ Rep K H v d ∧ Rep K H w e := by
  cases r with
  | cons h r =>
    obtain ⟨w, rfl, h2⟩ := r.inv1
    exact ⟨_, _, rfl, h, h2⟩
theorem maxI_ge : ∀ (r : List Int) (i : Int), i ≤ maxI i r ∧ ∀ y ∈ r, y ≤ maxI i r
  | [], i => ⟨Int.le_refl _, fun _ h => by cases h⟩
  | j :: r, i => by
    obtain ⟨h1, h2⟩ := maxI_ge r (max i j)
    refine ⟨Int.le_trans (Int.le_max_left _ _) h1, fun y hy => ?_⟩
    rcases List.mem_cons.mp hy with rfl | hy
    · exact Int.le_trans (Int.le_max_right _ _) h1
    · exact h2 y hy
theorem minI_le : ∀ (r : List Int) (i : Int), minI i r ≤ i ∧ ∀ y ∈ r, minI i r ≤ y
  | [], i => ⟨Int.le_refl _, fun _ h => by cases h⟩
  | j :: r, i => by
    obtain ⟨h1, h2⟩ := minI_le r (min i j)
    refine ⟨Int.le_trans h1 (Int.min_le_left _ _), fun y hy => ?_⟩
    rcases List.mem_cons.mp hy with rfl | hy
    · exact Int.le_trans h1 (Int.min_le_right _ _)
    · exact h2 y hy
theorem maxI_mem : ∀ (r : List Int) (i : Int), maxI i r ∈ i :: r
  | [], i => List.mem_cons_self
  | j :: r, i => by
    have h := maxI_mem r (max i j)
    show maxI (max i j) r ∈ i :: j :: r
    rcases List.mem_cons.mp h with h | h
    · rw [h]
      rcases Int.le_total i j with q | q
      · rw [Int.max_eq_right q]
        simp
      · rw [Int.max_eq_left q]
        simp
    · simp [h]
theorem minI_mem : ∀ (r : List Int) (i : Int), minI i r ∈ i :: r
  | [], i => List.mem_cons_self
  | j :: r, i => by
    have h := minI_mem r (min i j)
    show minI (min i j) r ∈ i :: j :: r
    rcases List.mem_cons.mp h with h | h
    · rw [h]
      rcases Int.le_total i j with q | q
      · rw [Int.min_eq_left q]
        simp
      · rw [Int.min_eq_right q]
        simp
    · simp [h]
theorem RepK.keysI {K : PySem.W.Frag} {H : Hp} : ∀ {kv : List (Key × V)} {kd : List (Key × D)} {ns : List Int}, RepK K H kv kd → Vp.keysI kd = some ns → kv.map (·.1) = ns.map Sum.inl
  | _, _, _, .nil, h => by
    cases h
    rfl
  | _, _, ns, .cons (k := k) h r, e => by
    cases k with
    | inl i =>
      simp only [Vp.keysI] at e
      obtain ⟨ms, h1, rfl⟩ := Option.map_eq_some_iff.mp e
      rw [List.map_cons, r.keysI h1]
      rfl
    | inr x => cases e
def BF.val : BF → Value
  | .len => .builtin "len" | .abs => .builtin "abs" | .max2 => .builtin "max" | .min2 => .builtin "min" | .maxl => .builtin "max" | .minl => .builtin "min" | .suml => .builtin "sum" | .alll => .builtin "all" | .anyl => .builtin "any"
  | .int => .type "int" | .bool => .type "bool" | .str => .type "str" | .tupof => .type "tuple"
def BO.val : BO → Value
  | .listof => .type "list" | .sorted => .builtin "sorted"
theorem bfD_one {b : BF} {ds : List D} {d : D} (h : bfD b ds = some d) : (∃ e, ds = [e]) ∨ ∃ e f, ds = [e, f] := by
  match ds, h with
  | [e], _ => exact .inl ⟨e, rfl⟩
  | [e, f], _ => exact .inr ⟨e, f, rfl⟩
  | [], h => cases b <;> cases h
  | _ :: _ :: _ :: _, h => cases b <;> simp [bfD] at h
theorem bf_ok (hc : X.calm = true) (b : BF) : CallR X b.val (rDA X.K (bfD b)) := by
  intro pins s σ H vs us Q I r h
  obtain ⟨A, ds, d, hd, ra, e, k⟩ := h
  rcases bfD_one e with ⟨d1, rfl⟩ | ⟨d1, d2, rfl⟩
  · obtain ⟨v, rfl, rv⟩ := ra.inv1
    cases b with
    | len =>
      obtain ⟨n, h1, rfl⟩ := len_rep rv e
      exact call_len pins s σ H _ us Q I r ⟨_, n, rfl, h1, k.now (.int _)⟩
    | abs =>
      cases rv <;> simp only [bfD] at e <;> cases e
      exact call_abs pins s σ H _ us Q I r ⟨_, rfl, k.now (.int _)⟩
    | maxl =>
      obtain ⟨ns, h1, h2⟩ := Option.bind_eq_some_iff.mp e
      obtain ⟨a, rfl, h3⟩ := ints_rep rv h1
      cases ns with
      | nil => cases h2
      | cons i ns =>
        cases h2
        refine cr_max hc pins s σ H _ us Q I r ⟨_, _, rfl, h3, Nat.succ_pos _, fun m hm hle => ?_⟩
        have e1 : m = maxI i ns := Int.le_antisymm (by
          rcases List.mem_cons.mp hm with rfl | hm
          · exact (maxI_ge ns _).1
          · exact (maxI_ge ns i).2 m hm) (hle _ (maxI_mem ns i))
        rw [e1]
        exact k.now (.int _)
    | minl =>
      obtain ⟨ns, h1, h2⟩ := Option.bind_eq_some_iff.mp e
      obtain ⟨a, rfl, h3⟩ := ints_rep rv h1
      cases ns with
      | nil => cases h2
      | cons i ns =>
        cases h2
        refine cr_min hc pins s σ H _ us Q I r ⟨_, _, rfl, h3, Nat.succ_pos _, fun m hm hle => ?_⟩
        have e1 : m = minI i ns := Int.le_antisymm (hle _ (minI_mem ns i)) (by
          rcases List.mem_cons.mp hm with rfl | hm
          · exact (minI_le ns _).1
          · exact (minI_le ns i).2 m hm)
        rw [e1]
        exact k.now (.int _)
    | suml =>
      obtain ⟨ns, h1, rfl⟩ := Option.map_eq_some_iff.mp e
      obtain ⟨a, rfl, h3⟩ := ints_rep rv h1
      exact cr_sum hc pins s σ H _ us Q I r ⟨_, _, rfl, h3, k.now (.int _)⟩
    | alll =>
      obtain ⟨ns, h1, rfl⟩ := Option.map_eq_some_iff.mp e
      obtain ⟨a, rfl, h3⟩ := bls_rep rv h1
      exact cr_all hc pins s σ H _ us Q I r ⟨_, _, rfl, h3, k.now (.bl _)⟩
    | anyl =>
      obtain ⟨ns, h1, rfl⟩ := Option.map_eq_some_iff.mp e
      obtain ⟨a, rfl, h3⟩ := bls_rep rv h1
      exact cr_any hc pins s σ H _ us Q I r ⟨_, _, rfl, h3, k.now (.bl _)⟩
    | int =>
      cases rv <;> simp only [bfD] at e <;> cases e
      · exact call_int1 pins s σ H _ us Q I r (.inr ⟨_, rfl, k.now (.int _)⟩)
      · exact call_int1 pins s σ H _ us Q I r (.inl ⟨_, rfl, k.now (.int _)⟩)
    | bool =>
      cases rv <;> simp only [bfD] at e <;> cases e
      · exact call_bool1 pins s σ H _ us Q I r (.inr ⟨_, rfl, k.now (.bl _)⟩)
      · exact call_bool1 pins s σ H _ us Q I r (.inl ⟨_, rfl, k.now (.bl _)⟩)
    | str =>
      cases rv <;> simp only [bfD] at e <;> try (cases e; done)
      obtain ⟨h1, rfl⟩ := if_some e
      exact call_str_int pins s σ H _ us Q I r ⟨_, rfl, h1, k.now (.str _)⟩
    | tupof =>
      cases rv <;> simp only [bfD] at e <;> cases e
      · rename_i h1 r1
        exact call_tuple_of pins s σ H _ us Q I r ⟨_, _, rfl, .inl ⟨.inl (.inl (mask_some.mp h1).2), fun l hl => k.newT hd r1 hl⟩⟩
      · rename_i h1 r1
        exact call_tuple_of pins s σ H _ us Q I r ⟨_, _, rfl, .inr ⟨same_seqT (mask_le _ _) h1, k.now (.tup h1 r1)⟩⟩
    | max2 => cases rv <;> simp only [bfD] at e <;> cases e
    | min2 => cases rv <;> simp only [bfD] at e <;> cases e
  · obtain ⟨v, w, rfl, rv, rw'⟩ := ra.inv2
    cases b with
    | max2 =>
      cases rv <;> cases rw' <;> simp only [bfD] at e <;> cases e
      exact call_max2 hc pins s σ H _ us Q I r ⟨_, _, rfl, k.now (.int _)⟩
    | min2 =>
      cases rv <;> cases rw' <;> simp only [bfD] at e <;> cases e
      exact call_min2 hc pins s σ H _ us Q I r ⟨_, _, rfl, k.now (.int _)⟩
    | _ => simp only [bfD] at e; cases e
theorem bo_ok (hc : X.calm = true) (b : BO) : CallR X b.val (rDAo X.K (bfO b)) := by
  intro pins s σ H vs us Q I r h
  obtain ⟨A, ds, d, hd, ra, e, k⟩ := h
  obtain ⟨d1, rfl⟩ : ∃ d1, ds = [d1] := by
    match ds, e with
    | [e], _ => exact ⟨e, rfl⟩
    | [], h => cases b <;> cases h
    | _ :: _ :: _, h => cases b <;> simp [bfO] at h
  obtain ⟨v, rfl, rv⟩ := ra.inv1
  cases b with
  | listof =>
    obtain ⟨a, ws, rfl, h3, h4⟩ := seq_rep rv e
    exact call_list_of pins s σ H _ us Q I r ⟨_, _, rfl, h3, fun l hl => k.now h4 hl⟩
  | sorted =>
    by_cases hd1 : ∃ kd, d1 = .dic kd
    · obtain ⟨kd, rfl⟩ := hd1
      simp only [bfO] at e
      obtain ⟨ns, h1, h2⟩ := Option.bind_eq_some_iff.mp e
      obtain ⟨h3, rfl⟩ := if_some h2
      cases rv with
      | dic g1 g2 =>
        refine call_sortedDI hc pins s σ H _ us Q I r ⟨_, _, ns, rfl, rd_same (mask_le _ _) g1, g2.keysI h1, h3, fun ns' p hp hs hn => ?_⟩
        have e1 : ns' = isort ns := sorted_one (hp.trans (isort_perm ns).symm) hs (isort_sorted ns)
        subst e1
        exact k.now (RepA.of_ints _) hn
    have e : ((lisOf d1).bind intsOf).map (fun ns => (isort ns).map D.int) = some d := by
      cases d1 <;> first | exact e | exact absurd ⟨_, rfl⟩ hd1
    obtain ⟨ns, h1, rfl⟩ := Option.map_eq_some_iff.mp e
    obtain ⟨a, rfl, h3⟩ := ints_rep rv h1
    refine cr_sortedI pins s σ H _ us Q I r ⟨_, _, rfl, h3, fun ns' p hp hs hn => ?_⟩
    have e1 : ns' = isort ns := sorted_one (hp.trans (isort_perm ns).symm) hs (isort_sorted ns)
    subst e1
    exact k.now (RepA.of_ints _) hn
end
end Vp

end

section
set_option Elab.async false
set_option linter.all false
set_option autoImplicit false
set_option maxRecDepth 100000
/-! Vp4: subscripts, slices, calls, what is walked, comprehensions. -/
namespace Vp
open PySem PySem.Spec PyProof.Rows L2
section
variable {X : Cx} {e a b c : Expr} {pos : Pos} {fa fb fc : Env' → Option D}
/-! ### subscripts -/
def ixD (x i : D) : Option D := match i with
  | .int i => (match x with
    | .str z => if z.length ≤ lineN then (atI z.cps.toList i).map fun c => .str ⟨#[c]⟩ else none
    | x => (seqOf x).bind fun ds => atI ds i)
  | _ => none
theorem atI_rep {K : PySem.W.Frag} {H : Hp} {vs : List V} {ds : List D} {i : Int} {d : D} (r : RepA K H vs ds) (h : atI ds i = some d) : ∃ v, atI vs i = some v ∧ Rep K H v d := by
  unfold atI at h ⊢
  obtain ⟨j, h1, h2⟩ := Option.bind_eq_some_iff.mp h
  obtain ⟨v, h3, h4⟩ := r.get h2
  rw [r.length, h1]
  exact ⟨v, h3, h4⟩
theorem ix_ok : IxR X (rD2 X.K ixD) := by
  intro value slice pins s σ H x y v u Q I rx ry h hsub
  obtain ⟨A, a, b, d, hd, ra, rb, e, k⟩ := h
  cases rb with
  | int i =>
    have go : (seqOf a).bind (fun ds => atI ds i) = some d → rIx X.K x (.int i) H Q := fun h => by
      obtain ⟨ds, h1, h2⟩ := Option.bind_eq_some_iff.mp h
      obtain ⟨p, vs, rfl, h3, h4⟩ := seq_rep ra h1
      obtain ⟨w, h5, h6⟩ := atI_rep h4 h2
      rcases h3 with h3 | h3
      · exact .inl ⟨p, vs, i, w, rfl, rfl, h3, h5, k.now h6⟩
      · exact .inr (.inl ⟨p, vs, i, w, rfl, rfl, h3, h5, k.now h6⟩)
    refine ix_seq value slice pins s σ H x _ v u Q I rx ry ?_ hsub
    cases ra with
    | str z =>
      simp only [ixD] at e
      split at e
      · rename_i hz
        obtain ⟨c, h1, rfl⟩ := Option.map_eq_some_iff.mp e
        exact .inr (.inr ⟨z, i, c, rfl, rfl, le_line hz, h1, k.now (.str _)⟩)
      · cases e
    | non => exact go e
    | bl _ => exact go e
    | int _ => exact go e
    | lst h1 r => exact go e
    | tup h1 r => exact go e
    | fls h1 r => exact go e
    | dic h1 r => exact go e
  | _ => cases e
theorem vp_ix (ha : PE X a (rdE X.K fa)) (hb : PE X b (rdE X.K fb)) (hs : PlainIx b) : PE X (.Subscript a b pos) (rdE X.K (ap2 ixD fa fb)) := pe_imp (pe_ix ix_ok ha hb hs) rd_op
/-- an item of a list of the def's own, by the list's place -/
def ixOwn (i : Nat) (fb : Env' → Option D) (E : Env') : Option D := match E[i]? with
  | some (.o ds) => (fb E).bind fun
    | .int j => atI ds j
    | _ => none
  | _ => none
theorem vp_ixOwn {i : Nat} {x : Str} {p : Pos} (hN : X.N[i]? = some x) (hv : Vis X.env.scope x) (hd : (x == ("__debug__" : Str)) = false) (hcd : (x == ("__classdict__" : Str)) = false) (hb : PE X b (rdE X.K fb)) (hs : PlainIx b) :
    PE X (.Subscript (.Name x p) b pos) (rdE X.K (ixOwn i fb)) := by
  refine pe_imp (pe_ix ix_list (pe_var hN hv hd hcd) hb hs) ?_
  rintro σ H Q ⟨L, A, E, d, er, h, k⟩
  unfold ixOwn at h
  split at h
  · rename_i ds e
    obtain ⟨q, vs, h1, h2, h3, h4⟩ := er.own i ds e
    obtain ⟨y, h5, h6⟩ := Option.bind_eq_some_iff.mp h
    refine ⟨_, h1, L, A, E, y, er, h5, fun w H1 s1 r1 => ?_⟩
    cases y with
    | int j =>
      cases r1
      obtain ⟨z, h7, h8⟩ := atI_rep h4 h6
      exact ⟨q, vs, j, z, rfl, rfl, .inl (.inl (s1 _ _ h3)), h7, k _ H1 s1 (h8.mono (mask_same s1))⟩
    | _ => cases h6
  · cases h
/-- its length -/
def lenOwn (i : Nat) (E : Env') : Option D := match E[i]? with
  | some (.o ds) => some (.int (ds.length : Nat))
  | _ => none
theorem vp_lenOwn {i : Nat} {x : Str} {p q : Pos} (hN : X.N[i]? = some x) (hv : Vis X.env.scope x) (hd : (x == ("__debug__" : Str)) = false) (hcd : (x == ("__classdict__" : Str)) = false) (hg : Gl X "len") (hm : X.mg "len" = none) :
    PE X (.Call (.Name "len" q) [.Name x p] [] pos) (rdE X.K (lenOwn i)) := by
  refine pe_imp (pe_callB call_len hg hm PySem.boot_len (pa_cons (pe_var hN hv hd hcd) pa_nil)) ?_
  rintro σ H Q ⟨L, A, E, d, er, h, k⟩
  unfold lenOwn at h
  split at h
  · rename_i ds e
    cases h
    obtain ⟨q, vs, h1, h2, h3, h4⟩ := er.own i ds e
    exact ⟨_, h1, _, _, rfl, .inl ⟨vs, .inl (.inl h3), rfl⟩, by rw [h4.length]; exact k.now (.int _)⟩
  · cases h

/-- x in, not in a list of the def's own -/
def inOwn (neg : Bool) (i : Nat) (fa : Env' → Option D) (E : Env') : Option D := match E[i]? with
  | some (.o ds) => (fa E).bind fun a => if flatD a = true ∧ ds.all flatD = true then some (.bl (if neg then !(ds.any fun y => eqF y a) else ds.any fun y => eqF y a)) else none
  | _ => none
theorem vp_inOwn {neg : Bool} {i : Nat} {x : Str} {p : Pos} (hN : X.N[i]? = some x) (hv : Vis X.env.scope x) (hd : (x == ("__debug__" : Str)) = false) (hcd : (x == ("__classdict__" : Str)) = false) (ha : PE X a (rdE X.K fa)) :
    PE X (.Compare a [if neg = true then .NotIn else .In] [.Name x p] pos) (rdE X.K (inOwn neg i fa)) := by
  have key : PE X (.Compare a [if neg = true then .NotIn else .In] [.Name x p] pos) (tOp (rIn X.K neg) (rdE X.K fa) (tVar i)) := by
    cases neg with
    | true => exact pe_cmpR op_notIn_seq ha (pe_var hN hv hd hcd) rfl
    | false => exact pe_cmpR op_in_seq ha (pe_var hN hv hd hcd) rfl
  refine pe_imp key ?_
  rintro σ H Q ⟨L, A, E, d, er, h, k⟩
  unfold inOwn at h
  split at h
  · rename_i ds e
    obtain ⟨q, vs, h1, h2, h3, h4⟩ := er.own i ds e
    obtain ⟨y, h5, h6⟩ := Option.bind_eq_some_iff.mp h
    obtain ⟨h7, rfl⟩ := if_some h6
    refine ⟨L, A, E, y, er, h5, fun w H1 s1 r1 => ⟨_, h1, q, vs, rfl, .inl (.inl (.inl (s1 _ _ h3))), r1.flat h7.1, (h4.mono (mask_same s1)).flat h7.2, ?_⟩⟩
    rw [← (h4.mono (mask_same s1)).anyF r1 h7.1 h7.2]
    exact k _ H1 s1 (by cases neg <;> exact .bl _)
  · cases h
theorem vt_inOwn {neg : Bool} {i : Nat} {x : Str} {p : Pos} (hN : X.N[i]? = some x) (hv : Vis X.env.scope x) (hd : (x == ("__debug__" : Str)) = false) (hcd : (x == ("__classdict__" : Str)) = false) (ha : PE X a (rdE X.K fa)) :
    PT X (.Compare a [if neg = true then .NotIn else .In] [.Name x p] pos) (rdT X.K fun E => (inOwn neg i fa E).bind toB) := by
  have key : PT X (.Compare a [if neg = true then .NotIn else .In] [.Name x p] pos) (tTest (tOp (rIn X.K neg) (rdE X.K fa) (tVar i))) := by
    cases neg with
    | true => exact pt_cmpR op_notIn_seq ha (pe_var hN hv hd hcd) rfl
    | false => exact pt_cmpR op_in_seq ha (pe_var hN hv hd hcd) rfl
  refine pt_imp key ?_
  rintro σ H Q ⟨L, A, E, d, er, h, k⟩
  obtain ⟨x, hx, h⟩ := Option.bind_eq_some_iff.mp h
  cases toB_eq h
  unfold inOwn at hx
  split at hx
  · rename_i ds e
    obtain ⟨q, vs, h1, h2, h3, h4⟩ := er.own i ds e
    obtain ⟨y, h5, h6⟩ := Option.bind_eq_some_iff.mp hx
    obtain ⟨h7, h8⟩ := if_some h6
    refine ⟨L, A, E, y, er, h5, fun w H1 s1 r1 => ⟨_, h1, q, vs, rfl, .inl (.inl (.inl (s1 _ _ h3))), r1.flat h7.1, (h4.mono (mask_same s1)).flat h7.2, ?_⟩⟩
    rw [← (h4.mono (mask_same s1)).anyF r1 h7.1 h7.2]
    refine ⟨d, ?_, k H1 s1⟩
    injection h8 with h8
    rw [← h8]
  · cases hx
/-! ### slices -/
/-- xs[::-1] -/
def revD (fa : Env' → Option D) (E : Env') : Option (List D) := (fa E).bind fun d => (lisOf d).map List.reverse
theorem vp_rev {k : Nat} {p1 p2 p3 : Pos} (ha : PE X e (rdE X.K fa)) : PE X (.Subscript e (.Slice none none (some (.UnaryOp .USub (.Constant (.int 1) k p1) p2)) p3) pos) (rdO X.K (revD fa)) := by
  refine pe_imp (pe_revL ha) ?_
  rintro σ H Q ⟨L, A, E, d, er, h, k⟩
  obtain ⟨x, hx, h⟩ := Option.bind_eq_some_iff.mp h
  obtain ⟨ds, h1, rfl⟩ := Option.map_eq_some_iff.mp h
  refine ⟨L, A, E, x, er, hx, fun v H1 s1 r1 => ?_⟩
  obtain ⟨a, vs, rfl, h3, h4⟩ := lis_rep r1 h1
  exact ⟨a, vs, rfl, h3, fun p hp => (k.mono s1).now h4.reverse hp⟩
def optI : Option (Option D) → Option (Option Int)
  | some none => some none
  | some (some (.int i)) => some (some i)
  | _ => none
def partD (f : Option (Env' → Option D)) (E : Env') : Option (Option Int) := match f with
  | none => some none
  | some f => (f E).bind fun
    | .int i => some (some i)
    | _ => none
def rdP (K : PySem.W.Frag) (f : Env' → Option (Option Int)) : TO := fun σ H Q => ∃ L A E i, ER K L A σ H E ∧ f E = some i ∧ ∀ H', Same H H' → Q i H'
theorem po_imp {o : Option Expr} {t t' : TO} (h : PO X o t) (i : ∀ σ H Q, t' σ H Q → t σ H Q) : PO X o t' := ⟨fun pins s σ H Q I w => h.run pins s σ H Q I (i _ _ _ w)⟩
theorem vo_none : PO X none (rdP X.K (partD none)) := by
  refine po_imp po_none ?_
  rintro σ H Q ⟨L, A, E, d, er, h, k⟩
  cases h
  exact k H (Same.refl H)
theorem vo_some (h : PE X e (rdE X.K fa)) : PO X (some e) (rdP X.K (partD (some fa))) := by
  refine po_imp (po_some h) ?_
  rintro σ H Q ⟨L, A, E, d, er, h, k⟩
  obtain ⟨x, h1, h2⟩ := Option.bind_eq_some_iff.mp h
  refine ⟨L, A, E, x, er, h1, fun v H1 s1 r1 => ?_⟩
  cases x with
  | int i =>
    cases h2
    cases r1
    exact ⟨i, rfl, k H1 s1⟩
  | _ => cases h2
def cutD {α : Type} (xs : List α) (lo hi : Option Int) : List α := (xs.drop (HT.sIx xs.length 0 lo)).take (HT.sIx xs.length xs.length hi - HT.sIx xs.length 0 lo)
theorem cut_rep {K : PySem.W.Frag} {H : Hp} {vs : List V} {ds : List D} (r : RepA K H vs ds) (lo hi : Option Int) : RepA K H (cutV vs lo hi) (cutD ds lo hi) := by
  unfold cutV cutD
  rw [r.length]
  exact (r.drop _).take _
def slD (x : D) (lo hi : Option Int) : Option D := match x with
  | .str z => if z.length ≤ lineN then some (.str (cutS z lo hi)) else none
  | .tup ds => if HT.sIx ds.length 0 lo = 0 ∧ HT.sIx ds.length ds.length hi = ds.length then none else some (.tup (cutD ds lo hi))
  | .lst ds => some (.lst (cutD ds lo hi))
  | .fls ds => some (.lst (cutD ds lo hi))
  | _ => none
def slO (x : D) (lo hi : Option Int) : Option (List D) := (lisOf x).map fun ds => cutD ds lo hi
def ap3 {α : Type} (g : D → Option Int → Option Int → Option α) (fa : Env' → Option D) (fl fu : Env' → Option (Option Int)) (E : Env') : Option α := (fa E).bind fun x => (fl E).bind fun l => (fu E).bind fun u => g x l u
variable {lo hi : Option Expr} {fl fu : Env' → Option (Option Int)} {p2 : Pos}
theorem vp_slO (ha : PE X e (rdE X.K fa)) (hl : PO X lo (rdP X.K fl)) (hu : PO X hi (rdP X.K fu)) : PE X (.Subscript e (.Slice lo hi none p2) pos) (rdO X.K (ap3 slO fa fl fu)) := by
  refine pe_imp (pe_slice sl_list ha hl hu) ?_
  rintro σ H Q ⟨L, A, E, d, er, h, k⟩
  obtain ⟨x, hx, h⟩ := Option.bind_eq_some_iff.mp h
  obtain ⟨l, hl, h⟩ := Option.bind_eq_some_iff.mp h
  obtain ⟨u, hu, h⟩ := Option.bind_eq_some_iff.mp h
  refine ⟨L, A, E, x, er, hx, fun v H1 s1 r1 => ⟨L, A, E, l, er.mono s1, hl, fun H2 s2 => ⟨L, A, E, u, (er.mono s1).mono s2, hu, fun H3 s3 => ?_⟩⟩⟩
  obtain ⟨ds, h1, rfl⟩ := Option.map_eq_some_iff.mp h
  obtain ⟨a, vs, rfl, h3, h4⟩ := lis_rep (r1.mono (mask_same (s2.trans s3))) h1
  exact ⟨a, vs, rfl, h3, fun p hp => (k.mono ((s1.trans s2).trans s3)).now (cut_rep h4 l u) hp⟩
theorem sl_ok : SlR X (fun x l u H Q => ∃ A a d, Dom A H ∧ Rep X.K (mask A H) x a ∧ slD a l u = some d ∧ Post X.K A H d Q) := by
  refine fun pins s σ H x v vl vu lo hi sl Q I rx hs pl pu h => (sl_list.or (sl_tup.or sl_str)) pins s σ H x v vl vu lo hi sl Q I rx hs pl pu ?_
  obtain ⟨A, a, d, hd, ra, e, k⟩ := h
  cases ra <;> simp only [slD] at e <;> try (cases e; done)
  · obtain ⟨h1, rfl⟩ := if_some e
    exact .inr (.inr ⟨_, rfl, le_line h1, k.now (.str _)⟩)
  · rename_i h1 r
    cases e
    exact .inl ⟨_, _, rfl, .inl (.inl (mask_some.mp h1).2), fun p hp => (k.ofO hd).now (cut_rep r lo hi) hp⟩
  · rename_i h1 r
    split at e
    · cases e
    · rename_i hn
      cases e
      refine .inr (.inl ⟨_, _, rfl, same_seqT (mask_le _ _) h1, ?_, fun p hp => k.newT hd (cut_rep r lo hi) hp⟩)
      rw [r.length]
      exact hn
  · rename_i h1 r
    cases e
    exact .inl ⟨_, _, rfl, (mask_le _ _).seq h1, fun p hp => (k.ofO hd).now (cut_rep r lo hi) hp⟩
theorem vp_sl (ha : PE X e (rdE X.K fa)) (hl : PO X lo (rdP X.K fl)) (hu : PO X hi (rdP X.K fu)) : PE X (.Subscript e (.Slice lo hi none p2) pos) (rdE X.K (ap3 slD fa fl fu)) := by
  refine pe_imp (pe_slice sl_ok ha hl hu) ?_
  rintro σ H Q ⟨L, A, E, d, er, h, k⟩
  obtain ⟨x, hx, h⟩ := Option.bind_eq_some_iff.mp h
  obtain ⟨l, hl, h⟩ := Option.bind_eq_some_iff.mp h
  obtain ⟨u, hu, h⟩ := Option.bind_eq_some_iff.mp h
  refine ⟨L, A, E, x, er, hx, fun v H1 s1 r1 => ⟨L, A, E, l, er.mono s1, hl, fun H2 s2 => ⟨L, A, E, u, (er.mono s1).mono s2, hu, fun H3 s3 => ?_⟩⟩⟩
  exact ⟨A, x, d, (((er.mono s1).mono s2).mono s3).dom, r1.mono (mask_same (s2.trans s3)), h, k.mono ((s1.trans s2).trans s3)⟩

/-! ### calls -/
variable {es : List Expr} {fs : Env' → Option (List D)} {x : Str} {p : Pos}
def apA {α : Type} (g : List D → Option α) (fs : Env' → Option (List D)) (E : Env') : Option α := (fs E).bind g
theorem rd_cb {g : List D → Option D} : ∀ σ H Q, rdE X.K (apA g fs) σ H Q → tCB (rDA X.K g) (rdA X.K fs) σ H Q := by
  rintro σ H Q ⟨L, A, E, d, er, h, k⟩
  obtain ⟨ds, h1, h2⟩ := Option.bind_eq_some_iff.mp h
  exact ⟨L, A, E, ds, er, h1, fun vs H1 s1 r1 => ⟨A, ds, d, (er.mono s1).dom, r1, h2, k.mono s1⟩⟩
theorem rd_cbo {g : List D → Option (List D)} : ∀ σ H Q, rdO X.K (apA g fs) σ H Q → tCB (rDAo X.K g) (rdA X.K fs) σ H Q := by
  rintro σ H Q ⟨L, A, E, d, er, h, k⟩
  obtain ⟨ds, h1, h2⟩ := Option.bind_eq_some_iff.mp h
  exact ⟨L, A, E, ds, er, h1, fun vs H1 s1 r1 => ⟨A, ds, d, (er.mono s1).dom, r1, h2, k.mono s1⟩⟩
theorem vp_bf (b : BF) (hc : X.calm = true) (hg : Gl X b.name) (hm : X.mg b.name = none) (ha : PA X (e :: es) (rdA X.K fs)) (hst : (e :: es).all notStar = true) : PE X (.Call (.Name b.name p) (e :: es) [] pos) (rdE X.K (apA (bfD b) fs)) := by
  have h1 : notStar e = true ∧ es.all notStar = true := by
    rw [List.all_cons, Bool.and_eq_true] at hst
    exact hst
  have k := bf_ok hc b
  refine pe_imp (t := tCB (rDA X.K (bfD b)) (rdA X.K fs)) ?_ rd_cb
  cases b with
  | len => exact pe_callB k hg hm PySem.boot_len ha (by decide) (by decide) (star_cons h1.1) (back_plain h1.2)
  | abs => exact pe_callB k hg hm boot_abs ha (by decide) (by decide) (star_cons h1.1) (back_plain h1.2)
  | max2 => exact pe_callB k hg hm boot_max ha (by decide) (by decide) (star_cons h1.1) (back_plain h1.2)
  | min2 => exact pe_callB k hg hm boot_min ha (by decide) (by decide) (star_cons h1.1) (back_plain h1.2)
  | maxl => exact pe_callB k hg hm boot_max ha (by decide) (by decide) (star_cons h1.1) (back_plain h1.2)
  | minl => exact pe_callB k hg hm boot_min ha (by decide) (by decide) (star_cons h1.1) (back_plain h1.2)
  | suml => exact pe_callB k hg hm (by decide +kernel) ha (by decide) (by decide) (star_cons h1.1) (back_plain h1.2)
  | alll => exact pe_callB k hg hm (by decide +kernel) ha (by decide) (by decide) (star_cons h1.1) (back_plain h1.2)
  | anyl => exact pe_callB k hg hm (by decide +kernel) ha (by decide) (by decide) (star_cons h1.1) (back_plain h1.2)
  | int => exact pe_callTy k hg hm boot_int ha (by decide) (by decide) (star_cons h1.1) (back_plain h1.2)
  | bool => exact pe_callTy k hg hm boot_bool ha (by decide) (by decide) (star_cons h1.1) (back_plain h1.2)
  | str => exact pe_callTy k hg hm boot_str ha (by decide) (by decide) (star_cons h1.1) (back_plain h1.2)
  | tupof => exact pe_callTy k hg hm boot_tuple ha (by decide) (by decide) (star_cons h1.1) (back_plain h1.2)
theorem vp_bo (b : BO) (hg : Gl X b.name) (hm : X.mg b.name = none) (ha : PA X (e :: es) (rdA X.K fs)) (hst : (e :: es).all notStar = true) (hc : X.calm = true) : PE X (.Call (.Name b.name p) (e :: es) [] pos) (rdO X.K (apA (bfO b) fs)) := by
  have h1 : notStar e = true ∧ es.all notStar = true := by
    rw [List.all_cons, Bool.and_eq_true] at hst
    exact hst
  have k := bo_ok hc b
  refine pe_imp (t := tCB (rDAo X.K (bfO b)) (rdA X.K fs)) ?_ rd_cbo
  cases b with
  | listof => exact pe_callTy k hg hm boot_list ha (by decide) (by decide) (star_cons h1.1) (back_plain h1.2)
  | sorted => exact pe_callB k hg hm boot_sorted ha (by decide) (by decide) (star_cons h1.1) (back_plain h1.2)
/-- math.gcd -/
def gcdD : List D → Option D
  | [.int a, .int b] => some (.int ((Nat.gcd a.natAbs b.natAbs : Nat) : Int))
  | _ => none
theorem gcd_ok : CallR X (.builtin "math.gcd") (rDA X.K gcdD) := by
  intro pins s σ H vs us Q I r h
  obtain ⟨A, ds, d, hd, ra, e, k⟩ := h
  unfold gcdD at e
  split at e
  · cases e
    obtain ⟨v, w, rfl, rv, rw'⟩ := ra.inv2
    cases rv
    cases rw'
    exact cr_gcd pins s σ H _ us Q I r ⟨_, _, rfl, k.now (.int _)⟩
  · cases e
theorem vp_gcd (hg : Gl X x) (hm : X.mg x = some (.builtin "math.gcd")) (ha : PA X (e :: es) (rdA X.K fs)) (hst : (e :: es).all notStar = true) (hdb : (x == ("__debug__" : Str)) = false) : PE X (.Call (.Name x p) (e :: es) [] pos) (rdE X.K (apA gcdD fs)) := by
  rw [List.all_cons, Bool.and_eq_true] at hst
  exact pe_imp (pe_callBfun gcd_ok hg hm ha hdb (star_cons hst.1) (back_plain hst.2)) rd_cb
/-- isinstance(x, T) of a built-in type -/
inductive TyN where
  | int | bool | str | list | tuple
  deriving DecidableEq
def TyN.s : TyN → String
  | .int => "int" | .bool => "bool" | .str => "str" | .list => "list" | .tuple => "tuple"
def TyN.n : TyN → Str
  | .int => "int" | .bool => "bool" | .str => "str" | .list => "list" | .tuple => "tuple"
def isiB (T : TyN) : D → Bool
  | .non => false
  | .bl _ => T == .bool || T == .int
  | .int _ => T == .int
  | .str _ => T == .str
  | .lst _ => T == .list
  | .tup _ => T == .tuple
  | .fls _ => T == .list
  | .dic _ => false
theorem kit5 (T : TyN) : (kitB "NoneType" T.s = some false ∧ kitB "dict" T.s = some false ∧ kitB "bool" T.s = some (T == .bool || T == .int) ∧ kitB "int" T.s = some (T == .int)) ∧ kitB "str" T.s = some (T == .str) ∧ kitB "list" T.s = some (T == .list) ∧ kitB "tuple" T.s = some (T == .tuple) := by
  cases T <;> decide +kernel
theorem ty_rep {K : PySem.W.Frag} {A : List Addr} {H : Hp} {x : V} {d : D} (r : Rep K (mask A H) x d) (T : TyN) : ∃ t, TyX K H x t ∧ PySem.W.kitOne K t (.type T.s) = some (isiB T d) := by
  obtain ⟨⟨k0, k6, k1, k2⟩, k3, k4, k5⟩ := kit5 T
  cases r with
  | non => exact ⟨_, .base .non, kit_ty k0⟩
  | bl b => exact ⟨_, .base (.bl b), kit_ty k1⟩
  | int i => exact ⟨_, .base (.int i), kit_ty k2⟩
  | str x => exact ⟨_, .base (.str x), kit_ty k3⟩
  | lst h1 r => exact ⟨_, .base (.lst (mask_some.mp h1).2), kit_ty k4⟩
  | tup h1 r =>
    refine ⟨.type "tuple", ?_, kit_ty k5⟩
    rcases same_seqT (mask_le _ _) h1 with (h | ⟨o, h⟩) | ⟨o, its, n, h, hc, _⟩
    · exact .base (.tup h)
    · exact .fTuple h
    · exact .kTuple h hc
  | fls h1 r =>
    refine ⟨.type "list", ?_, kit_ty k4⟩
    rcases (mask_le _ _).seq h1 with (h | ⟨o, h⟩) | ⟨o, its, n, h, hc, _⟩
    · exact .base (.lst h)
    · exact .base (.frz h)
    · exact .kList h hc
  | dic h1 r =>
    refine ⟨.type "dict", ?_, kit_ty k6⟩
    rcases rd_same (mask_le _ _) h1 with h | ⟨o, h⟩
    · exact .base (.dK h)
    · exact .fDict h
theorem boot_tyn (T : TyN) : bootBuiltins T.n = some (.type T.s) := by cases T <;> decide +kernel
def isiD (T : TyN) (fa : Env' → Option D) (E : Env') : Option D := (fa E).map fun d => .bl (isiB T d)
theorem vp_isi (T : TyN) {q : Pos} (hg : Gl X "isinstance") (hm : X.mg "isinstance" = none) (hgT : Gl X T.n) (hmT : X.mg T.n = none) (ha : PE X e (rdE X.K fa)) (hst : notStar e = true) :
    PE X (.Call (.Name "isinstance" p) [e, .Name T.n q] [] pos) (rdE X.K (isiD T fa)) := by
  have hT : PE X (.Name T.n q) (tC (.ty T.s)) := pe_bltn hgT hmT (boot_tyn T) rfl (by cases T <;> decide) (by cases T <;> decide)
  refine pe_imp (pe_callB call_isi hg hm boot_isinstance (pa_cons ha (pa_cons hT pa_nil (star_cons rfl)) (star_cons hst)) (by decide) (by decide) (star_cons hst) (back_plain rfl)) ?_
  rintro σ H Q ⟨L, A, E, d, er, h, k⟩
  obtain ⟨x, h1, rfl⟩ := Option.map_eq_some_iff.mp h
  refine ⟨L, A, E, x, er, h1, fun v H1 s1 r1 => ?_⟩
  obtain ⟨t, h3, h4⟩ := ty_rep r1 T
  exact ⟨v, .ty T.s, t, .type T.s, _, rfl, .ty _, h3, h4, (k.mono s1).now (.bl _)⟩
/-- n.bit_length() -/
def bitsD (fa : Env' → Option D) (E : Env') : Option D := (fa E).bind fun
  | .int i => some (.int (Builtin.Int.intBits i : Nat))
  | _ => none
theorem vp_bits {apos : Pos} (ha : PE X e (rdE X.K fa)) (hbase : attributeBase e "bit_length" X.env (eval e X.env) = eval e X.env) (hline : (apos.endLine == pos.line) = true) : PE X (.Call (.Attribute e "bit_length" apos) [] [] pos) (rdE X.K (bitsD fa)) := by
  refine pe_imp (pe_bits ha hbase hline) ?_
  rintro σ H Q ⟨L, A, E, d, er, h, k⟩
  obtain ⟨x, h1, h2⟩ := Option.bind_eq_some_iff.mp h
  refine ⟨L, A, E, x, er, h1, fun v H1 s1 r1 => ?_⟩
  cases x with
  | int i =>
    cases h2
    cases r1
    exact ⟨i, rfl, (k.mono s1).now (.int _)⟩
  | _ => cases h2

/-! ### written dicts -/
def keyD : D → Option Key
  | .int i => some (.inl i)
  | .str x => some (.inr x)
  | _ => none
def putD (kvs : List (Key × D)) (k : Key) (v : D) : List (Key × D) :=
  if (kvs.any fun kv => decide (kv.1 = k)) = true then kvs.map (fun kv => if kv.1 = k then (kv.1, v) else kv) else kvs ++ [(k, v)]
def mergeD (kvs more : List (Key × D)) : List (Key × D) := more.foldl (fun acc kv => putD acc kv.1 kv.2) kvs
section
variable {K : PySem.W.Frag} {H : Hp}
theorem RepK.any {k : Key} : ∀ {kv : List (Key × V)} {kd : List (Key × D)}, RepK K H kv kd → (kd.any fun p => decide (p.1 = k)) = kv.any fun p => decide (p.1 = k)
  | _, _, .nil => rfl
  | _, _, .cons h r => by
    rw [List.any_cons, List.any_cons, r.any]
theorem RepK.append : ∀ {kv lv : List (Key × V)} {kd ld : List (Key × D)}, RepK K H kv kd → RepK K H lv ld → RepK K H (kv ++ lv) (kd ++ ld)
  | _, _, _, _, .nil, q => q
  | _, _, _, _, .cons h r, q => .cons h (RepK.append r q)
theorem RepK.repl {k : Key} {v : V} {d : D} (h : Rep K H v d) : ∀ {kv : List (Key × V)} {kd : List (Key × D)}, RepK K H kv kd → RepK K H (kv.map fun p => if p.1 = k then (p.1, v) else p) (kd.map fun p => if p.1 = k then (p.1, d) else p)
  | _, _, .nil => .nil
  | _, _, .cons (k := j) q r => by
    rw [List.map_cons, List.map_cons]
    by_cases e : j = k
    · rw [if_pos e, if_pos e]
      exact .cons h (r.repl h)
    · rw [if_neg e, if_neg e]
      exact .cons q (r.repl h)
theorem RepK.put {k : Key} {v : V} {d : D} (h : Rep K H v d) {kv : List (Key × V)} {kd : List (Key × D)} (r : RepK K H kv kd) : RepK K H (putK kv k v) (putD kd k d) := by
  unfold putK putD
  rw [r.any]
  split
  · exact r.repl h
  · exact r.append (.cons h .nil)
theorem RepK.merge : ∀ {mv : List (Key × V)} {md : List (Key × D)} {kv : List (Key × V)} {kd : List (Key × D)}, RepK K H mv md → RepK K H kv kd → RepK K H (mergeK kv mv) (mergeD kd md)
  | _, _, _, _, .nil, q => q
  | _, _, _, _, .cons h r, q => r.merge (q.put h)
theorem key_rep {v : V} {d : D} {k : Key} (r : Rep K H v d) (h : keyD d = some k) : v = kV k := by
  cases r <;> simp only [keyD] at h <;> cases h <;> rfl
end
/-- keys and values in turn -/
def pairsD : List (Env' → Option D) → List (Env' → Option D) → Env' → Option (List (Key × D))
  | [], [], _ => some []
  | k :: ks, v :: vs, E => ((k E).bind keyD).bind fun x => (v E).bind fun y => (pairsD ks vs E).map fun r => (x, y) :: r
  | _, _, _ => none
def dicD (ks vs : List (Env' → Option D)) (E : Env') : Option D := (pairsD ks vs E).bind fun ps => if ps.length ≤ 15 then some (.dic (mergeD [] ps)) else none
def rdPs (K : PySem.W.Frag) : List (Env' → Option D) → List (Env' → Option D) → List (TE × TE)
  | k :: ks, v :: vs => (rdE K k, rdE K v) :: rdPs K ks vs
  | _, _ => []
theorem rd_pairs {K : PySem.W.Frag} {L A : List Addr} {σ : L2.St} {E : Env'} {k : List (V × V) → Hp → Prop} : ∀ (fs gs : List (Env' → Option D)) (H : Hp) (ps : List (Key × D)), ER K L A σ H E → pairsD fs gs E = some ps →
    (∀ kv H', Same H H' → RepK K (mask A H') kv ps → k (kv.map fun p => (kV p.1, p.2)) H') → tPairs (rdPs K fs gs) σ H k
  | [], [], H, ps, er, h, kk => by
    simp only [pairsD] at h
    cases h
    exact kk [] H (Same.refl H) .nil
  | f :: fs, g :: gs, H, ps, er, h, kk => by
    simp only [pairsD] at h
    obtain ⟨x, hx, h⟩ := Option.bind_eq_some_iff.mp h
    obtain ⟨d, hd, hx⟩ := Option.bind_eq_some_iff.mp hx
    obtain ⟨y, hy, h⟩ := Option.bind_eq_some_iff.mp h
    obtain ⟨r, hr, rfl⟩ := Option.map_eq_some_iff.mp h
    refine ⟨L, A, E, d, er, hd, fun v H1 s1 r1 => ⟨L, A, E, y, er.mono s1, hy, fun w H2 s2 r2 => ?_⟩⟩
    refine rd_pairs fs gs H2 r ((er.mono s1).mono s2) hr fun kv H3 s3 r3 => ?_
    rw [key_rep r1 hx]
    exact kk ((x, w) :: kv) H3 ((s1.trans s2).trans s3) (.cons (r2.mono (mask_same s3)) r3)
  | [], _ :: _, H, ps, er, h, kk => by simp only [pairsD] at h; cases h
  | _ :: _, [], H, ps, er, h, kk => by simp only [pairsD] at h; cases h
theorem vp_dic {keys : List (Option Expr)} {values : List Expr} {fs gs : List (Env' → Option D)} (h : PPs X pos keys values (rdPs X.K fs gs)) (hall : keys.all (·.isSome) = true) (hl : keys.length = values.length) (h0 : keys ≠ []) (h15 : keys.length ≤ 15) :
    PE X (.Dict keys values pos) (rdE X.K (dicD fs gs)) := by
  refine pe_imp (pe_disp h hall hl h0 h15) ?_
  rintro σ H Q ⟨L, A, E, d, er, h, k⟩
  obtain ⟨ps, h1, h2⟩ := Option.bind_eq_some_iff.mp h
  obtain ⟨h3, rfl⟩ := if_some h2
  intro p hp
  have s0 : Same H (upd H p (.dK [])) := same_upd hp
  refine rd_pairs fs gs _ ps (er.more s0 hp (by rw [upd_same]; simp)) h1 fun kv H1 s1 r1 => ?_
  have hl' : kv.length = ps.length := by
    have key : ∀ {kv : List (Key × V)} {kd : List (Key × D)}, RepK X.K (mask (p :: A) H1) kv kd → kv.length = kd.length := by
      intro kv
      induction kv with
      | nil => intro kd r; cases r; rfl
      | cons a kv ih => intro kd r; cases r with | cons _ r => rw [List.length_cons, List.length_cons, ih r]
    exact key r1
  refine ⟨s1 _ _ upd_same, kv, rfl, by rw [hl']; exact h3, ?_⟩
  have hpA : p ∉ A := fun z => er.dom p z hp
  refine k _ _ (fun b o e => ?_) (.dic (.inl (mask_some.mpr ⟨hpA, upd_same⟩)) ?_)
  · have hb := ne_of_none e hp
    rw [upd_ne hb]
    exact s1 _ _ (s0 _ _ e)
  · have r2 : RepK X.K (mask (p :: A) H1) (mergeK [] kv) (mergeD [] ps) := r1.merge .nil
    rw [← mask_upd (o := .dK (mergeK [] kv)) (List.mem_cons_self (a := p) (l := A))] at r2
    exact r2.mono (mask_sub (fun a ha => List.mem_cons_of_mem _ ha) _)
/-! ### own defs -/
/-- the promise of a def by its function on data -/
def spD (K : PySem.W.Frag) (g : List D → Option D) : Sp := fun vs H Q _ => ∃ A ds d, Dom A H ∧ RepA K (mask A H) vs ds ∧ g ds = some d ∧ Post K A H d Q
theorem vp_call {k : Nat} {f : Addr} {fd : FuncData} {ps : List Str} {g : List D → Option D} (F : FnOk X.prog X.w X.K X.mg X.base CX0 k f fd ps (spD X.K g)) (hr : Room k X.A) (hg : Gl X x) (hm : X.mg x = some (.ref f)) (hk : PySem.W.keepIn X.K (.ref f) = true) (hb : Binds X.K fd ps [])
    (ha : PA X (e :: es) (rdA X.K fs)) (hst : (e :: es).all notStar = true) (hdb : (x == ("__debug__" : Str)) = false) : PE X (.Call (.Name x p) (e :: es) [] pos) (rdE X.K (apA g fs)) := by
  rw [List.all_cons, Bool.and_eq_true] at hst
  refine pe_imp (pe_call F hr hg hm hk hb .nil pass0 ha hdb (star_cons hst.1) (back_plain hst.2)) ?_
  rintro σ H Q ⟨L, A, E, d, er, h, kk⟩
  obtain ⟨ds, h1, h2⟩ := Option.bind_eq_some_iff.mp h
  refine ⟨L, A, E, ds, er, h1, fun vs H1 s1 r1 => ⟨A, ds, d, (er.mono s1).dom, by rw [List.append_nil]; exact r1, h2, kk.mono s1⟩⟩
theorem vp_call0 {k : Nat} {f : Addr} {fd : FuncData} {ps : List Str} {g : List D → Option D} (F : FnOk X.prog X.w X.K X.mg X.base CX0 k f fd ps (spD X.K g)) (hr : Room k X.A) (hg : Gl X x) (hm : X.mg x = some (.ref f)) (hk : PySem.W.keepIn X.K (.ref f) = true) (hb : Binds X.K fd ps [])
    (hdb : (x == ("__debug__" : Str)) = false) : PE X (.Call (.Name x p) [] [] pos) (rdE X.K fun _ => g []) := by
  refine pe_imp (pe_call0 F hr hg hm hk hb .nil pass0 hdb) ?_
  rintro σ H Q ⟨L, A, E, d, er, h, kk⟩
  exact ⟨A, [], d, er.dom, .nil, h, kk⟩

/-! ### targets -/
/-- targets of a store -/
inductive Tg where
  | nm (i : Nat) | tp (ts : List Tg)
mutual
def asgT : Tg → D → Env' → Option Env'
  | .nm i, d, E => some (E.set i (.f d))
  | .tp ts, .tup ds, E => asgTs ts ds E
  | .tp _, _, _ => none
def asgTs : List Tg → List D → Env' → Option Env'
  | [], [], E => some E
  | t :: ts, d :: ds, E => (asgT t d E).bind fun E' => asgTs ts ds E'
  | _, _, _ => none
end
mutual
def tgS : Tg → List Nat
  | .nm i => [i]
  | .tp ts => tgSs ts
def tgSs : List Tg → List Nat
  | [] => []
  | t :: ts => tgS t ++ tgSs ts
end
/-- slots other than those are as they were -/
def Keep (is : List Nat) (σ σ' : L2.St) : Prop := σ'.length = σ.length ∧ ∀ j, j ∉ is → σ'[j]? = σ[j]?
theorem Keep.refl {is : List Nat} {σ : L2.St} : Keep is σ σ := ⟨rfl, fun _ _ => rfl⟩
theorem Keep.trans {is js : List Nat} {σ σ' σ'' : L2.St} (a : Keep is σ σ') (b : Keep js σ' σ'') : Keep (is ++ js) σ σ'' :=
  ⟨b.1.trans a.1, fun j h => (b.2 j fun z => h (List.mem_append_right _ z)).trans (a.2 j fun z => h (List.mem_append_left _ z))⟩
/-- a target's reading: the same heap, the slots stored -/
def rdG (K : PySem.W.Frag) (t : Tg) : TG := fun v σ H Q => ∃ L A E d E', ER K L A σ H E ∧ Rep K (mask A H) v d ∧ asgT t d E = some E' ∧ ∀ σ', ER K L A σ' H E' → Keep (tgS t) σ σ' → Q σ' H
def rdGs (K : PySem.W.Frag) (ts : List Tg) : TGs := fun vs σ H Q => ∃ L A E ds E', ER K L A σ H E ∧ RepA K (mask A H) vs ds ∧ asgTs ts ds E = some E' ∧ ∀ σ', ER K L A σ' H E' → Keep (tgSs ts) σ σ' → Q σ' H
theorem pg_imp {t t' : TG} (h : PG X e t) (i : ∀ v σ H Q, t' v σ H Q → t v σ H Q) : PG X e t' := ⟨fun pins s σ H v u Q I r w => h.run pins s σ H v u Q I r (i _ _ _ _ w)⟩
theorem pgs_imp {t t' : TGs} (h : PGs X es t) (i : ∀ v σ H Q, t' v σ H Q → t v σ H Q) : PGs X es t' := ⟨fun pins s σ H v u Q I r w => h.run pins s σ H v u Q I r (i _ _ _ _ w)⟩
theorem vg_name {i : Nat} {y : Str} (hN : X.N.Nodup) (hi : X.N[i]? = some y) (hx : Loc X.env.scope y) (hf : X.fn y = true ∨ X.env.scope.names.lookup y = some .local) : PG X (.Name y pos) (rdG X.K (.nm i)) := by
  refine pg_imp (pg_name hN hi hx hf) ?_
  rintro v σ H Q ⟨L, A, E, d, E', er, r, h, k⟩
  simp only [asgT] at h
  cases h
  refine k _ (er.set r) ⟨List.length_set, fun j hj => ?_⟩
  simp only [tgS, List.mem_singleton] at hj
  rw [List.getElem?_set_ne (Ne.symm hj)]
theorem vgs_nil : PGs X [] (rdGs X.K []) := by
  refine pgs_imp pgs_nil ?_
  rintro v σ H Q ⟨L, A, E, ds, E', er, r, h, k⟩
  cases ds with
  | nil =>
    simp only [asgTs] at h
    cases h
    cases r
    exact ⟨rfl, k _ er .refl⟩
  | cons d ds => simp only [asgTs] at h; cases h
theorem vgs_cons {t : Tg} {ts : List Tg} (h1 : PG X e (rdG X.K t)) (h2 : PGs X es (rdGs X.K ts)) (hs : (assignEach (e :: es) X.env).map (·.2) = assign e X.env :: (assignEach es X.env).map (·.2)) : PGs X (e :: es) (rdGs X.K (t :: ts)) := by
  refine pgs_imp (pgs_cons h1 h2 hs) ?_
  rintro v σ H Q ⟨L, A, E, ds, E', er, r, h, k⟩
  cases ds with
  | nil => simp only [asgTs] at h; cases h
  | cons d ds =>
    simp only [asgTs] at h
    obtain ⟨E1, g1, g2⟩ := Option.bind_eq_some_iff.mp h
    cases r with
    | cons r rr => exact ⟨_, _, rfl, L, A, E, d, E1, er, r, g1, fun σ1 er1 hl1 => ⟨L, A, E1, ds, E', er1, rr, g2, fun σ2 er2 hl2 => k _ er2 (by simp only [tgSs]; exact hl1.trans hl2)⟩⟩
theorem vg_tup {kk : Nat} {ts : List Tg} {n : Nat} (hc : X.calm = true) (h : PGs X es (rdGs X.K ts)) (hn : (assignEach es X.env).length = n) (hts : ts.length = n) (hst : (assignEach es X.env).findIdx? (·.1) = none) : PG X (.Tuple es kk pos) (rdG X.K (.tp ts)) := by
  refine pg_imp (pg_tup hc h hn hst) ?_
  rintro v σ H Q ⟨L, A, E, d, E', er, r, h, k⟩
  have hlen : ∀ (ts : List Tg) (ds : List D) (E E' : Env'), asgTs ts ds E = some E' → ts.length = ds.length := by
    intro ts
    induction ts with
    | nil =>
      intro ds E E' h
      cases ds with
      | nil => rfl
      | cons _ _ => simp only [asgTs] at h; cases h
    | cons t ts ih =>
      intro ds E E' h
      cases ds with
      | nil => simp only [asgTs] at h; cases h
      | cons d ds =>
        simp only [asgTs] at h
        obtain ⟨E1, g1, g2⟩ := Option.bind_eq_some_iff.mp h
        rw [List.length_cons, List.length_cons, ih _ _ _ g2]
  cases r with
  | tup h1 r =>
    simp only [asgT] at h
    refine ⟨_, _, rfl, same_seqT (mask_le _ _) h1, ?_, L, A, E, _, E', er, r, h, fun σ' er' hk => k σ' er' (by simp only [tgS]; exact hk)⟩
    rw [r.length, ← hlen _ _ _ _ h, hts]
  | _ => simp only [asgT] at h; cases h

/-! ### what is walked -/
/-- an iterator J that gives the items ds, whatever happens beside: B the heap at its making without what was masked then -/
def Walks (K : PySem.W.Frag) (B : Hp) (ds : List D) (J : It) : Prop := ∀ i A H, Same B (mask A H) → Dom A H →
  (∀ d, ds[i]? = some d → J.go i H ∧ ∀ x H', J.yld i H x H' → Same H H' ∧ Rep K (mask A H') x d) ∧ (ds.length ≤ i → J.stop i H)
def rdI (K : PySem.W.Frag) (f : Env' → Option (List D)) : TI := fun σ H R => ∃ L A E ds, ER K L A σ H E ∧ f E = some ds ∧ ∀ J H', Same H H' → Walks K (mask A H') ds J → R J H'
variable {tg : Expr}
theorem pi_imp {t t' : TI} (h : PI X tg e t) (i : ∀ σ H R, t' σ H R → t σ H R) : PI X tg e t' := ⟨fun pins s σ H R I w => h.run pins s σ H R I (i _ _ _ w)⟩
section
variable {K : PySem.W.Frag} {B : Hp} {a a' : Addr} {vs ws : List V} {ds es : List D}
theorem walks_list (h : SqL K B a vs) (r : RepA K B vs ds) : Walks K B ds (Itl K a) := by
  intro i A H s hd
  have hs := (s.trans (mask_le A H)).seq h
  refine ⟨fun d e => ?_, fun hl => ⟨vs, hs, by rw [r.length]; exact hl⟩⟩
  obtain ⟨v, h1, h2⟩ := r.get e
  refine ⟨⟨vs, v, hs, h1⟩, fun x H' ⟨e1, e2⟩ => ?_⟩
  subst e1
  have e3 := e2 vs hs
  rw [h1] at e3
  cases e3
  exact ⟨Same.refl _, h2.mono s⟩
theorem walks_tup (h : SqT K B a vs) (r : RepA K B vs ds) : Walks K B ds (Itt K a) := by
  intro i A H s hd
  have hs := same_seqT (s.trans (mask_le A H)) h
  refine ⟨fun d e => ?_, fun hl => ⟨vs, hs, by rw [r.length]; exact hl⟩⟩
  obtain ⟨v, h1, h2⟩ := r.get e
  refine ⟨⟨vs, v, hs, h1⟩, fun x H' ⟨e1, e2⟩ => ?_⟩
  subst e1
  have e3 := e2 vs hs
  rw [h1] at e3
  cases e3
  exact ⟨Same.refl _, h2.mono s⟩
theorem walks_rev (h : SqL K B a vs) (r : RepA K B vs ds) : Walks K B ds.reverse (Itv K a vs.length) := by
  intro i A H s hd
  have hs := (s.trans (mask_le A H)).seq h
  have hl := r.length
  refine ⟨fun d e => ?_, fun hl' => by rw [List.length_reverse] at hl'; show vs.length ≤ i; omega⟩
  have hi : i < ds.reverse.length := (List.getElem?_eq_some_iff.mp e).1
  rw [List.length_reverse] at hi
  rw [List.getElem?_reverse hi] at e
  obtain ⟨v, h1, h2⟩ := r.get e
  rw [← hl] at h1
  refine ⟨⟨by omega, vs, v, hs, h1⟩, fun x H' ⟨e1, e2⟩ => ?_⟩
  subst e1
  have e3 := e2 vs hs
  rw [h1] at e3
  cases e3
  exact ⟨Same.refl _, h2.mono s⟩
theorem get_range {n i : Nat} {f : Nat → D} {d : D} (e : ((List.range n).map f)[i]? = some d) : i < n ∧ d = f i := by
  rw [List.getElem?_map] at e
  obtain ⟨j, h1, rfl⟩ := Option.map_eq_some_iff.mp e
  obtain ⟨h2, h3⟩ := List.getElem?_eq_some_iff.mp h1
  rw [List.length_range] at h2
  rw [List.getElem_range] at h3
  subst h3
  exact ⟨h2, rfl⟩
theorem walks_range (lo : Int) (n : Nat) : Walks K B ((List.range n).map fun i => .int (lo + (i : Nat))) (Itr lo n) := by
  intro i A H s hd
  refine ⟨fun d e => ?_, fun hl => by
    rw [List.length_map, List.length_range] at hl
    exact hl⟩
  obtain ⟨h1, rfl⟩ := get_range e
  refine ⟨h1, fun x H' ⟨e1, e2⟩ => ?_⟩
  subst e1 e2
  exact ⟨Same.refl _, .int _⟩
theorem walks_rangeC (lo c : Int) (n : Nat) : Walks K B ((List.range n).map fun i => .int (lo + (i : Nat) * c)) (Itc lo c n) := by
  intro i A H s hd
  refine ⟨fun d e => ?_, fun hl => by
    rw [List.length_map, List.length_range] at hl
    exact hl⟩
  obtain ⟨h1, rfl⟩ := get_range e
  refine ⟨h1, fun x H' ⟨e1, e2⟩ => ?_⟩
  subst e1 e2
  exact ⟨Same.refl _, .int _⟩
def charsD (z : Str) : List D := z.cps.toList.map fun c => .str ⟨#[c]⟩
theorem walks_str (z : Str) : Walks K B (charsD z) (Its z) := by
  intro i A H s hd
  refine ⟨fun d e => ?_, fun hl => by
    unfold charsD at hl
    rw [List.length_map, Array.length_toList] at hl
    exact hl⟩
  unfold charsD at e
  rw [List.getElem?_map] at e
  obtain ⟨c, h1, rfl⟩ := Option.map_eq_some_iff.mp e
  have hi := (List.getElem?_eq_some_iff.mp h1).1
  rw [Array.length_toList] at hi
  refine ⟨hi, fun x H' ⟨e1, c', e2, e3⟩ => ?_⟩
  subst e1 e3
  have : c' = c := by
    rw [Array.getElem?_toList] at h1
    rw [h1] at e2
    exact (Option.some.inj e2).symm
  subst this
  exact ⟨Same.refl _, .str _⟩
theorem walks_enum (h : SqL K B a vs) (r : RepA K B vs ds) : Walks K B (ds.zipIdx.map fun p => .tup [.int (p.2 : Nat), p.1]) (Ite K a) := by
  intro i A H s hd
  have hs := (s.trans (mask_le A H)).seq h
  refine ⟨fun d e => ?_, fun hl => ⟨vs, hs, by rw [r.length]; simpa using hl⟩⟩
  rw [List.getElem?_map, List.getElem?_zipIdx] at e
  obtain ⟨q, h0, rfl⟩ := Option.map_eq_some_iff.mp e
  obtain ⟨d, h1, rfl⟩ := Option.map_eq_some_iff.mp h0
  obtain ⟨v, h2, h3⟩ := r.get h1
  refine ⟨⟨vs, v, hs, h2⟩, fun x H' ⟨T, y, e1, e2, e3, e4⟩ => ?_⟩
  have e5 := e4 vs hs
  rw [h2] at e5
  cases e5
  subst e1 e3
  refine ⟨same_upd e2, .tup (.inl (.inl (mask_some.mpr ⟨hd.new e2, upd_same⟩))) ?_⟩
  rw [Nat.zero_add]
  exact .cons (.int _) (.cons ((h3.mono s).mono (mask_same (same_upd e2))) .nil)
theorem zip_get {ds es : List D} {i : Nat} {d : D} (e : ((ds.zip es).map fun p => D.tup [p.1, p.2])[i]? = some d) : ∃ x y, ds[i]? = some x ∧ es[i]? = some y ∧ d = .tup [x, y] := by
  rw [List.getElem?_map] at e
  obtain ⟨q, h0, rfl⟩ := Option.map_eq_some_iff.mp e
  rw [List.getElem?_zip_eq_some] at h0
  exact ⟨_, _, h0.1, h0.2, rfl⟩
theorem walks_zip (h : SqL K B a vs) (r : RepA K B vs ds) (h' : SqL K B a' ws) (r' : RepA K B ws es) : Walks K B ((ds.zip es).map fun p => .tup [p.1, p.2]) (Itz K a a') := by
  intro i A H s hd
  have hs := (s.trans (mask_le A H)).seq h
  have hs' := (s.trans (mask_le A H)).seq h'
  refine ⟨fun d e => ?_, fun hl => ⟨vs, ws, hs, hs', by rw [r.length, r'.length]; simp only [List.length_map, List.length_zip] at hl; omega⟩⟩
  obtain ⟨x, y, h1, h2, rfl⟩ := zip_get e
  obtain ⟨v, g1, g2⟩ := r.get h1
  obtain ⟨w, g3, g4⟩ := r'.get h2
  refine ⟨⟨vs, ws, v, w, hs, hs', g1, g3⟩, fun z H' ⟨T, x', y', e1, e2, e3, e4, e5⟩ => ?_⟩
  have e6 := e4 vs hs
  have e7 := e5 ws hs'
  rw [g1] at e6
  rw [g3] at e7
  cases e6
  cases e7
  subst e1 e3
  exact ⟨same_upd e2, .tup (.inl (.inl (mask_some.mpr ⟨hd.new e2, upd_same⟩))) (.cons ((g2.mono s).mono (mask_same (same_upd e2))) (.cons ((g4.mono s).mono (mask_same (same_upd e2))) .nil))⟩
theorem walks_zipT (h : SqT K B a vs) (r : RepA K B vs ds) (h' : SqT K B a' ws) (r' : RepA K B ws es) : Walks K B ((ds.zip es).map fun p => .tup [p.1, p.2]) (RZ.ItzT K a a') := by
  intro i A H s hd
  have hs := same_seqT (s.trans (mask_le A H)) h
  have hs' := same_seqT (s.trans (mask_le A H)) h'
  refine ⟨fun d e => ?_, fun hl => ⟨vs, ws, hs, hs', by rw [r.length, r'.length]; simp only [List.length_map, List.length_zip] at hl; omega⟩⟩
  obtain ⟨x, y, h1, h2, rfl⟩ := zip_get e
  obtain ⟨v, g1, g2⟩ := r.get h1
  obtain ⟨w, g3, g4⟩ := r'.get h2
  refine ⟨⟨vs, ws, v, w, hs, hs', g1, g3⟩, fun z H' ⟨T, x', y', e1, e2, e3, e4, e5⟩ => ?_⟩
  have e6 := e4 vs hs
  have e7 := e5 ws hs'
  rw [g1] at e6
  rw [g3] at e7
  cases e6
  cases e7
  subst e1 e3
  exact ⟨same_upd e2, .tup (.inl (.inl (mask_some.mpr ⟨hd.new e2, upd_same⟩))) (.cons ((g2.mono s).mono (mask_same (same_upd e2))) (.cons ((g4.mono s).mono (mask_same (same_upd e2))) .nil))⟩
end
theorem PI.or {t t' : TI} (h : PI X tg e t) (h' : PI X tg e t') : PI X tg e (fun σ H R => t σ H R ∨ t' σ H R) := ⟨fun pins s σ H R I w => w.elim (h.run pins s σ H R I) (h'.run pins s σ H R I)⟩
/-- the items of a list, a tuple, a text -/
def itemsD : D → Option (List D)
  | .str z => some (charsD z)
  | d => seqOf d
theorem vi_ex (he : PE X e (rdE X.K fa)) : PI X tg e (rdI X.K fun E => (fa E).bind itemsD) := by
  refine pi_imp (PI.or (pi_list he) (PI.or (pi_tup he) (pi_str he))) ?_
  rintro σ H R ⟨L, A, E, ds, er, h, k⟩
  obtain ⟨d, h1, h2⟩ := Option.bind_eq_some_iff.mp h
  cases d with
  | lst xs =>
    cases h2
    refine .inl ⟨L, A, E, _, er, h1, fun v H1 s1 r1 => ?_⟩
    cases r1 with
    | lst h3 r => exact ⟨_, rfl, ⟨_, .inl (.inl (mask_some.mp h3).2)⟩, k _ H1 s1 (walks_list (.inl (.inl h3)) r)⟩
  | fls xs =>
    cases h2
    refine .inl ⟨L, A, E, _, er, h1, fun v H1 s1 r1 => ?_⟩
    cases r1 with
    | fls h3 r => exact ⟨_, rfl, ⟨_, (mask_le _ _).seq h3⟩, k _ H1 s1 (walks_list h3 r)⟩
  | tup xs =>
    cases h2
    refine .inr (.inl ⟨L, A, E, _, er, h1, fun v H1 s1 r1 => ?_⟩)
    cases r1 with
    | tup h3 r => exact ⟨_, rfl, ⟨_, same_seqT (mask_le _ _) h3⟩, k _ H1 s1 (walks_tup h3 r)⟩
  | str z =>
    cases h2
    refine .inr (.inr ⟨L, A, E, _, er, h1, fun v H1 s1 r1 => ?_⟩)
    cases r1
    exact ⟨z, rfl, k _ H1 s1 (walks_str z)⟩
  | _ => cases h2
/-! range, zip, enumerate, reversed as what is walked -/
def small62 (i : Int) : Bool := decide (-4611686018427387904 ≤ i) && decide (i < 4611686018427387904)
def rng1 (E : List D) : Option (List D) := match E with
  | [.int j] => if small62 j then some ((List.range j.toNat).map fun i => .int (0 + (i : Nat))) else none
  | _ => none
def rng2 (E : List D) : Option (List D) := match E with
  | [.int i, .int j] => if small62 i && small62 j then some ((List.range (j - i).toNat).map fun k => .int (i + (k : Nat))) else none
  | _ => none
def rng3 (E : List D) : Option (List D) := match E with
  | [.int i, .int j, .int c] => if small62 i && small62 j && decide (c = -1) then some ((List.range (i - j).toNat).map fun k => .int (i + (k : Nat) * -1)) else none
  | _ => none
def revI (E : List D) : Option (List D) := match E with
  | [d] => (lisOf d).map List.reverse
  | _ => none
def enumI (E : List D) : Option (List D) := match E with
  | [d] => (lisOf d).map fun ds => ds.zipIdx.map fun p => .tup [.int (p.2 : Nat), p.1]
  | _ => none
def zipI (E : List D) : Option (List D) := match E with
  | [.tup xs, .tup ys] => some ((xs.zip ys).map fun p => .tup [p.1, p.2])
  | [d, e] => (lisOf d).bind fun xs => (lisOf e).map fun ys => (xs.zip ys).map fun p => .tup [p.1, p.2]
  | _ => none
inductive IFn where
  | rng1 | rng2 | rng3 | rev | enum | zip
  deriving DecidableEq
def IFn.name : IFn → Str
  | .rng1 => "range" | .rng2 => "range" | .rng3 => "range" | .rev => "reversed" | .enum => "enumerate" | .zip => "zip"
def IFn.ar : IFn → Nat
  | .rng1 => 1 | .rng2 => 2 | .rng3 => 3 | .rev => 1 | .enum => 1 | .zip => 2
def IFn.tup : IFn → Bool
  | .enum => true | .zip => true | _ => false
def ifD : IFn → List D → Option (List D)
  | .rng1 => Vp.rng1 | .rng2 => Vp.rng2 | .rng3 => Vp.rng3 | .rev => revI | .enum => enumI | .zip => zipI
theorem small62_ok {i : Int} (h : small62 i = true) : -(2 ^ 62) ≤ i ∧ i < 2 ^ 62 := by
  unfold small62 at h
  rw [Bool.and_eq_true, decide_eq_true_eq, decide_eq_true_eq] at h
  exact ⟨by have := h.1; omega, by have := h.2; omega⟩
def isTup : Expr → Bool
  | .Tuple _ _ _ => true
  | _ => false
theorem lisS_rep {K : PySem.W.Frag} {B : Hp} {x : V} {d : D} {ds : List D} (r : Rep K B x d) (h : lisOf d = some ds) : ∃ a vs, x = .ref a ∧ SqL K B a vs ∧ RepA K B vs ds := by
  cases r <;> simp only [lisOf] at h <;> try (cases h; done)
  · rename_i h1 r
    cases h
    exact ⟨_, _, rfl, .inl (.inl h1), r⟩
  · rename_i h1 r
    cases h
    exact ⟨_, _, rfl, h1, r⟩
theorem len_two {α : Type} {l : List α} (h : l.length = 2) : ∃ a b, l = [a, b] := by
  match l, h with
  | [a, b], _ => exact ⟨a, b, rfl⟩
theorem len_three {α : Type} {l : List α} (h : l.length = 3) : ∃ a b c, l = [a, b, c] := by
  match l, h with
  | [a, b, c], _ => exact ⟨a, b, c, rfl⟩
theorem vi_fn (f : IFn) (hg : Gl X f.name) (hm : X.mg f.name = none) (ha : PA X es (rdA X.K fs)) (hst : es.all notStar = true) (hl : es.length = f.ar) (ht : f.tup = true → isTup tg = true) :
    PI X tg (.Call (.Name f.name p) es [] pos) (rdI X.K (apA (ifD f) fs)) := by
  cases f with
  | rng1 =>
    obtain ⟨a, rfl⟩ : ∃ a, es = [a] := List.length_eq_one_iff.mp hl
    refine pi_imp (pi_range1 hg hm ha (star_map hst)) ?_
    rintro σ H R ⟨L, A, E, ds, er, h, k⟩
    obtain ⟨xs, h1, h2⟩ := Option.bind_eq_some_iff.mp h
    refine ⟨L, A, E, xs, er, h1, fun vs H1 s1 r1 => ?_⟩
    simp only [ifD, rng1] at h2
    split at h2
    · obtain ⟨h3, rfl⟩ := if_some h2
      obtain ⟨v, rfl, rv⟩ := r1.inv1
      cases rv
      have q := small62_ok h3
      exact ⟨_, rfl, q.1, q.2, k _ H1 s1 (walks_range 0 _)⟩
    · cases h2
  | rng2 =>
    obtain ⟨a, b, rfl⟩ : ∃ a b, es = [a, b] := len_two hl
    rw [List.all_cons, Bool.and_eq_true] at hst
    refine pi_imp (pi_range2 hg hm ha (star_map (by rw [List.all_cons, Bool.and_eq_true]; exact hst)) (star_map hst.2)) ?_
    rintro σ H R ⟨L, A, E, ds, er, h, k⟩
    obtain ⟨xs, h1, h2⟩ := Option.bind_eq_some_iff.mp h
    refine ⟨L, A, E, xs, er, h1, fun vs H1 s1 r1 => ?_⟩
    simp only [ifD, rng2] at h2
    split at h2
    · obtain ⟨h3, rfl⟩ := if_some h2
      rw [Bool.and_eq_true] at h3
      obtain ⟨v, w, rfl, rv, rw'⟩ := r1.inv2
      cases rv
      cases rw'
      have q := small62_ok h3.1
      have q' := small62_ok h3.2
      exact ⟨_, _, rfl, ⟨q.1, q.2, q'.1, q'.2⟩, k _ H1 s1 (walks_range _ _)⟩
    · cases h2
  | rng3 =>
    obtain ⟨a, b, c, rfl⟩ : ∃ a b c, es = [a, b, c] := len_three hl
    rw [List.all_cons, Bool.and_eq_true] at hst
    refine pi_imp (pi_range3 hg hm ha (star_cons hst.1) (back_plain hst.2)) ?_
    rintro σ H R ⟨L, A, E, ds, er, h, k⟩
    obtain ⟨xs, h1, h2⟩ := Option.bind_eq_some_iff.mp h
    refine ⟨L, A, E, xs, er, h1, fun vs H1 s1 r1 => ?_⟩
    simp only [ifD, rng3] at h2
    split at h2
    · obtain ⟨h3, rfl⟩ := if_some h2
      rw [Bool.and_eq_true, Bool.and_eq_true, decide_eq_true_eq] at h3
      obtain ⟨⟨g1, g2⟩, rfl⟩ := h3
      cases r1 with
      | cons rv r1 =>
        obtain ⟨w, z, rfl, rw', rz⟩ := r1.inv2
        cases rv
        cases rw'
        cases rz
        have q := small62_ok g1
        have q' := small62_ok g2
        exact ⟨_, _, _, _, rfl, RgC.neg q.1 q.2 q'.1 q'.2, k _ H1 s1 (walks_rangeC _ _ _)⟩
    · cases h2
  | rev =>
    obtain ⟨a, rfl⟩ : ∃ a, es = [a] := List.length_eq_one_iff.mp hl
    refine pi_imp (pi_reversed hg hm ha (star_map hst)) ?_
    rintro σ H R ⟨L, A, E, ds, er, h, k⟩
    obtain ⟨xs, h1, h2⟩ := Option.bind_eq_some_iff.mp h
    refine ⟨L, A, E, xs, er, h1, fun vs H1 s1 r1 => ?_⟩
    simp only [ifD, revI] at h2
    split at h2
    · obtain ⟨v, rfl, rv⟩ := r1.inv1
      obtain ⟨zs, h3, rfl⟩ := Option.map_eq_some_iff.mp h2
      obtain ⟨a, ws, rfl, h4, h5⟩ := lisS_rep rv h3
      exact ⟨a, ws, rfl, (mask_le _ _).seq h4, k _ H1 s1 (walks_rev h4 h5)⟩
    · cases h2
  | enum =>
    obtain ⟨a, rfl⟩ : ∃ a, es = [a] := List.length_eq_one_iff.mp hl
    cases tg <;> try (cases ht rfl; done)
    refine pi_imp (pi_enum hg hm ha (star_map hst)) ?_
    rintro σ H R ⟨L, A, E, ds, er, h, k⟩
    obtain ⟨xs, h1, h2⟩ := Option.bind_eq_some_iff.mp h
    refine ⟨L, A, E, xs, er, h1, fun vs H1 s1 r1 => ?_⟩
    simp only [ifD, enumI] at h2
    split at h2
    · obtain ⟨v, rfl, rv⟩ := r1.inv1
      obtain ⟨zs, h3, rfl⟩ := Option.map_eq_some_iff.mp h2
      obtain ⟨a, ws, rfl, h4, h5⟩ := lisS_rep rv h3
      exact ⟨a, ws, rfl, (mask_le _ _).seq h4, k _ H1 s1 (walks_enum h4 h5)⟩
    · cases h2
  | zip =>
    obtain ⟨a, b, rfl⟩ : ∃ a b, es = [a, b] := len_two hl
    cases tg <;> try (cases ht rfl; done)
    rw [List.all_cons, Bool.and_eq_true] at hst
    refine pi_imp (RZ.pi_zipA hg hm ha (star_cons hst.1) (back_plain hst.2)) ?_
    rintro σ H R ⟨L, A, E, ds, er, h, k⟩
    obtain ⟨xs, h1, h2⟩ := Option.bind_eq_some_iff.mp h
    refine ⟨L, A, E, xs, er, h1, fun vs H1 s1 r1 => ?_⟩
    simp only [ifD, zipI] at h2
    split at h2
    · cases h2
      obtain ⟨v, w, rfl, rv, rw'⟩ := r1.inv2
      cases rv with
      | tup g1 g2 =>
        cases rw' with
        | tup g3 g4 => exact ⟨_, _, _, _, rfl, .inr ⟨same_seqT (mask_le _ _) g1, same_seqT (mask_le _ _) g3, k _ H1 s1 (walks_zipT g1 g2 g3 g4)⟩⟩
    · obtain ⟨v, w, rfl, rv, rw'⟩ := r1.inv2
      obtain ⟨us, h3, h4⟩ := Option.bind_eq_some_iff.mp h2
      obtain ⟨zs, h5, rfl⟩ := Option.map_eq_some_iff.mp h4
      obtain ⟨a, vs1, rfl, g1, g2⟩ := lisS_rep rv h3
      obtain ⟨b, vs2, rfl, g3, g4⟩ := lisS_rep rw' h5
      exact ⟨_, _, _, _, rfl, .inl ⟨(mask_le _ _).seq g1, (mask_le _ _).seq g3, k _ H1 s1 (walks_zip g1 g2 g3 g4)⟩⟩
    · cases h2

/-! ### list comprehensions -/
/-- the loop of a comprehension: each item stored from the same frame, the test, the element -/
def compL (t : Tg) (ft : Env' → Option Bool) (fe : Env' → Option D) (E : Env') : List D → Option (List D)
  | [] => some []
  | d :: r => (asgT t d E).bind fun E1 => (ft E1).bind fun c => if c = true then (fe E1).bind fun y => (compL t ft fe E r).map (y :: ·) else compL t ft fe E r
def compD (own : List Nat) (t : Tg) (ft : Env' → Option Bool) (fe : Env' → Option D) (fi : Env' → Option (List D)) (E : Env') : Option (List D) :=
  (fi E).bind fun ds => if ds.length ≤ lineN then compL t ft fe (wipeE E own) ds else none
theorem wipe_get {σ : L2.St} {j : Nat} : ∀ {vs : List Nat}, j ∉ vs → (L2.wipe σ vs)[j]? = σ[j]?
  | [], _ => rfl
  | v :: vs, h => by
    unfold L2.wipe
    rw [List.getElem?_set_ne (fun z => h (by rw [z]; exact List.mem_cons_self)), wipe_get fun z => h (List.mem_cons_of_mem _ z)]
theorem wipe_in {σ : L2.St} {j : Nat} (hj : j < σ.length) : ∀ {vs : List Nat}, j ∈ vs → (L2.wipe σ vs)[j]? = some none
  | v :: vs, h => by
    unfold L2.wipe
    by_cases e : v = j
    · subst e
      exact List.getElem?_set_self (by rw [wipe_length]; exact hj)
    · rw [List.getElem?_set_ne e]
      exact wipe_in hj ((List.mem_cons.mp h).resolve_left fun z => e z.symm)
theorem wipe_keep {σ σ' : L2.St} {is vs : List Nat} (k : Keep is (L2.wipe σ vs) σ') (h : ∀ i ∈ is, i ∈ vs) : L2.wipe σ' vs = L2.wipe σ vs := by
  apply List.ext_getElem?
  intro j
  have hl : σ'.length = σ.length := k.1.trans (wipe_length _ _)
  by_cases hj : j ∈ vs
  · by_cases hlt : j < σ.length
    · rw [wipe_in (by rw [hl]; exact hlt) hj, wipe_in hlt hj]
    · rw [List.getElem?_eq_none (by rw [wipe_length]; omega), List.getElem?_eq_none (by rw [wipe_length]; omega)]
  · rw [wipe_get hj, k.2 j fun z => hj (h j z)]
theorem compL_len {t : Tg} {ft : Env' → Option Bool} {fe : Env' → Option D} {E : Env'} : ∀ {ds rs : List D}, compL t ft fe E ds = some rs → rs.length ≤ ds.length
  | [], rs, h => by
    simp only [compL] at h
    cases h
    exact Nat.le_refl _
  | d :: ds, rs, h => by
    simp only [compL] at h
    obtain ⟨E1, h1, h⟩ := Option.bind_eq_some_iff.mp h
    obtain ⟨c, h2, h⟩ := Option.bind_eq_some_iff.mp h
    split at h
    · obtain ⟨y, h3, h⟩ := Option.bind_eq_some_iff.mp h
      obtain ⟨r, h4, rfl⟩ := Option.map_eq_some_iff.mp h
      have := compL_len h4
      simp only [List.length_cons]
      omega
    · have := compL_len h
      simp only [List.length_cons]
      omega
theorem rd_lc {own : List Nat} {t : Tg} {ft : Env' → Option Bool} {fe : Env' → Option D} {fi : Env' → Option (List D)} {K : PySem.W.Frag} (ho : ∀ i ∈ tgS t, i ∈ own) :
    ∀ σ H Q, rdO K (compD own t ft fe fi) σ H Q → tLc (rdI K fi) (rdG K t) (rdT K ft) (rdE K fe) own σ H Q := by
  rintro σ H Q ⟨L, A, E, rs, er, h, k⟩
  obtain ⟨ds, h1, h2⟩ := Option.bind_eq_some_iff.mp h
  obtain ⟨hlen, h2⟩ : ds.length ≤ lineN ∧ compL t ft fe (wipeE E own) ds = some rs := by
    split at h2
    · exact ⟨by assumption, h2⟩
    · cases h2
  refine ⟨L, A, E, ds, er, h1, fun J H1 s1 wk D hD => ?_⟩
  have er1 := er.mono s1
  refine ⟨fun i m H2 => m = ds.length - i ∧ i ≤ ds.length ∧ Same H1 H2 ∧ ∃ accV acc rest, H2 D = some (.lst accV) ∧ RepA K (mask (D :: A) H2) accV acc ∧ acc.length ≤ i ∧ compL t ft fe (wipeE E own) (ds.drop i) = some rest ∧ acc ++ rest = rs,
    ⟨ds.length, by omega, Nat.zero_le _, same_upd hD, [], [], rs, upd_same, .nil, Nat.zero_le _, h2, rfl⟩, ?_⟩
  rintro i m H2 ⟨rfl, hi, s2, accV, acc, rest, hacc, racc, hal, hrest, happ⟩
  have erD : ER K L (D :: A) (L2.wipe σ own) H2 (wipeE E own) := (er1.more s2 hD (by rw [hacc]; simp)).wipe own
  obtain ⟨w1, w2⟩ := wk i (D :: A) H2 (mask_new s2 hD) erD.dom
  by_cases hlt : i < ds.length
  · have hd : ds[i]? = some ds[i] := List.getElem?_eq_getElem hlt
    obtain ⟨g1, g2⟩ := w1 _ hd
    rw [List.drop_eq_getElem_cons hlt] at hrest
    simp only [compL] at hrest
    obtain ⟨E1, h3, hrest⟩ := Option.bind_eq_some_iff.mp hrest
    obtain ⟨c, h4, hrest⟩ := Option.bind_eq_some_iff.mp hrest
    refine .inr ⟨g1, fun H' => i + 1 ≤ ds.length ∧ Same H1 H' ∧ ∃ accV acc rest, H' D = some (.lst accV) ∧ RepA K (mask (D :: A) H') accV acc ∧ acc.length ≤ i + 1 ∧ compL t ft fe (wipeE E own) (ds.drop (i + 1)) = some rest ∧ acc ++ rest = rs,
      fun H' hn => ⟨ds.length - (i + 1), by omega, rfl, hn⟩, fun x H3 hy => ?_⟩
    obtain ⟨s3, rx⟩ := g2 x H3 hy
    refine ⟨L, D :: A, wipeE E own, ds[i], E1, erD.mono s3, rx, h3, fun σ2 er2 hk => ⟨wipe_keep hk ho, ?_⟩⟩
    refine ⟨L, D :: A, E1, c, er2, h4, fun H4 s4 => ?_⟩
    cases c with
    | true =>
      simp only [if_true] at hrest ⊢
      obtain ⟨y, h5, hrest⟩ := Option.bind_eq_some_iff.mp hrest
      obtain ⟨rest', h6, rfl⟩ := Option.map_eq_some_iff.mp hrest
      refine ⟨L, D :: A, E1, y, er2.mono s4, h5, fun v H5 s5 r5 => ?_⟩
      have s25 : Same H2 H5 := (s3.trans s4).trans s5
      have hD5 : H5 D = some (.lst accV) := s25 _ _ hacc
      have nD : D ∈ D :: A := List.mem_cons_self
      refine ⟨accV, hD5, ?_, by omega, ?_, accV ++ [v], acc ++ [y], rest', upd_same, ?_, ?_, h6, by rw [List.append_assoc]; exact happ⟩
      · rw [racc.length, sizeLine_eq]
        have : lineN = 16777216 := rfl
        omega
      · intro b o e
        have hb : b ≠ D := ne_of_none e hD
        rw [upd_ne hb]
        exact s25 _ _ (s2 _ _ e)
      · rw [mask_upd nD]
        exact (racc.mono (mask_same s25)).append (.one r5)
      · rw [List.length_append]
        simp
        omega
    | false =>
      simp only [Bool.false_eq_true, if_false] at hrest ⊢
      have s24 : Same H2 H4 := s3.trans s4
      exact ⟨by omega, s2.trans s24, accV, acc, rest, s24 _ _ hacc, racc.mono (mask_same s24), by omega, hrest, happ⟩
  · have e : i = ds.length := by omega
    subst e
    rw [List.drop_length] at hrest
    simp only [compL] at hrest
    cases hrest
    rw [List.append_nil] at happ
    subst happ
    refine .inl ⟨w2 (Nat.le_refl _), k D accV H2 (s1.trans s2) (s1.free hD) hacc racc⟩
theorem vp_comp {elt tg iter : Expr} {ifs : List Expr} {scope : Scope} {own : List (Str × Nat)} {t : Tg} {ft : Env' → Option Bool} {fe : Env' → Option D} {fi : Env' → Option (List D)} (hc : X.calm = true) (hN : X.N.Nodup) (hi : PI X tg iter (rdI X.K fi)) (ok : BlkOk X.N X.env.scope scope own)
    (hg : ∀ (s : Shared) (H : Hp) (C : Addr) (cl : List (Str × Addr)) (fp : List Addr), PG (X.blk s H scope (compEnvC scope cl C X.env) fp) tg (rdG X.K t)) (ht : ∀ (s : Shared) (H : Hp) (C : Addr) (cl : List (Str × Addr)) (fp : List Addr), PTs (X.blk s H scope (compEnvC scope cl C X.env) fp) ifs (rdT X.K ft))
    (he : ∀ (s : Shared) (H : Hp) (C : Addr) (cl : List (Str × Addr)) (fp : List Addr), PE (X.blk s H scope (compEnvC scope cl C X.env) fp) elt (rdE X.K fe)) (hs : ∀ x, foldedSetIterable iter X.env x = pure x) (ho : ∀ i ∈ tgS t, i ∈ own.map (·.2)) :
    PE X (.ListComp elt [⟨tg, iter, ifs, 0⟩] scope pos) (rdO X.K (compD (own.map (·.2)) t ft fe fi)) := pe_imp (pe_lc hc hN hi ok hg ht he hs) (rd_lc ho)
theorem pts_imp {ifs : List Expr} {t t' : TT} (h : PTs X ifs t) (i : ∀ σ H Q, t' σ H Q → t σ H Q) : PTs X ifs t' := ⟨fun pins s σ H Q I w => h.run pins s σ H Q I (i _ _ _ w)⟩
theorem vts_nil : PTs X [] (rdT X.K fun _ => some true) := by
  refine pts_imp pts_nil ?_
  rintro σ H Q ⟨L, A, E, b, er, h, k⟩
  cases h
  exact k H (Same.refl H)
theorem vts_one {ft : Env' → Option Bool} (h : PT X c (rdT X.K ft)) : PTs X [c] (rdT X.K ft) := pts_one h
def isSet : Expr → Bool
  | .Set _ _ _ => true
  | _ => false
theorem noset {env : Env} (h : isSet e = false) : ∀ x, foldedSetIterable e env x = pure x := by
  intro x
  cases e <;> first | rfl | cases h
end
end Vp

end

section
set_option Elab.async false
set_option linter.all false
set_option autoImplicit false
set_option maxRecDepth 100000
/-! Vp5: expressions as a small tree, their value on data, the check against the text, and that the check is enough. -/
namespace Vp
open PySem PySem.Spec PyProof.Rows L2

mutual
inductive Ex where
  | non | bl (b : Bool) | int (i : Int) | str (s : Str)
  | glo (n : Nat)
  | loc (i : Nat)
  | bin (o : BOp) (a b : Ex)
  | neg (a : Ex)
  | nott (a : Ex)
  | bool (o : BoolOp) (xs : Exs)
  | cmp (o : CmpOp) (a b : Ex)
  | chain (o o' : CmpOp) (a b c : Ex)
  | ife (t a b : Ex)
  | tup (xs : Exs)
  | sub (a i : Ex)
  | subO (n : Nat) (i : Ex)
  | lenO (n : Nat)
  | inO (neg : Bool) (n : Nat) (a : Ex)
  | sl (a : Ex) (lo hi : Opt)
  | call (f : Nat) (xs : Exs)
  | bf (b : BF) (xs : Exs)
  | gcd (xs : Exs)
  | isi (T : TyN) (a : Ex)
  | bits (a : Ex)
  | lis (l : Lx)
  | dic (ps : Prs)
inductive Prs where
  | nil | cons (k v : Ex) (r : Prs)
inductive Exs where
  | nil | cons (a : Ex) (r : Exs)
inductive Opt where
  | no | yes (a : Ex)
inductive Lx where
  | lst (xs : Exs)
  | bin (o : BOp) (a b : Ex)
  | sl (a : Ex) (lo hi : Opt)
  | rev (a : Ex)
  | bo (b : BO) (xs : Exs)
  | comp (own : List Nat) (t : Tg) (elt : Ex) (c : Opt) (it : Ix)
inductive Ix where
  | ex (a : Ex)
  | fn (f : IFn) (xs : Exs)
end

def negD : D → Option D
  | .int i => some (.int (-i))
  | _ => none
def chainD (o o' : CmpOp) (fa fb fc : Env' → Option D) (E : Env') : Option D :=
  (fa E).bind fun x => (fb E).bind fun y => (cmpD o x y).bind fun c => if c = true then (fc E).bind fun z => blD (cmpD o' y z) else some (.bl false)

section
variable (cf : Nat → List D → Option D) (gl : Nat → Option D)
mutual
def ev : Ex → Env' → Option D
  | .non => fun _ => some .non
  | .bl b => fun _ => some (.bl b)
  | .int i => fun _ => some (.int i)
  | .str s => fun _ => some (.str s)
  | .glo n => fun _ => gl n
  | .loc i => look i
  | .bin o a b => ap2 (binD o) (ev a) (ev b)
  | .neg a => ap1 negD (ev a)
  | .nott a => notV (ev a)
  | .bool o xs => evB o xs
  | .cmp o a b => ap2 (fun x y => blD (cmpD o x y)) (ev a) (ev b)
  | .chain o o' a b c => chainD o o' (ev a) (ev b) (ev c)
  | .ife t a b => ifV (tev t) (ev a) (ev b)
  | .tup xs => fun E => ((evs xs E).bind short).map .tup
  | .sub a i => ap2 ixD (ev a) (ev i)
  | .subO n i => ixOwn n (ev i)
  | .lenO n => lenOwn n
  | .inO neg n a => inOwn neg n (ev a)
  | .sl a lo hi => ap3 slD (ev a) (partD (evP lo)) (partD (evP hi))
  | .call f xs => apA (cf f) (evs xs)
  | .bf b xs => apA (bfD b) (evs xs)
  | .gcd xs => apA gcdD (evs xs)
  | .isi T a => isiD T (ev a)
  | .bits a => bitsD (ev a)
  | .lis l => fun E => (evL l E).map .lst
  | .dic ps => dicD (evKs ps) (evVs ps)
def evKs : Prs → List (Env' → Option D)
  | .nil => []
  | .cons k _ r => ev k :: evKs r
def evVs : Prs → List (Env' → Option D)
  | .nil => []
  | .cons _ v r => ev v :: evVs r
/-- and, or of truth values -/
def evB (o : BoolOp) : Exs → Env' → Option D
  | .nil => fun _ => none
  | .cons a r => match r with
    | .nil => ev a
    | .cons _ _ => match o with
      | .And => andV (ev a) (evB o r)
      | .Or => orV (ev a) (evB o r)
def evs : Exs → Env' → Option (List D)
  | .nil => fun _ => some []
  | .cons a r => consA (ev a) (evs r)
def evP : Opt → Option (Env' → Option D)
  | .no => none
  | .yes a => some (ev a)
def evC : Opt → Env' → Option Bool
  | .no => fun _ => some true
  | .yes a => tev a
def evL : Lx → Env' → Option (List D)
  | .lst xs => fun E => (evs xs E).bind short
  | .bin o a b => ap2o (binO o) (ev a) (ev b)
  | .sl a lo hi => ap3 slO (ev a) (partD (evP lo)) (partD (evP hi))
  | .rev a => revD (ev a)
  | .bo b xs => apA (bfO b) (evs xs)
  | .comp own t elt c it => compD own t (evC c) (ev elt) (evI it)
def evI : Ix → Env' → Option (List D)
  | .ex a => fun E => (ev a E).bind itemsD
  | .fn f xs => apA (ifD f) (evs xs)
/-- as a test -/
def tev : Ex → Env' → Option Bool
  | .nott a => notB (tev a)
  | .bool o xs => tevB o xs
  | .cmp o a b => fun E => (ap2 (fun x y => blD (cmpD o x y)) (ev a) (ev b) E).bind toB
  | .chain o o' a b c => fun E => (chainD o o' (ev a) (ev b) (ev c) E).bind toB
  | .non => fun _ => some false
  | .bl b => fun _ => some b
  | .int i => fun _ => some (i != 0)
  | .str s => fun _ => truD (.str s)
  | .glo n => fun _ => (gl n).bind truD
  | .loc i => fun E => (look i E).bind truD
  | .bin o a b => fun E => (ap2 (binD o) (ev a) (ev b) E).bind truD
  | .neg a => fun E => (ap1 negD (ev a) E).bind truD
  | .ife _ _ _ => fun _ => none
  | .tup xs => fun E => (((evs xs E).bind short).map D.tup).bind truD
  | .sub a i => fun E => (ap2 ixD (ev a) (ev i) E).bind truD
  | .subO n i => fun E => (ixOwn n (ev i) E).bind truD
  | .lenO n => fun E => (lenOwn n E).bind truD
  | .inO neg n a => fun E => (inOwn neg n (ev a) E).bind toB
  | .sl a lo hi => fun E => (ap3 slD (ev a) (partD (evP lo)) (partD (evP hi)) E).bind truD
  | .call f xs => fun E => (apA (cf f) (evs xs) E).bind truD
  | .bf b xs => fun E => (apA (bfD b) (evs xs) E).bind truD
  | .gcd xs => fun E => (apA gcdD (evs xs) E).bind truD
  | .isi T a => fun E => (isiD T (ev a) E).bind truD
  | .bits a => fun E => (bitsD (ev a) E).bind truD
  | .lis l => fun E => ((evL l E).map D.lst).bind truD
  | .dic ps => fun E => (dicD (evKs ps) (evVs ps) E).bind truD
def tevB (o : BoolOp) : Exs → Env' → Option Bool
  | .nil => fun _ => none
  | .cons a r => match r with
    | .nil => tev a
    | .cons _ _ => match o with
      | .And => andB (tev a) (tevB o r)
      | .Or => orB (tev a) (tevB o r)
end
end

/-! ### the check against the text -/
structure Ctx where
  N : List Str
  sc : Scope
  fn : Str → Bool
  fns : List (Nat × Str)
  gls : List (Nat × Str)
  frees : List Str
  gcd : Bool
def Ctx.blk (S : Ctx) (scope : Scope) : Ctx := { S with sc := relS scope S.sc, fn := fun x => scope.names.lookup x == some .cell }
def visB (S : Ctx) (x : Str) : Bool := match S.sc.names.lookup x with
  | some .local => true
  | some .cell => true
  | some .free => true
  | _ => false
def locB (S : Ctx) (x : Str) : Bool := match S.sc.names.lookup x with
  | some .local => true
  | some .cell => S.fn x
  | _ => false
def glB (S : Ctx) (x : Str) : Bool := (S.sc.names.lookup x == some .globalImplicit) && !(x == ("__debug__" : Str))
def nmB (S : Ctx) (i : Nat) (x : Str) : Bool := decide (S.N[i]? = some x) && (visB S x && (!(x == ("__debug__" : Str)) && !(x == ("__classdict__" : Str))))
def freeB (S : Ctx) (x : Str) : Bool := glB S x && decide (x ∈ S.frees)
def notCall0 : Expr → Bool
  | .Call _ [] [] _ => false
  | _ => true
def plainB : Expr → Bool
  | .Slice _ _ _ _ => false
  | _ => true
def ownP (S : Ctx) (own : List Nat) : List (Str × Nat) := own.filterMap fun i => (S.N[i]?).map fun x => (x, i)
def ownB (S : Ctx) (scope : Scope) (own : List Nat) : Bool := decide ((ownP S own).map (·.2) = own) && blkC S.N S.sc scope (ownP S own)
mutual
def tgB : Tg → Ctx → Expr → Bool
  | .nm i, S, e => match e with
    | .Name x _ => decide (S.N[i]? = some x) && locB S x
    | _ => false
  | .tp ts, S, e => match e with
    | .Tuple es _ _ => tgsB ts S es
    | _ => false
def tgsB : List Tg → Ctx → List Expr → Bool
  | [], _, es => match es with
    | [] => true
    | _ :: _ => false
  | t :: ts, S, es => match es with
    | e :: es => tgB t S e && (notStar e && tgsB ts S es)
    | [] => false
end
def isName (x : Str) : Expr → Bool
  | .Name y _ => decide (y = x)
  | _ => false
def nonB (e : Expr) : Bool := match e with
  | .Constant .none _ _ => true
  | _ => false
def blB (b : Bool) (e : Expr) : Bool := match e with
  | .Constant (.bool c) _ _ => b == c
  | _ => false
def intB (i : Int) (e : Expr) : Bool := match e with
  | .Constant (.int j) _ _ => decide (i = j)
  | _ => false
def strB (x : Str) (e : Expr) : Bool := match e with
  | .Constant (.str y) _ _ => decide (x = y)
  | _ => false
def gloB (n : Nat) (S : Ctx) (e : Expr) : Bool := match e with
  | .Name x _ => glB S x && decide (S.gls.lookup n = some x)
  | _ => false
def nmE (i : Nat) (S : Ctx) (e : Expr) : Bool := match e with
  | .Name x _ => nmB S i x
  | _ => false
def lenOB (n : Nat) (S : Ctx) (e : Expr) : Bool := match e with
  | .Call (.Name f _) [.Name x _] [] _ => decide (f = "len") && (freeB S "len" && nmB S n x)
  | _ => false
mutual
def chE : Ex → Ctx → Expr → Bool
  | .non, _, e => nonB e
  | .bl b, _, e => blB b e
  | .int i, _, e => intB i e
  | .str x, _, e => strB x e
  | .glo n, S, e => gloB n S e
  | .loc i, S, e => nmE i S e
  | .bin o a b, S, e => match e with
    | .BinOp l op r _ => decide (op = o.op) && (chE a S l && chE b S r)
    | _ => false
  | .neg a, S, e => match e with
    | .UnaryOp .USub l _ => chE a S l
    | _ => false
  | .nott a, S, e => match e with
    | .UnaryOp .Not l _ => chE a S l
    | _ => false
  | .bool o xs, S, e => match e with
    | .BoolOp op es _ => decide (op = o) && chB xs S es
    | _ => false
  | .cmp o a b, S, e => match e with
    | .Compare l [op] [r] _ => decide (op = o) && (chE a S l && (chE b S r && !isSet r))
    | _ => false
  | .chain o o' a b c, S, e => match e with
    | .Compare l [op, op'] [m, r] _ => decide (op = o) && (decide (op' = o') && (chE a S l && (chE b S m && (chE c S r && !isSet r))))
    | _ => false
  | .ife t a b, S, e => match e with
    | .IfExp c l r _ => chT t S c && (chE a S l && chE b S r)
    | _ => false
  | .tup xs, S, e => match e with
    | .Tuple es _ _ => chA xs S es
    | _ => false
  | .sub a i, S, e => match e with
    | .Subscript l r _ => chE a S l && (chE i S r && plainB r)
    | _ => false
  | .subO n i, S, e => match e with
    | .Subscript (.Name x _) r _ => nmB S n x && (chE i S r && plainB r)
    | _ => false
  | .lenO n, S, e => lenOB n S e
  | .inO neg n a, S, e => match e with
    | .Compare l [op] [.Name x _] _ => decide (op = if neg = true then .NotIn else .In) && (chE a S l && nmB S n x)
    | _ => false
  | .sl a lo hi, S, e => match e with
    | .Subscript l (.Slice l1 l2 none _) _ => chE a S l && (chP lo S l1 && chP hi S l2)
    | _ => false
  | .call f xs, S, e => match e with
    | .Call (.Name x _) es [] _ => decide (S.fns.lookup f = some x) && (glB S x && chA xs S es)
    | _ => false
  | .bf b xs, S, e => match e with
    | .Call (.Name x _) (e1 :: es) [] _ => decide (x = b.name) && (freeB S b.name && chA xs S (e1 :: es))
    | _ => false
  | .gcd xs, S, e => match e with
    | .Call (.Name x _) (e1 :: es) [] _ => decide (x = "gcd") && (S.gcd && (glB S "gcd" && chA xs S (e1 :: es)))
    | _ => false
  | .isi T a, S, e => match e with
    | .Call (.Name x _) [e1, .Name y _] [] _ => decide (x = "isinstance") && (freeB S "isinstance" && (decide (y = T.n) && (freeB S T.n && (chE a S e1 && notStar e1))))
    | _ => false
  | .bits a, S, e => match e with
    | .Call (.Attribute o m apos) [] [] pos => decide (m = "bit_length") && (chE a S o && (notCall0 o && (apos.endLine == pos.line)))
    | _ => false
  | .lis l, S, e => chL l S e
  | .dic ps, S, e => match e with
    | .Dict keys values _ => chPs ps S keys values && (!keys.isEmpty && decide (keys.length ≤ 15))
    | _ => false
def chPs : Prs → Ctx → List (Option Expr) → List Expr → Bool
  | .nil, _, ks, vs => match ks, vs with
    | [], [] => true
    | _, _ => false
  | .cons k v r, S, ks, vs => match ks, vs with
    | some a :: ks, b :: vs => chE k S a && (chE v S b && chPs r S ks vs)
    | _, _ => false
def chB : Exs → Ctx → List Expr → Bool
  | .nil, _, _ => false
  | .cons a r, S, es => match r with
    | .nil => match es with
      | [e] => chE a S e
      | _ => false
    | .cons _ _ => match es with
      | e :: e2 :: es => chE a S e && chB r S (e2 :: es)
      | _ => false
def chA : Exs → Ctx → List Expr → Bool
  | .nil, _, es => match es with
    | [] => true
    | _ :: _ => false
  | .cons a r, S, es => match es with
    | e :: es => chE a S e && (notStar e && chA r S es)
    | [] => false
def chP : Opt → Ctx → Option Expr → Bool
  | .no, _, o => match o with
    | none => true
    | some _ => false
  | .yes a, S, o => match o with
    | some e => chE a S e
    | none => false
def chC : Opt → Ctx → List Expr → Bool
  | .no, _, es => match es with
    | [] => true
    | _ :: _ => false
  | .yes a, S, es => match es with
    | [e] => chT a S e
    | _ => false
def chL : Lx → Ctx → Expr → Bool
  | .lst xs, S, e => match e with
    | .List es _ => chA xs S es
    | _ => false
  | .bin o a b, S, e => match e with
    | .BinOp l op r _ => decide (op = o.op) && (chE a S l && chE b S r)
    | _ => false
  | .sl a lo hi, S, e => match e with
    | .Subscript l (.Slice l1 l2 none _) _ => chE a S l && (chP lo S l1 && chP hi S l2)
    | _ => false
  | .rev a, S, e => match e with
    | .Subscript l (.Slice none none (some (.UnaryOp .USub (.Constant (.int i) _ _) _)) _) _ => decide (i = 1) && chE a S l
    | _ => false
  | .bo b xs, S, e => match e with
    | .Call (.Name x _) (e1 :: es) [] _ => decide (x = b.name) && (freeB S b.name && chA xs S (e1 :: es))
    | _ => false
  | .comp own t elt c it, S, e => match e with
    | .ListComp el [⟨tg, iter, ifs, 0⟩] scope _ => ownB S scope own && (decide (∀ i ∈ tgS t, i ∈ own) && (tgB t (S.blk scope) tg && (chC c (S.blk scope) ifs && (chE elt (S.blk scope) el && (chI it S tg iter && !isSet iter)))))
    | _ => false
def chI : Ix → Ctx → Expr → Expr → Bool
  | .ex a, S, _, e => chE a S e
  | .fn f xs, S, tg, e => match e with
    | .Call (.Name x _) es [] _ => decide (x = f.name) && (freeB S f.name && (decide (es.length = f.ar) && (chA xs S es && (!f.tup || isTup tg))))
    | _ => false
def chT : Ex → Ctx → Expr → Bool
  | .nott a, S, e => match e with
    | .UnaryOp .Not l _ => chT a S l
    | _ => false
  | .bool o xs, S, e => match e with
    | .BoolOp op es _ => decide (op = o) && chTB xs S es
    | _ => false
  | .ife _ _ _, _, _ => false
  | .non, _, e => nonB e
  | .bl b, _, e => blB b e
  | .int i, _, e => intB i e
  | .str x, _, e => strB x e
  | .glo n, S, e => gloB n S e
  | .loc i, S, e => nmE i S e
  | .bin o a b, S, e => match e with
    | .BinOp l op r _ => decide (op = o.op) && (chE a S l && chE b S r)
    | _ => false
  | .neg a, S, e => match e with
    | .UnaryOp .USub l _ => chE a S l
    | _ => false
  | .cmp o a b, S, e => match e with
    | .Compare l [op] [r] _ => decide (op = o) && (chE a S l && (chE b S r && !isSet r))
    | _ => false
  | .chain o o' a b c, S, e => match e with
    | .Compare l [op, op'] [m, r] _ => decide (op = o) && (decide (op' = o') && (chE a S l && (chE b S m && (chE c S r && !isSet r))))
    | _ => false
  | .tup xs, S, e => match e with
    | .Tuple es _ _ => chA xs S es
    | _ => false
  | .sub a i, S, e => match e with
    | .Subscript l r _ => chE a S l && (chE i S r && plainB r)
    | _ => false
  | .subO n i, S, e => match e with
    | .Subscript (.Name x _) r _ => nmB S n x && (chE i S r && plainB r)
    | _ => false
  | .lenO n, S, e => lenOB n S e
  | .inO neg n a, S, e => match e with
    | .Compare l [op] [.Name x _] _ => decide (op = if neg = true then .NotIn else .In) && (chE a S l && nmB S n x)
    | _ => false
  | .sl a lo hi, S, e => match e with
    | .Subscript l (.Slice l1 l2 none _) _ => chE a S l && (chP lo S l1 && chP hi S l2)
    | _ => false
  | .call f xs, S, e => match e with
    | .Call (.Name x _) es [] _ => decide (S.fns.lookup f = some x) && (glB S x && chA xs S es)
    | _ => false
  | .bf b xs, S, e => match e with
    | .Call (.Name x _) (e1 :: es) [] _ => decide (x = b.name) && (freeB S b.name && chA xs S (e1 :: es))
    | _ => false
  | .gcd xs, S, e => match e with
    | .Call (.Name x _) (e1 :: es) [] _ => decide (x = "gcd") && (S.gcd && (glB S "gcd" && chA xs S (e1 :: es)))
    | _ => false
  | .isi T a, S, e => match e with
    | .Call (.Name x _) [e1, .Name y _] [] _ => decide (x = "isinstance") && (freeB S "isinstance" && (decide (y = T.n) && (freeB S T.n && (chE a S e1 && notStar e1))))
    | _ => false
  | .bits a, S, e => match e with
    | .Call (.Attribute o m apos) [] [] pos => decide (m = "bit_length") && (chE a S o && (notCall0 o && (apos.endLine == pos.line)))
    | _ => false
  | .lis l, S, e => chL l S e
  | .dic ps, S, e => match e with
    | .Dict keys values _ => chPs ps S keys values && (!keys.isEmpty && decide (keys.length ≤ 15))
    | _ => false
def chTB : Exs → Ctx → List Expr → Bool
  | .nil, _, _ => false
  | .cons a r, S, es => match r with
    | .nil => match es with
      | [e] => chT a S e
      | _ => false
    | .cons _ _ => match es with
      | e :: e2 :: es => chT a S e && chTB r S (e2 :: es)
      | _ => false
end
end Vp

end

section
set_option Elab.async false
set_option linter.all false
set_option autoImplicit false
set_option maxRecDepth 100000
/-! Vp6: what the check lets through does what the tree says. -/
namespace Vp
open PySem PySem.Spec PyProof.Rows L2

/-- a name of the module that is a def whose promise is g -/
def CallOk (X : Cx) (x : Str) (g : List D → Option D) : Prop := ∃ (k : Nat) (f : Addr) (fd : FuncData) (ps : List Str), FnOk X.prog X.w X.K X.mg X.base CX0 k f fd ps (spD X.K g) ∧ Room k X.A ∧ X.mg x = some (.ref f) ∧ PySem.W.keepIn X.K (.ref f) = true ∧ Binds X.K fd ps []
structure Good (S : Ctx) (cf : Nat → List D → Option D) (gl : Nat → Option D) (X : Cx) : Prop where
  N : X.N = S.N
  sc : X.env.scope = S.sc
  nd : S.N.Nodup
  calm : X.calm = true
  fn : ∀ x, S.fn x = true → X.fn x = true
  un : X.A.units + 65 < cLine
  free : ∀ x, x ∈ S.frees → X.mg x = none
  fns : ∀ f x, S.fns.lookup f = some x → CallOk X x (cf f)
  gls : ∀ n x d, S.gls.lookup n = some x → gl n = some d → ∃ v u, X.mg x = some u ∧ RelV v u ∧ ∀ H, Rep X.K H v d
  gcd : S.gcd = true → X.mg "gcd" = some (.builtin "math.gcd")

section
variable {S : Ctx} {cf : Nat → List D → Option D} {gl : Nat → Option D} {X : Cx}
theorem Good.vis (G : Good S cf gl X) {x : Str} (h : visB S x = true) : Vis X.env.scope x := by
  unfold visB at h
  rw [← G.sc] at h
  unfold Vis
  split at h
  · exact .inl (by assumption)
  · exact .inr (.inl (by assumption))
  · exact .inr (.inr (by assumption))
  · cases h
theorem Good.nm (G : Good S cf gl X) {i : Nat} {x : Str} (h : nmB S i x = true) : X.N[i]? = some x ∧ Vis X.env.scope x ∧ (x == ("__debug__" : Str)) = false ∧ (x == ("__classdict__" : Str)) = false := by
  unfold nmB at h
  simp only [Bool.and_eq_true, decide_eq_true_eq, Bool.not_eq_true'] at h
  exact ⟨by rw [G.N]; exact h.1, G.vis h.2.1, h.2.2.1, h.2.2.2⟩
theorem Good.gl' (G : Good S cf gl X) {x : Str} (h : glB S x = true) : Gl X x ∧ (x == ("__debug__" : Str)) = false := by
  unfold glB at h
  simp only [Bool.and_eq_true, Bool.not_eq_true'] at h
  refine ⟨?_, h.2⟩
  show X.env.scope.names.lookup x = _
  rw [G.sc]
  exact eq_of_beq h.1
theorem Good.fr (G : Good S cf gl X) {x : Str} (h : freeB S x = true) : Gl X x ∧ X.mg x = none := by
  unfold freeB at h
  simp only [Bool.and_eq_true, decide_eq_true_eq] at h
  exact ⟨(G.gl' h.1).1, G.free _ h.2⟩
theorem Good.lc (G : Good S cf gl X) {x : Str} (h : locB S x = true) : Loc X.env.scope x ∧ (X.fn x = true ∨ X.env.scope.names.lookup x = some .local) := by
  unfold locB at h
  rw [← G.sc] at h
  split at h
  · exact ⟨.inl (by assumption), .inr (by assumption)⟩
  · exact ⟨.inr (by assumption), .inl (G.fn _ h)⟩
  · cases h
theorem Good.blk (G : Good S cf gl X) (s : Shared) (H : Hp) (scope : Scope) (C : Addr) (cl : List (Str × Addr)) (fp : List Addr) : Good (S.blk scope) cf gl (X.blk s H scope (compEnvC scope cl C X.env) fp) where
  N := G.N
  sc := by
    show relS scope X.env.scope = relS scope S.sc
    rw [G.sc]
  nd := G.nd
  calm := G.calm
  fn := fun x h => h
  un := G.un
  free := G.free
  fns := fun f x h => G.fns f x h
  gls := G.gls
  gcd := G.gcd
theorem noMark {b : Expr} {op : CmpOp} (h : isSet b = false) : behindInMarks op b = false := by
  cases b <;> first | rfl | cases h
theorem noMarks {b c : Expr} {op op' : CmpOp} (h : isSet c = false) : lastMarks [op, op'] [b, c] = false := noMark (op := op') h
def plainT : Expr → Bool
  | .UnaryOp .Not _ _ => false
  | .BoolOp _ _ _ => false
  | .IfExp _ _ _ _ => false
  | .Compare _ _ _ _ => false
  | _ => true
theorem plainT_ok {e : Expr} (h : plainT e = true) (env : Env) : ∀ whole, isTrue e env whole = (do let v ← whole; standAt e.pos; holding [v] (truthy v)) := by
  intro whole
  cases e with
  | UnaryOp op _ _ => cases op <;> first | rfl | cases h
  | BoolOp _ _ _ => cases h
  | IfExp _ _ _ _ => cases h
  | Compare _ _ _ _ => cases h
  | _ => rfl
theorem plainIx {b : Expr} (h : plainB b = true) : PlainIx b := by
  intro o i
  cases b <;> first | rfl | cases h
theorem noSuper {e : Expr} {attr : Str} {env : Env} {w : Sem Value} (h : notCall0 e = true) : attributeBase e attr env w = w := by
  cases e with
  | Call f as ks p =>
    cases as with
    | nil =>
      cases ks with
      | nil => cases h
      | cons _ _ => cases f <;> rfl
    | cons _ _ => cases f <;> rfl
  | _ => rfl
section
variable {a b c : Expr} {pos : Pos} {fa fb fc : Env' → Option D}
theorem rd_chain {o o' : CmpOp} : ∀ σ H Q, rdE X.K (chainD o o' fa fb fc) σ H Q → tChain (rD2 X.K fun x y => blD (cmpD o x y)) (rD2 X.K fun x y => blD (cmpD o' x y)) (rdE X.K fa) (rdE X.K fb) (rdE X.K fc) σ H Q := by
  rintro σ H Q ⟨L, A, E, d, er, h, k⟩
  obtain ⟨x, hx, h⟩ := Option.bind_eq_some_iff.mp h
  obtain ⟨y, hy, h⟩ := Option.bind_eq_some_iff.mp h
  obtain ⟨t, ht, h⟩ := Option.bind_eq_some_iff.mp h
  refine ⟨L, A, E, x, er, hx, fun v H1 s1 r1 => ⟨L, A, E, y, er.mono s1, hy, fun w H2 s2 r2 => ?_⟩⟩
  refine ⟨A, x, y, .bl t, ((er.mono s1).mono s2).dom, r1.mono (mask_same s2), r2, (by show blD (cmpD o x y) = _; rw [ht]; rfl), fun z H3 s3 r3 => ?_⟩
  cases r3
  refine ⟨t, rfl, ?_⟩
  cases t with
  | true =>
    simp only [if_true] at h ⊢
    obtain ⟨z, hz, h⟩ := Option.bind_eq_some_iff.mp h
    refine ⟨L, A, E, z, ((er.mono s1).mono s2).mono s3, hz, fun u H4 s4 r4 => ?_⟩
    exact ⟨A, y, z, d, (((er.mono s1).mono s2).mono s3).mono s4 |>.dom, r2.mono (mask_same (s3.trans s4)), r4, h, (((k.mono s1).mono s2).mono s3).mono s4⟩
  | false =>
    simp only [Bool.false_eq_true, if_false] at h ⊢
    cases h
    exact (((k.mono s1).mono s2).mono s3).now (.bl _)
theorem vp_chain {o o' : CmpOp} (hu : X.A.units + 65 < cLine) (ha : PE X a (rdE X.K fa)) (hb : PE X b (rdE X.K fb)) (hc : PE X c (rdE X.K fc)) (hm : lastMarks [o, o'] [b, c] = false) : PE X (.Compare a [o, o'] [b, c] pos) (rdE X.K (chainD o o' fa fb fc)) :=
  pe_imp (pe_chain (cmp_ok hu o) (cmp_ok hu o') ha hb hc hm) rd_chain
theorem vt_chain {o o' : CmpOp} (hu : X.A.units + 65 < cLine) (ha : PE X a (rdE X.K fa)) (hb : PE X b (rdE X.K fb)) (hc : PE X c (rdE X.K fc)) (hm : lastMarks [o, o'] [b, c] = false) : PT X (.Compare a [o, o'] [b, c] pos) (rdT X.K fun E => (chainD o o' fa fb fc E).bind toB) := by
  refine pt_imp (pt_chain (cmp_ok hu o) (cmp_ok hu o') ha hb hc hm) ?_
  rintro σ H Q ⟨L, A, E, d, er, h, k⟩
  obtain ⟨x, hx, h⟩ := Option.bind_eq_some_iff.mp h
  cases toB_eq h
  refine rd_chain σ H _ ⟨L, A, E, .bl d, er, hx, fun v H1 s1 r1 => ?_⟩
  cases r1
  exact ⟨d, rfl, k H1 s1⟩
theorem vp_neg (ha : PE X a (rdE X.K fa)) : PE X (.UnaryOp .USub a pos) (rdE X.K (ap1 negD fa)) := by
  refine pe_imp (pe_un un_neg ha) ?_
  rintro σ H Q ⟨L, A, E, d, er, h, k⟩
  obtain ⟨x, h1, h2⟩ := Option.bind_eq_some_iff.mp h
  refine ⟨L, A, E, x, er, h1, fun v H1 s1 r1 => ?_⟩
  cases x with
  | int i =>
    cases h2
    cases r1
    exact ⟨i, rfl, (k.mono s1).now (.int _)⟩
  | _ => cases h2
end

theorem vp_constK {e : Expr} {v : V} {d : D} (h : PE X e (tC v)) (r : ∀ H, Rep X.K H v d) : PE X e (rdE X.K fun _ => some d) := by
  refine pe_imp h ?_
  rintro σ H Q ⟨L, A, E, d', er, h, k⟩
  cases h
  exact k.now (r _)
theorem asg_cons {e : Expr} {es : List Expr} {env : Env} (h : notStar e = true) : assignEach (e :: es) env = (false, assign e env) :: assignEach es env := by
  cases e <;> first | rfl | cases h
/-! ### targets -/
mutual
theorem okG : ∀ (t : Tg) (S : Ctx) (X : Cx) (e : Expr), Good S cf gl X → tgB t S e = true → PG X e (rdG X.K t)
  | .nm i, S, X, e, G, h => by
    simp only [tgB] at h
    split at h
    · simp only [Bool.and_eq_true, decide_eq_true_eq] at h
      obtain ⟨g1, g2⟩ := G.lc h.2
      exact vg_name (by rw [G.N]; exact G.nd) (by rw [G.N]; exact h.1) g1 g2
    · cases h
  | .tp ts, S, X, e, G, h => by
    simp only [tgB] at h
    split at h
    · obtain ⟨h1, h2, h3⟩ := okGs ts S X _ G h
      exact vg_tup G.calm h1 h2 rfl h3
    · cases h
theorem okGs : ∀ (ts : List Tg) (S : Ctx) (X : Cx) (es : List Expr), Good S cf gl X → tgsB ts S es = true → PGs X es (rdGs X.K ts) ∧ (assignEach es X.env).length = ts.length ∧ (assignEach es X.env).findIdx? (·.1) = none
  | [], S, X, es, G, h => by
    simp only [tgsB] at h
    split at h
    · exact ⟨vgs_nil, rfl, rfl⟩
    · cases h
  | t :: ts, S, X, es, G, h => by
    simp only [tgsB] at h
    split at h
    · rename_i e es
      simp only [Bool.and_eq_true] at h
      obtain ⟨h1, h2, h3⟩ := h
      obtain ⟨g1, g2, g3⟩ := okGs ts S X _ G h3
      rw [asg_cons h2]
      refine ⟨vgs_cons (okG t S X _ G h1) g1 (by rw [asg_cons h2]; rfl), by rw [List.length_cons, List.length_cons, g2], ?_⟩
      rw [List.findIdx?_cons, g3]
      rfl
    · cases h
end
/-! ### the theorem -/
variable (cf gl)
def ESpec (x : Ex) : Prop := ∀ (S : Ctx) (X : Cx) (e : Expr), Good S cf gl X → chE x S e = true → PE X e (rdE X.K (ev cf gl x))
def TSpec (x : Ex) : Prop := ∀ (S : Ctx) (X : Cx) (e : Expr), Good S cf gl X → chT x S e = true → PT X e (rdT X.K (tev cf gl x))
theorem both {x : Ex} (h : ESpec cf gl x) (ht : ∀ S e, chT x S e = true → chE x S e = true ∧ plainT e = true) (hv : tev cf gl x = fun E => (ev cf gl x E).bind truD) : ESpec cf gl x ∧ TSpec cf gl x := by
  refine ⟨h, fun S X e G hc => ?_⟩
  obtain ⟨h1, h2⟩ := ht S e hc
  rw [hv]
  exact vt_truth (h S X e G h1) (plainT_ok h2 _)
set_option maxHeartbeats 4000000 in
mutual
theorem okE : ∀ x : Ex, ESpec cf gl x ∧ TSpec cf gl x
  | .non => by
    refine both cf gl (fun S X e G h => ?_) (fun S e h => ⟨h, ?_⟩) (by simp only [tev, ev]; rfl)
    · simp only [chE, nonB] at h
      split at h
      · exact vp_const pe_non fun _ _ => .non
      · cases h
    · simp only [chT, nonB] at h
      split at h
      · rfl
      · cases h
  | .bl b => by
    refine both cf gl (fun S X e G h => ?_) (fun S e h => ⟨h, ?_⟩) (by simp only [tev, ev]; rfl)
    · simp only [chE, blB] at h
      split at h
      · rw [eq_of_beq h]
        exact vp_const pe_bl fun _ _ => .bl _
      · cases h
    · simp only [chT, blB] at h
      split at h
      · rfl
      · cases h
  | .int i => by
    refine both cf gl (fun S X e G h => ?_) (fun S e h => ⟨h, ?_⟩) (by simp only [tev, ev]; rfl)
    · simp only [chE, intB] at h
      split at h
      · rw [of_decide_eq_true h]
        exact vp_const pe_int fun _ _ => .int _
      · cases h
    · simp only [chT, intB] at h
      split at h
      · rfl
      · cases h
  | .str x => by
    refine both cf gl (fun S X e G h => ?_) (fun S e h => ⟨h, ?_⟩) (by simp only [tev, ev]; rfl)
    · simp only [chE, strB] at h
      split at h
      · rw [of_decide_eq_true h]
        exact vp_const pe_str fun _ _ => .str _
      · cases h
    · simp only [chT, strB] at h
      split at h
      · rfl
      · cases h
  | .glo n => by
    refine both cf gl (fun S X e G h => ?_) (fun S e h => ⟨h, ?_⟩) (by simp only [tev, ev])
    · simp only [chE, gloB] at h
      split at h
      · simp only [Bool.and_eq_true, decide_eq_true_eq] at h
        obtain ⟨g1, g2⟩ := G.gl' h.1
        simp only [ev]
        cases hn : gl n with
        | none => exact ⟨fun pins s σ H Q I w => by obtain ⟨L, A, E, d, er, hd, k⟩ := w; cases hd⟩
        | some d =>
          obtain ⟨v, u, m1, m2, m3⟩ := G.gls n _ d h.2 hn
          exact vp_constK (pe_glob g1 m1 m2 g2) m3
      · cases h
    · simp only [chT, gloB] at h
      split at h
      · rfl
      · cases h
  | .loc i => by
    refine both cf gl (fun S X e G h => ?_) (fun S e h => ⟨h, ?_⟩) (by simp only [tev, ev])
    · simp only [chE, nmE] at h
      split at h
      · obtain ⟨g1, g2, g3, g4⟩ := G.nm h
        simp only [ev]
        exact vp_loc g1 g2 g3 g4
      · cases h
    · simp only [chT, nmE] at h
      split at h
      · rfl
      · cases h
  | .bin o a b => by
    refine both cf gl (fun S X e G h => ?_) (fun S e h => ⟨h, ?_⟩) (by simp only [tev, ev])
    · simp only [chE] at h
      split at h
      · simp only [Bool.and_eq_true, decide_eq_true_eq] at h
        obtain ⟨rfl, h1, h2⟩ := h
        simp only [ev]
        exact vp_op (bin_ok o) ((okE a).1 S X _ G h1) ((okE b).1 S X _ G h2)
      · cases h
    · simp only [chT] at h
      split at h
      · rfl
      · cases h
  | .neg a => by
    refine both cf gl (fun S X e G h => ?_) (fun S e h => ⟨h, ?_⟩) (by simp only [tev, ev])
    · simp only [chE] at h
      split at h
      · simp only [ev]
        exact vp_neg ((okE a).1 S X _ G h)
      · cases h
    · simp only [chT] at h
      split at h
      · rfl
      · cases h
  | .nott a => by
    refine ⟨fun S X e G h => ?_, fun S X e G h => ?_⟩
    · simp only [chE] at h
      split at h
      · simp only [ev]
        exact vp_not ((okE a).1 S X _ G h)
      · cases h
    · simp only [chT] at h
      split at h
      · simp only [tev]
        exact vt_not ((okE a).2 S X _ G h)
      · cases h
  | .bool o xs => by
    refine ⟨fun S X e G h => ?_, fun S X e G h => ?_⟩
    · simp only [chE] at h
      split at h
      · simp only [Bool.and_eq_true, decide_eq_true_eq] at h
        obtain ⟨rfl, h⟩ := h
        simp only [ev]
        exact (okA xs).2.1 S X _ _ _ G h
      · cases h
    · simp only [chT] at h
      split at h
      · simp only [Bool.and_eq_true, decide_eq_true_eq] at h
        obtain ⟨rfl, h⟩ := h
        simp only [tev]
        exact ((okA xs).2.2 S X _ _ _ G h).pt
      · cases h
  | .cmp o a b => by
    refine ⟨fun S X e G h => ?_, fun S X e G h => ?_⟩
    · simp only [chE] at h
      split at h
      · simp only [Bool.and_eq_true, decide_eq_true_eq, Bool.not_eq_true'] at h
        obtain ⟨rfl, h1, h2, h3⟩ := h
        simp only [ev]
        exact vp_cmp (cmp_ok G.un _) ((okE a).1 S X _ G h1) ((okE b).1 S X _ G h2) (noMark h3)
      · cases h
    · simp only [chT] at h
      split at h
      · simp only [Bool.and_eq_true, decide_eq_true_eq, Bool.not_eq_true'] at h
        obtain ⟨rfl, h1, h2, h3⟩ := h
        simp only [tev]
        exact vp_cmpT (cmp_ok G.un _) ((okE a).1 S X _ G h1) ((okE b).1 S X _ G h2) (noMark h3)
      · cases h
  | .chain o o' a b c => by
    refine ⟨fun S X e G h => ?_, fun S X e G h => ?_⟩
    · simp only [chE] at h
      split at h
      · simp only [Bool.and_eq_true, decide_eq_true_eq, Bool.not_eq_true'] at h
        obtain ⟨rfl, rfl, h1, h2, h3, h4⟩ := h
        simp only [ev]
        exact vp_chain G.un ((okE a).1 S X _ G h1) ((okE b).1 S X _ G h2) ((okE c).1 S X _ G h3) (noMarks h4)
      · cases h
    · simp only [chT] at h
      split at h
      · simp only [Bool.and_eq_true, decide_eq_true_eq, Bool.not_eq_true'] at h
        obtain ⟨rfl, rfl, h1, h2, h3, h4⟩ := h
        simp only [tev]
        exact vt_chain G.un ((okE a).1 S X _ G h1) ((okE b).1 S X _ G h2) ((okE c).1 S X _ G h3) (noMarks h4)
      · cases h
  | .ife t a b => by
    refine ⟨fun S X e G h => ?_, fun S X e G h => ?_⟩
    · simp only [chE] at h
      split at h
      · simp only [Bool.and_eq_true] at h
        obtain ⟨h1, h2, h3⟩ := h
        simp only [ev]
        exact vp_if ((okE t).2 S X _ G h1) ((okE a).1 S X _ G h2) ((okE b).1 S X _ G h3)
      · cases h
    · simp only [chT] at h
      cases h
  | .tup xs => by
    refine both cf gl (fun S X e G h => ?_) (fun S e h => ⟨h, ?_⟩) (by simp only [tev, ev])
    · simp only [chE] at h
      split at h
      · simp only [ev]
        exact vp_tup ((okA xs).1 S X _ G h).1
      · cases h
    · simp only [chT] at h
      split at h
      · rfl
      · cases h
  | .sub a i => by
    refine both cf gl (fun S X e G h => ?_) (fun S e h => ⟨h, ?_⟩) (by simp only [tev, ev])
    · simp only [chE] at h
      split at h
      · simp only [Bool.and_eq_true] at h
        obtain ⟨h1, h2, h3⟩ := h
        simp only [ev]
        exact vp_ix ((okE a).1 S X _ G h1) ((okE i).1 S X _ G h2) (plainIx h3)
      · cases h
    · simp only [chT] at h
      split at h
      · rfl
      · cases h
  | .subO n i => by
    refine both cf gl (fun S X e G h => ?_) (fun S e h => ⟨h, ?_⟩) (by simp only [tev, ev])
    · simp only [chE] at h
      split at h
      · simp only [Bool.and_eq_true] at h
        obtain ⟨h1, h2, h3⟩ := h
        obtain ⟨g1, g2, g3, g4⟩ := G.nm h1
        simp only [ev]
        exact vp_ixOwn g1 g2 g3 g4 ((okE i).1 S X _ G h2) (plainIx h3)
      · cases h
    · simp only [chT] at h
      split at h
      · rfl
      · cases h
  | .lenO n => by
    refine both cf gl (fun S X e G h => ?_) (fun S e h => ⟨h, ?_⟩) (by simp only [tev, ev])
    · simp only [chE, lenOB] at h
      split at h
      · simp only [Bool.and_eq_true, decide_eq_true_eq] at h
        obtain ⟨rfl, h1, h2⟩ := h
        obtain ⟨g1, g2, g3, g4⟩ := G.nm h2
        obtain ⟨f1, f2⟩ := G.fr h1
        simp only [ev]
        exact vp_lenOwn g1 g2 g3 g4 f1 f2
      · cases h
    · simp only [chT, lenOB] at h
      split at h
      · rfl
      · cases h
  | .inO neg n a => by
    have pe : ESpec cf gl (.inO neg n a) := fun S X e G h => by
      simp only [chE] at h
      split at h
      · simp only [Bool.and_eq_true, decide_eq_true_eq] at h
        obtain ⟨rfl, h1, h2⟩ := h
        obtain ⟨g1, g2, g3, g4⟩ := G.nm h2
        simp only [ev]
        exact vp_inOwn g1 g2 g3 g4 ((okE a).1 S X _ G h1)
      · cases h
    refine ⟨pe, fun S X e G h => ?_⟩
    simp only [chT] at h
    split at h
    · simp only [Bool.and_eq_true, decide_eq_true_eq] at h
      obtain ⟨rfl, h1, h2⟩ := h
      obtain ⟨g1, g2, g3, g4⟩ := G.nm h2
      simp only [tev]
      exact vt_inOwn g1 g2 g3 g4 ((okE a).1 S X _ G h1)
    · cases h
  | .sl a lo hi => by
    refine both cf gl (fun S X e G h => ?_) (fun S e h => ⟨h, ?_⟩) (by simp only [tev, ev])
    · simp only [chE] at h
      split at h
      · simp only [Bool.and_eq_true] at h
        obtain ⟨h1, h2, h3⟩ := h
        simp only [ev]
        exact vp_sl ((okE a).1 S X _ G h1) (okP lo S X _ G h2) (okP hi S X _ G h3)
      · cases h
    · simp only [chT] at h
      split at h
      · rfl
      · cases h
  | .call f xs => by
    refine both cf gl (fun S X e G h => ?_) (fun S e h => ⟨h, ?_⟩) (by simp only [tev, ev])
    · simp only [chE] at h
      split at h
      · rename_i x p es pos
        simp only [Bool.and_eq_true, decide_eq_true_eq] at h
        obtain ⟨h1, h2, h3⟩ := h
        obtain ⟨g1, g2⟩ := G.gl' h2
        obtain ⟨k, fa, fd, ps, F, hr, hm, hk, hb⟩ := G.fns f x h1
        obtain ⟨a1, a2⟩ := (okA xs).1 S X _ G h3
        simp only [ev]
        cases es with
        | nil =>
          cases xs with
          | nil => exact vp_call0 F hr g1 hm hk hb g2
          | cons _ _ => simp only [chA] at h3; cases h3
        | cons e es => exact vp_call F hr g1 hm hk hb a1 a2 g2
      · cases h
    · simp only [chT] at h
      split at h
      · rfl
      · cases h
  | .bf b xs => by
    refine both cf gl (fun S X e G h => ?_) (fun S e h => ⟨h, ?_⟩) (by simp only [tev, ev])
    · simp only [chE] at h
      split at h
      · simp only [Bool.and_eq_true, decide_eq_true_eq] at h
        obtain ⟨rfl, h1, h2⟩ := h
        obtain ⟨f1, f2⟩ := G.fr h1
        obtain ⟨a1, a2⟩ := (okA xs).1 S X _ G h2
        simp only [ev]
        exact vp_bf b G.calm f1 f2 a1 a2
      · cases h
    · simp only [chT] at h
      split at h
      · rfl
      · cases h
  | .gcd xs => by
    refine both cf gl (fun S X e G h => ?_) (fun S e h => ⟨h, ?_⟩) (by simp only [tev, ev])
    · simp only [chE] at h
      split at h
      · simp only [Bool.and_eq_true, decide_eq_true_eq] at h
        obtain ⟨rfl, h0, h1, h2⟩ := h
        obtain ⟨g1, g2⟩ := G.gl' h1
        obtain ⟨a1, a2⟩ := (okA xs).1 S X _ G h2
        simp only [ev]
        exact vp_gcd g1 (G.gcd h0) a1 a2 g2
      · cases h
    · simp only [chT] at h
      split at h
      · rfl
      · cases h
  | .isi T a => by
    refine both cf gl (fun S X e G h => ?_) (fun S e h => ⟨h, ?_⟩) (by simp only [tev, ev])
    · simp only [chE] at h
      split at h
      · simp only [Bool.and_eq_true, decide_eq_true_eq] at h
        obtain ⟨rfl, h1, rfl, h2, h3, h4⟩ := h
        obtain ⟨f1, f2⟩ := G.fr h1
        obtain ⟨f3, f4⟩ := G.fr h2
        simp only [ev]
        exact vp_isi T f1 f2 f3 f4 ((okE a).1 S X _ G h3) h4
      · cases h
    · simp only [chT] at h
      split at h
      · rfl
      · cases h
  | .bits a => by
    refine both cf gl (fun S X e G h => ?_) (fun S e h => ⟨h, ?_⟩) (by simp only [tev, ev])
    · simp only [chE] at h
      split at h
      · simp only [Bool.and_eq_true, decide_eq_true_eq] at h
        obtain ⟨rfl, h1, h2, h3⟩ := h
        simp only [ev]
        exact vp_bits ((okE a).1 S X _ G h1) (noSuper h2) h3
      · cases h
    · simp only [chT] at h
      split at h
      · rfl
      · cases h
  | .lis l => by
    refine both cf gl (fun S X e G h => ?_) (fun S e h => ⟨h, ?_⟩) (by simp only [tev, ev])
    · simp only [chE] at h
      simp only [ev]
      exact vp_ofO (okL l S X e G h)
    · simp only [chT] at h
      cases l <;> simp only [chL] at h <;> split at h <;> first | rfl | cases h
  | .dic ps => by
    refine both cf gl (fun S X e G h => ?_) (fun S e h => ⟨h, ?_⟩) (by simp only [tev, ev])
    · simp only [chE] at h
      split at h
      · simp only [Bool.and_eq_true, Bool.not_eq_true', decide_eq_true_eq] at h
        obtain ⟨h1, h2, h3⟩ := h
        obtain ⟨q1, q2, q3⟩ := okPs ps S X _ _ _ G h1
        simp only [ev]
        exact vp_dic q1 q2 q3 (by rintro rfl; cases h2) h3
      · cases h
    · simp only [chT] at h
      split at h
      · rfl
      · cases h
theorem okPs : ∀ (ps : Prs) (S : Ctx) (X : Cx) (ks : List (Option Expr)) (vs : List Expr) (pos : Pos), Good S cf gl X → chPs ps S ks vs = true → PPs X pos ks vs (rdPs X.K (evKs cf gl ps) (evVs cf gl ps)) ∧ ks.all (·.isSome) = true ∧ ks.length = vs.length
  | .nil, S, X, ks, vs, pos, G, h => by
    simp only [chPs] at h
    split at h
    · simp only [evKs, evVs]
      exact ⟨pps_nil, rfl, rfl⟩
    · cases h
  | .cons k v r, S, X, ks, vs, pos, G, h => by
    simp only [chPs] at h
    split at h
    · simp only [Bool.and_eq_true] at h
      obtain ⟨h1, h2, h3⟩ := h
      obtain ⟨q1, q2, q3⟩ := okPs r S X _ _ pos G h3
      simp only [evKs, evVs]
      exact ⟨pps_cons ((okE k).1 S X _ G h1) ((okE v).1 S X _ G h2) q1, by rw [List.all_cons, q2]; rfl, by rw [List.length_cons, List.length_cons, q3]⟩
    · cases h
theorem okA : ∀ xs : Exs, (∀ (S : Ctx) (X : Cx) (es : List Expr), Good S cf gl X → chA xs S es = true → PA X es (rdA X.K (evs cf gl xs)) ∧ es.all notStar = true) ∧
    (∀ (S : Ctx) (X : Cx) (es : List Expr) (o : BoolOp) (pos : Pos), Good S cf gl X → chB xs S es = true → PE X (.BoolOp o es pos) (rdE X.K (evB cf gl o xs))) ∧
    (∀ (S : Ctx) (X : Cx) (es : List Expr) (o : BoolOp) (pos : Pos), Good S cf gl X → chTB xs S es = true → PW X (.BoolOp o es pos) (rdT X.K (tevB cf gl o xs)))
  | .nil => by
    refine ⟨fun S X es G h => ?_, fun S X es o pos G h => ?_, fun S X es o pos G h => ?_⟩
    · simp only [chA] at h
      split at h
      · simp only [evs]
        exact ⟨va_nil, rfl⟩
      · cases h
    · simp only [chB] at h
      cases h
    · simp only [chTB] at h
      cases h
  | .cons a r => by
    refine ⟨fun S X es G h => ?_, fun S X es o pos G h => ?_, fun S X es o pos G h => ?_⟩
    · simp only [chA] at h
      split at h
      · simp only [Bool.and_eq_true] at h
        obtain ⟨h1, h2, h3⟩ := h
        obtain ⟨r1, r2⟩ := (okA r).1 S X _ G h3
        simp only [evs]
        exact ⟨va_cons ((okE a).1 S X _ G h1) r1 (star_cons h2), by rw [List.all_cons, h2, r2]; rfl⟩
      · cases h
    · cases r with
      | nil =>
        simp only [chB] at h
        split at h
        · simp only [evB]
          exact vp_one ((okE a).1 S X _ G h)
        · cases h
      | cons a' r' =>
        cases es with
        | nil => simp [chB] at h
        | cons e es =>
        cases es with
        | nil => simp [chB] at h
        | cons e2 es =>
        · simp only [chB, Bool.and_eq_true] at h
          have q := (okA (.cons a' r')).2.1 S X _ o pos G h.2
          cases o with
          | And =>
            show PE X _ (rdE X.K (andV (ev cf gl a) (evB cf gl .And (.cons a' r'))))
            exact vp_and ((okE a).1 S X _ G h.1) q
          | Or =>
            show PE X _ (rdE X.K (orV (ev cf gl a) (evB cf gl .Or (.cons a' r'))))
            exact vp_or ((okE a).1 S X _ G h.1) q
    · cases r with
      | nil =>
        simp only [chTB] at h
        split at h
        · simp only [tevB]
          cases o with
          | And => exact vw_and1 ((okE a).2 S X _ G h)
          | Or => exact vw_or1 ((okE a).2 S X _ G h)
        · cases h
      | cons a' r' =>
        cases es with
        | nil => simp [chTB] at h
        | cons e es =>
        cases es with
        | nil => simp [chTB] at h
        | cons e2 es =>
        · simp only [chTB, Bool.and_eq_true] at h
          have q := (okA (.cons a' r')).2.2 S X _ o pos G h.2
          cases o with
          | And =>
            show PW X _ (rdT X.K (andB (tev cf gl a) (tevB cf gl .And (.cons a' r'))))
            exact vw_and ((okE a).2 S X _ G h.1) q
          | Or =>
            show PW X _ (rdT X.K (orB (tev cf gl a) (tevB cf gl .Or (.cons a' r'))))
            exact vw_or ((okE a).2 S X _ G h.1) q
theorem okP : ∀ (o : Opt) (S : Ctx) (X : Cx) (e : Option Expr), Good S cf gl X → chP o S e = true → PO X e (rdP X.K (partD (evP cf gl o)))
  | .no, S, X, e, G, h => by
    simp only [chP] at h
    split at h
    · simp only [evP]
      exact vo_none
    · cases h
  | .yes a, S, X, e, G, h => by
    simp only [chP] at h
    split at h
    · simp only [evP]
      exact vo_some ((okE a).1 S X _ G h)
    · cases h
theorem okC : ∀ (o : Opt) (S : Ctx) (X : Cx) (es : List Expr), Good S cf gl X → chC o S es = true → PTs X es (rdT X.K (evC cf gl o))
  | .no, S, X, e, G, h => by
    simp only [chC] at h
    split at h
    · simp only [evC]
      exact vts_nil
    · cases h
  | .yes a, S, X, e, G, h => by
    simp only [chC] at h
    split at h
    · simp only [evC]
      exact vts_one ((okE a).2 S X _ G h)
    · cases h
theorem okL : ∀ (l : Lx) (S : Ctx) (X : Cx) (e : Expr), Good S cf gl X → chL l S e = true → PE X e (rdO X.K (evL cf gl l))
  | .lst xs, S, X, e, G, h => by
    simp only [chL] at h
    split at h
    · simp only [evL]
      exact vp_lst ((okA xs).1 S X _ G h).1
    · cases h
  | .bin o a b, S, X, e, G, h => by
    simp only [chL] at h
    split at h
    · simp only [Bool.and_eq_true, decide_eq_true_eq] at h
      obtain ⟨rfl, h1, h2⟩ := h
      simp only [evL]
      exact vp_opo (binO_ok o) ((okE a).1 S X _ G h1) ((okE b).1 S X _ G h2)
    · cases h
  | .sl a lo hi, S, X, e, G, h => by
    simp only [chL] at h
    split at h
    · simp only [Bool.and_eq_true] at h
      obtain ⟨h1, h2, h3⟩ := h
      simp only [evL]
      exact vp_slO ((okE a).1 S X _ G h1) (okP lo S X _ G h2) (okP hi S X _ G h3)
    · cases h
  | .rev a, S, X, e, G, h => by
    simp only [chL] at h
    split at h
    · simp only [Bool.and_eq_true, decide_eq_true_eq] at h
      obtain ⟨rfl, h1⟩ := h
      simp only [evL]
      exact vp_rev ((okE a).1 S X _ G h1)
    · cases h
  | .bo b xs, S, X, e, G, h => by
    simp only [chL] at h
    split at h
    · simp only [Bool.and_eq_true, decide_eq_true_eq] at h
      obtain ⟨rfl, h1, h2⟩ := h
      obtain ⟨f1, f2⟩ := G.fr h1
      obtain ⟨a1, a2⟩ := (okA xs).1 S X _ G h2
      simp only [evL]
      exact vp_bo b f1 f2 a1 a2 G.calm
    · cases h
  | .comp own t elt c it, S, X, e, G, h => by
    simp only [chL] at h
    split at h
    · simp only [Bool.and_eq_true, decide_eq_true_eq, Bool.not_eq_true'] at h
      rename_i el tg iter ifs scope pos
      obtain ⟨h0, h1, h2, h3, h4, h5, h6⟩ := h
      unfold ownB at h0
      simp only [Bool.and_eq_true, decide_eq_true_eq] at h0
      obtain ⟨e1, e2⟩ := h0
      have ok : BlkOk X.N X.env.scope scope (ownP S own) := by
        rw [G.N, G.sc]
        exact blkOk_by e2
      have q : PE X (.ListComp el [⟨tg, iter, ifs, 0⟩] scope pos) (rdO X.K (compD ((ownP S own).map (·.2)) t (evC cf gl c) (ev cf gl elt) (evI cf gl it))) :=
        vp_comp G.calm (by rw [G.N]; exact G.nd) (okI it S X tg iter G h5) ok (fun s H C cl fp => okG t (S.blk scope) _ tg (G.blk s H scope C cl fp) h2)
          (fun s H C cl fp => okC c (S.blk scope) _ ifs (G.blk s H scope C cl fp) h3) (fun s H C cl fp => (okE elt).1 (S.blk scope) _ el (G.blk s H scope C cl fp) h4) (noset h6) (by rw [e1]; exact h1)
      rw [e1] at q
      simp only [evL]
      exact q
    · cases h
theorem okI : ∀ (i : Ix) (S : Ctx) (X : Cx) (tg e : Expr), Good S cf gl X → chI i S tg e = true → PI X tg e (rdI X.K (evI cf gl i))
  | .ex a, S, X, tg, e, G, h => by
    simp only [chI] at h
    simp only [evI]
    exact vi_ex ((okE a).1 S X _ G h)
  | .fn f xs, S, X, tg, e, G, h => by
    simp only [chI] at h
    split at h
    · simp only [Bool.and_eq_true, decide_eq_true_eq, Bool.or_eq_true, Bool.not_eq_true'] at h
      obtain ⟨rfl, h1, h2, h3, h4⟩ := h
      obtain ⟨f1, f2⟩ := G.fr h1
      obtain ⟨a1, a2⟩ := (okA xs).1 S X _ G h3
      simp only [evI]
      exact vi_fn f f1 f2 a1 a2 h2 fun z => h4.resolve_left (by rw [z]; simp)
    · cases h
end
end
end Vp

end

section
set_option Elab.async false
set_option linter.all false
set_option autoImplicit false
set_option maxRecDepth 100000
/-! Vp7: statements. -/
namespace Vp
open PySem PySem.Spec PyProof.Rows L2

/-! ### readings of statements -/
/-- the frame between two statements: H0, M0 the heap at the def's entry and what its callers keep to themselves -/
structure SI (K : PySem.W.Frag) (H0 : Hp) (M0 L A : List Addr) (σ : L2.St) (H : Hp) (E : Env') : Prop where
  er : ER K L A σ H E
  mem : ∀ a, a ∈ A ↔ a ∈ L ∨ a ∈ M0
  same : Same H0 H
  new : ∀ p ∈ L, H0 p = none
  m0 : ∀ a ∈ M0, H0 a ≠ none
/-- from one state to a later one: what values may reach stands, nothing is forgotten -/
def Evo (A : List Addr) (H : Hp) (A' : List Addr) (H' : Hp) : Prop := Same (mask A H) (mask A' H') ∧ ∀ a, H a ≠ none → H' a ≠ none
theorem Evo.refl {A : List Addr} {H : Hp} : Evo A H A H := ⟨Same.refl _, fun _ h => h⟩
theorem Evo.trans {A A' A'' : List Addr} {H H' H'' : Hp} (a : Evo A H A' H') (b : Evo A' H' A'' H'') : Evo A H A'' H'' := ⟨a.1.trans b.1, fun x h => b.2 x (a.2 x h)⟩
theorem Evo.same {A : List Addr} {H H' : Hp} (s : Same H H') : Evo A H A H' := ⟨mask_same s, fun a h z => h (s.free z)⟩

inductive Fl where
  | nx (E : Env') | rt (d : D) | bk (E : Env') | ct (E : Env')
def ContOk (K : PySem.W.Frag) (H0 : Hp) (M0 A : List Addr) (H : Hp) (D' : Ends) : Fl → Prop
  | .nx E => ∀ L' A' σ' H', SI K H0 M0 L' A' σ' H' E → Evo A H A' H' → D'.nx σ' H'
  | .bk E => ∀ L' A' σ' H', SI K H0 M0 L' A' σ' H' E → Evo A H A' H' → D'.bk σ' H'
  | .ct E => ∀ L' A' σ' H', SI K H0 M0 L' A' σ' H' E → Evo A H A' H' → D'.ct σ' H'
  | .rt d => ∀ v H', Same H0 H' → Rep K (mask M0 H') v d → D'.rt v H'
def rdS (K : PySem.W.Frag) (f : Env' → Option Fl) : TS := fun D' σ H => ∃ H0 M0 L A E fl, SI K H0 M0 L A σ H E ∧ f E = some fl ∧ ContOk K H0 M0 A H D' fl
section
variable {K : PySem.W.Frag} {H0 H H' : Hp} {M0 L A A' : List Addr} {σ : L2.St} {E : Env'} {D' : Ends} {fl : Fl}
theorem ContOk.evo (c : ContOk K H0 M0 A H D' fl) (e : Evo A H A' H') : ContOk K H0 M0 A' H' D' fl := by
  cases fl with
  | nx E => exact fun L1 A1 σ1 H1 si ev => c L1 A1 σ1 H1 si (e.trans ev)
  | bk E => exact fun L1 A1 σ1 H1 si ev => c L1 A1 σ1 H1 si (e.trans ev)
  | ct E => exact fun L1 A1 σ1 H1 si ev => c L1 A1 σ1 H1 si (e.trans ev)
  | rt d => exact c
theorem SI.mono (s : SI K H0 M0 L A σ H E) (h : Same H H') : SI K H0 M0 L A σ H' E := ⟨s.er.mono h, s.mem, s.same.trans h, s.new, s.m0⟩
theorem SI.with (s : SI K H0 M0 L A σ H E) {σ' : L2.St} {E1 : Env'} (h : Same H H') (er : ER K L A σ' H' E1) : SI K H0 M0 L A σ' H' E1 := ⟨er, s.mem, s.same.trans h, s.new, s.m0⟩
/-- a value leaves the frame -/
theorem SI.out (s : SI K H0 M0 L A σ H E) {v : V} {d : D} (r : Rep K (mask A H) v d) : Rep K (mask M0 H) v d := r.mono (mask_sub (fun a ha => (s.mem a).mpr (.inr ha)) H)
def frz : List Nat → Env' → Env'
  | [], E => E
  | i :: r, E => match E[i]? with
    | some (.o ds) => frz r (E.set i (.f (.lst ds)))
    | _ => frz r E
theorem SI.frz : ∀ (is : List Nat) {L A : List Addr} {E : Env'}, SI K H0 M0 L A σ H E → ∃ L' A', SI K H0 M0 L' A' σ H (Vp.frz is E) ∧ Evo A H A' H
  | [], L, A, E, s => ⟨L, A, s, Evo.refl⟩
  | i :: r, L, A, E, s => by
    unfold Vp.frz
    split
    · rename_i ds e
      obtain ⟨p, hp, er⟩ := s.er.freeze e
      have hpm : p ∉ M0 := fun z => s.m0 p z (s.new p hp)
      have s1 : SI K H0 M0 (L.filter (· ≠ p)) (A.filter (· ≠ p)) σ H (E.set i (.f (.lst ds))) := by
        refine ⟨er, fun a => ?_, s.same, fun q hq => s.new q (List.mem_filter.mp hq).1, s.m0⟩
        simp only [List.mem_filter, s.mem a, ne_eq, decide_eq_true_eq]
        constructor
        · rintro ⟨h1 | h1, h2⟩
          · exact .inl ⟨h1, by simpa using h2⟩
          · exact .inr h1
        · rintro (⟨h1, h2⟩ | h1)
          · exact ⟨.inl h1, by simpa using h2⟩
          · exact ⟨.inr h1, fun z => hpm (z ▸ h1)⟩
      obtain ⟨L', A', s2, e2⟩ := SI.frz r s1
      refine ⟨L', A', s2, Evo.trans ⟨mask_sub (fun a ha => (List.mem_filter.mp ha).1) H, fun _ h => h⟩ e2⟩
    · exact SI.frz r s
/-- a new list becomes the frame's own -/
theorem SI.own (s : SI K H0 M0 L A σ H E) (h : Same H H') {i : Nat} {p : Addr} {vs : List V} {ds : List D} (hp : H p = none) (hp' : H' p = some (.lst vs)) (r : RepA K (mask (p :: A) H') vs ds) :
    SI K H0 M0 (p :: L) (p :: A) (σ.set i (some (.ref p))) H' (E.set i (.o ds)) ∧ Evo A H (p :: A) H' := by
  refine ⟨⟨s.er.setO h hp hp' r, fun a => ?_, s.same.trans h, fun q hq => ?_, s.m0⟩, mask_new h hp, fun a ha z => ha (h.free z)⟩
  · simp only [List.mem_cons, s.mem a, or_assoc]
  · rcases List.mem_cons.mp hq with rfl | hq
    · exact s.same.free hp
    · exact s.new q hq
/-- a list of the frame's own changes -/
theorem SI.upd (s : SI K H0 M0 L A σ H E) {i : Nat} {p : Addr} {vs : List V} {ds ds' : List D} (he : E[i]? = some (.o ds)) (hs : σ[i]? = some (some (.ref p))) (hp : p ∈ L) (r : RepA K (mask A H) vs ds') :
    SI K H0 M0 L A σ (L2.upd H p (.lst vs)) (E.set i (.o ds')) ∧ Evo A H A (L2.upd H p (.lst vs)) := by
  have e := s.er.upd he hs hp r
  refine ⟨⟨e, s.mem, fun a o h => ?_, s.new, s.m0⟩, by rw [mask_upd (s.er.sub p hp)]; exact Same.refl _, fun a ha => ?_⟩
  · have ne : a ≠ p := by
      rintro rfl
      rw [s.new a hp] at h
      cases h
    rw [upd_ne ne]
    exact s.same _ _ h
  · by_cases hap : a = p
    · subst hap
      rw [upd_same]
      simp
    · rw [upd_ne hap]
      exact ha
end

/-! ### the statements' trees -/
mutual
inductive Sm where
  | asg (t : Tg) (e : Ex)
  | asgO (i : Nat) (l : Lx)
  | par (i j : Nat) (a b : Ex)
  | par3 (i j l : Nat) (a b c : Ex)
  | aug (i : Nat) (o : BOp) (e : Ex)
  | app (i : Nat) (e : Ex)
  | seti (i : Nat) (j e : Ex)
  | drop (e : Ex)
  | ret (e : Ex)
  | retN
  | ife (c : Ex) (a b : Sms)
  | whl (c : Ex) (b : Sms)
  | for_ (t : Tg) (it : Ix) (b : Sms)
  | pass | brk | cont | rais
inductive Sms where
  | nil | cons (fz : List Nat) (s : Sm) (r : Sms)
end
def seqF (f g : Env' → Option Fl) (E : Env') : Option Fl := (f E).bind fun
  | .nx E' => g E'
  | fl => some fl
def whileF (c : Env' → Option Bool) (b : Env' → Option Fl) : Nat → Env' → Option Fl
  | 0, _ => none
  | n + 1, E => (c E).bind fun t => if t = true then (b E).bind fun
      | .nx E' => whileF c b n E'
      | .ct E' => whileF c b n E'
      | .bk E' => some (.nx E')
      | .rt d => some (.rt d)
    else some (.nx E)
def forF (t : Tg) (b : Env' → Option Fl) : List D → Env' → Option Fl
  | [], E => some (.nx E)
  | d :: r, E => (asgT t d E).bind fun E1 => (b E1).bind fun
      | .nx E' => forF t b r E'
      | .ct E' => forF t b r E'
      | .bk E' => some (.nx E')
      | .rt d => some (.rt d)
def appF (i : Nat) (f : Env' → Option D) (E : Env') : Option Fl := match E[i]? with
  | some (.o ds) => (f E).bind fun d => if ds.length < lineN then some (.nx (E.set i (.o (ds ++ [d])))) else none
  | _ => none
def setiF (i : Nat) (fj fe : Env' → Option D) (E : Env') : Option Fl := match E[i]? with
  | some (.o ds) => (fe E).bind fun d => (fj E).bind fun
    | .int k => (ixN ds.length k).map fun j => .nx (E.set i (.o (ds.set j d)))
    | _ => none
  | _ => none
def augF (o : BOp) : D → D → Option D
  | .int i, .int j => match o with
    | .add => some (.int (i + j))
    | .sub => some (.int (i - j))
    | _ => none
  | .str x, .str y => match o with
    | .add => if x.length + y.length ≤ lineN then some (.str (x ++ y)) else none
    | _ => none
  | _, _ => none
section
variable (cf : Nat → List D → Option D) (gl : Nat → Option D) (wn : Nat)
mutual
def ex1 : Sm → Env' → Option Fl
  | .asg t e => fun E => (ev cf gl e E).bind fun d => (asgT t d E).map .nx
  | .asgO i l => fun E => (evL cf gl l E).map fun ds => .nx (E.set i (.o ds))
  | .par i j a b => fun E => (ev cf gl a E).bind fun x => (ev cf gl b E).map fun y => .nx ((E.set i (.f x)).set j (.f y))
  | .par3 i j l a b c => fun E => (ev cf gl a E).bind fun x => (ev cf gl b E).bind fun y => (ev cf gl c E).map fun z => .nx (((E.set i (.f x)).set j (.f y)).set l (.f z))
  | .aug i o e => fun E => (look i E).bind fun x => (ev cf gl e E).bind fun y => (augF o x y).map fun z => .nx (E.set i (.f z))
  | .app i e => appF i (ev cf gl e)
  | .seti i j e => setiF i (ev cf gl j) (ev cf gl e)
  | .drop e => fun E => (ev cf gl e E).map fun _ => .nx E
  | .ret e => fun E => (ev cf gl e E).map .rt
  | .retN => fun _ => some (.rt .non)
  | .ife c a b => fun E => (tev cf gl c E).bind fun t => if t = true then exs a E else exs b E
  | .whl c b => whileF (tev cf gl c) (exs b) wn
  | .for_ t it b => fun E => (evI cf gl it E).bind fun ds => forF t (exs b) ds E
  | .pass => fun E => some (.nx E)
  | .brk => fun E => some (.bk E)
  | .cont => fun E => some (.ct E)
  | .rais => fun _ => none
def exs : Sms → Env' → Option Fl
  | .nil => fun E => some (.nx E)
  | .cons fz s r => fun E => seqF (ex1 s) (exs r) (frz fz E)
end
end

/-! ### the check -/
def isComp : Expr → Bool
  | .ListComp _ _ _ _ => true
  | .SetComp _ _ _ _ => true
  | .DictComp _ _ _ _ _ => true
  | _ => false
/-- whether `y = [..]` is stored within the comprehension's frame -/
def swB (S : Ctx) (tg e : Expr) : Bool := match e with
  | .ListComp _ _ scope pos => (match tg with
    | .Name y py => (S.sc.names.lookup y == some .local) && ((py.line == pos.line) && !(scope.names.any fun (n, k) => n == y && (k == .local || k == .cell)))
    | _ => false)
  | _ => false
def lcOnly : Expr → Bool
  | .SetComp _ _ _ _ => false
  | .DictComp _ _ _ _ _ => false
  | _ => true
def stOk : Expr → Bool
  | .Name _ _ => true
  | .Tuple _ _ _ => true
  | _ => false
def noPar (tg e : Expr) : Bool := match tg, e with
  | .Tuple ts _ _, .Tuple vs _ _ => !(ts.length == 2 || ts.length == 3) || vs.length != ts.length
  | _, _ => true
def par2B (S : Ctx) (x : Str) (px : Pos) (y : Str) (py : Pos) (a b : Expr) : Bool :=
  (S.sc.names.lookup x == some .local) && ((S.sc.names.lookup y == some .local) && ((py.line == px.line) && (decide (x ≠ y) && (notStar a && (notStar b && (!([a, b].all (foldedForSure 8)) && !([a, b].all (constantsAlone 8))))))))
def par3B (S : Ctx) (x : Str) (px : Pos) (y : Str) (py : Pos) (z : Str) (pz : Pos) (a b c : Expr) : Bool :=
  (S.sc.names.lookup x == some .local) && ((S.sc.names.lookup y == some .local) && ((S.sc.names.lookup z == some .local) && ((py.line == px.line) && ((pz.line == px.line) && (decide (x ≠ y) && (decide (x ≠ z) && (decide (y ≠ z) &&
    (notStar a && (notStar b && (notStar c && (!([a, b, c].all (foldedForSure 8)) && !([a, b, c].all (constantsAlone 8))))))))))))) 
mutual
def ch1 : Sm → Ctx → Stmt → Bool
  | .asg t e, S, st => match st with
    | .Assign [tg] v _ => tgB t S tg && (chE e S v && (notStar tg && (noPar tg v && (lcOnly v && stOk tg))))
    | _ => false
  | .asgO i l, S, st => match st with
    | .Assign [.Name x p] v _ => tgB (.nm i) S (.Name x p) && (chL l S v && lcOnly v)
    | _ => false
  | .par i j a b, S, st => match st with
    | .Assign [.Tuple [.Name x px, .Name y py] _ _] (.Tuple [e1, e2] _ _) _ => decide (S.N[i]? = some x) && (decide (S.N[j]? = some y) && (decide (i ≠ j) && (par2B S x px y py e1 e2 && (chE a S e1 && chE b S e2))))
    | _ => false
  | .par3 i j l a b c, S, st => match st with
    | .Assign [.Tuple [.Name x px, .Name y py, .Name z pz] _ _] (.Tuple [e1, e2, e3] _ _) _ => decide (S.N[i]? = some x) && (decide (S.N[j]? = some y) && (decide (S.N[l]? = some z) && (decide (i ≠ j) && (decide (i ≠ l) && (decide (j ≠ l) && (par3B S x px y py z pz e1 e2 e3 && (chE a S e1 && (chE b S e2 && chE c S e3))))))))
    | _ => false
  | .aug i o e, S, st => match st with
    | .AugAssign (.Name x _) op v _ => decide (op = o.op) && (decide (o = .add ∨ o = .sub) && (decide (S.N[i]? = some x) && (locB S x && chE e S v)))
    | _ => false
  | .app i e, S, st => match st with
    | .Expr (.Call (.Attribute (.Name x _) m apos) [v] [] cpos) _ => decide (m = "append") && (nmB S i x && (chE e S v && (notStar v && (apos.endLine == cpos.line))))
    | _ => false
  | .seti i j e, S, st => match st with
    | .Assign [.Subscript (.Name x _) k _] v _ => nmB S i x && (chE j S k && (chE e S v && (plainB k && !isComp v)))
    | _ => false
  | .drop e, S, st => match st with
    | .Expr v _ => chE e S v && !isComp v
    | _ => false
  | .ret e, S, st => match st with
    | .Return (some v) _ => chE e S v
    | _ => false
  | .retN, _, st => match st with
    | .Return none _ => true
    | _ => false
  | .ife c a b, S, st => match st with
    | .If t x y _ => chT c S t && (chs a S x && chs b S y)
    | _ => false
  | .whl c b, S, st => match st with
    | .While t x [] _ => chT c S t && chs b S x
    | _ => false
  | .for_ t it b, S, st => match st with
    | .For tg iter x [] _ => tgB t S tg && (chI it S tg iter && (chs b S x && !isSet iter))
    | _ => false
  | .pass, _, st => match st with
    | .Pass _ => true
    | _ => false
  | .brk, _, st => match st with
    | .Break _ => true
    | _ => false
  | .cont, _, st => match st with
    | .Continue _ => true
    | _ => false
  | .rais, _, _ => true
def chs : Sms → Ctx → List Stmt → Bool
  | .nil, _, st => match st with
    | [] => true
    | _ :: _ => false
  | .cons _ s r, S, st => match st with
    | a :: b => ch1 s S a && chs r S b
    | [] => false
end
end Vp

end

section
set_option Elab.async false
set_option linter.all false
set_option autoImplicit false
set_option maxRecDepth 100000
/-! Vp8: statements that the check lets through do what their trees say. -/
namespace Vp
open PySem PySem.Spec PyProof.Rows L2

structure GoodS (S : Ctx) (cf : Nat → List D → Option D) (gl : Nat → Option D) (X : Cx) : Prop extends Good S cf gl X where
  kind : S.sc.kind = .function
  nx : X.xe = fun _ _ => False
section
variable {S : Ctx} {cf : Nat → List D → Option D} {gl : Nat → Option D} {X : Cx}
theorem GoodS.own (G : GoodS S cf gl X) : PassesOwn (model X.prog X.w) X.A X.env X.xe := by
  rw [G.nx]
  exact PassesOwn.never
theorem GoodS.block (G : GoodS S cf gl X) : X.env.blockKind = .function := by
  unfold Env.blockKind
  rw [G.sc, G.kind]
  rfl
/-! ### which store a comprehension takes -/
theorem sw_no {e : Expr} {t : Option Expr} {l : Nat} {env : Env} (h : isComp e = false) : swapsWith e t l env = pure false := by
  cases e <;> first | rfl | cases h
theorem sw_lc (G : GoodS S cf gl X) {elt : Expr} {gs : List Comprehension} {scope : Scope} {pos : Pos} {tg : Expr} {l : Nat} : swapsWith (.ListComp elt gs scope pos) (some tg) l X.env = pure (swB S tg (.ListComp elt gs scope pos)) := by
  have hb := G.block
  have hs := G.sc
  cases tg <;> try rfl
  rename_i y py
  unfold swapsWith swB
  have ky : X.env.kindOf y = S.sc.names.lookup y := by
    show X.env.scope.names.lookup y = _
    rw [hs]
  simp only [hb, ky, Expr.pos]
  cases (S.sc.names.lookup y == some NameKind.local) <;> cases (py.line == pos.line) <;> cases (scope.names.any fun (n, k) => n == y && (k == .local || k == .cell)) <;> rfl
theorem sws_no (G : GoodS S cf gl X) {e tg : Expr} {l : Nat} (h1 : lcOnly e = true) (h : swB S tg e = false) : swapsWith e (some tg) l X.env = pure false := by
  by_cases hc : isComp e = false
  · exact sw_no hc
  · cases e <;> first | exact absurd rfl hc | (cases h1; done) | (rw [sw_lc G, h])
theorem swp_none {tg e : Expr} {env : Env} (h1 : stOk tg = true) (h : noPar tg e = true) : swappedStores [tg] e env = pure none := by
  cases tg <;> try (cases h1; done)
  · rfl
  · rename_i ts k p
    cases e <;> try rfl
    rename_i vs k' p'
    simp only [noPar, Bool.or_eq_true, Bool.not_eq_true'] at h
    unfold swappedStores
    have hc : (!(ts.length == 2 || ts.length == 3) || vs.length != ts.length || env.blockKind != .function) = true := by
      rw [Bool.or_eq_true, Bool.or_eq_true]
      exact .inl (by simpa using h)
    simp only [hc]
    rfl
theorem asg1 {tg : Expr} {env : Env} (h : notStar tg = true) : (assignEach [tg] env).map (·.2) = [assign tg env] := by
  rw [asg_cons h]
  rfl
/-- y = a new list -/
theorem ps_storeL (G : GoodS S cf gl X) {i : Nat} {l : Lx} {v : Expr} {y : Str} {py pos : Pos} (ht : tgB (.nm i) S (.Name y py) = true) (hl : chL l S v = true) (hc : lcOnly v = true) : PS X (.Assign [.Name y py] v pos) (tAsg (rdO X.K (evL cf gl l)) (gName i)) := by
  simp only [tgB, Bool.and_eq_true, decide_eq_true_eq] at ht
  obtain ⟨g1, g2⟩ := G.lc ht.2
  have hi : X.N[i]? = some y := by rw [G.N]; exact ht.1
  have nd : X.N.Nodup := by rw [G.N]; exact G.nd
  by_cases hs : swB S (.Name y py) v = false
  · exact ps_set nd hi g1 (okL cf gl l S X v G.toGood hl) (sws_no G hc hs) g2
  · have hs' : swB S (.Name y py) v = true := by simpa using hs
    clear hs
    have hs := hs'
    clear hs'
    cases v <;> try (cases hs; done)
    rename_i elt gens scope vpos
    cases l with
    | comp own t el c it =>
      have hsw : swapsWith (.ListComp elt gens scope vpos) (some (.Name y py)) pos.line X.env = pure true := by rw [sw_lc G, hs]
      have hy : X.env.scope.names.lookup y = some .local := by
        rw [G.sc]
        simp only [swB, Bool.and_eq_true] at hs
        exact eq_of_beq hs.1
      simp only [chL] at hl
      split at hl
      · rename_i _ el' tg iter ifs scope' pos' heq
        cases heq
        simp only [Bool.and_eq_true, decide_eq_true_eq, Bool.not_eq_true'] at hl
        obtain ⟨h0, h1, h2, h3, h4, h5, h6⟩ := hl
        unfold ownB at h0
        simp only [Bool.and_eq_true, decide_eq_true_eq] at h0
        obtain ⟨e1, e2⟩ := h0
        have ok : BlkOk X.N X.env.scope scope (ownP S own) := by
          rw [G.N, G.sc]
          exact blkOk_by e2
        refine ps_imp (ps_setLc (own := ownP S own) (te := rdE X.K (ev cf gl el)) (tt := rdT X.K (evC cf gl c)) (g := rdG X.K t) (wi := rdI X.K (evI cf gl it)) G.calm nd hi hy hsw (okI cf gl it S X tg iter G.toGood h5) ok (fun s H C cl fp => okG t (S.blk scope) _ tg (G.toGood.blk s H scope C cl fp) h2)
          (fun s H C cl fp => okC cf gl c (S.blk scope) _ ifs (G.toGood.blk s H scope C cl fp) h3) (fun s H C cl fp => (okE cf gl el).1 (S.blk scope) _ _ (G.toGood.blk s H scope C cl fp) h4) (noset h6)) ?_
        intro D' σ H w
        rw [e1]
        simp only [evL] at w
        exact rd_lc h1 σ H _ w
      · cases hl
    | _ => simp only [chL] at hl; cases hl
theorem foldr_none {α : Type} {b : Bool} {x y : Sem α} (h : b = false) : (if b = true then x else y) = y := by rw [if_neg (by rw [h]; decide)]
theorem lk {x : Str} (G : GoodS S cf gl X) (h : (S.sc.names.lookup x == some .local) = true) : X.env.kindOf x = some .local := by
  show X.env.scope.names.lookup x = _
  rw [G.sc]
  exact eq_of_beq h
theorem dup2 {x y : Str} (h : x ≠ y) : [x, y].eraseDups = [x, y] := by
  rw [List.eraseDups_cons, List.filter_cons]
  have : (!(y == x)) = true := by simpa using fun z => h z.symm
  rw [if_pos this]
  rw [List.filter_nil, List.eraseDups_cons]
  rfl
theorem swp2 (G : GoodS S cf gl X) {x y : Str} {px py pt pt2 : Pos} {kt k2 : Nat} {a b : Expr} (h : par2B S x px y py a b = true) :
    swappedStores [.Tuple [.Name x px, .Name y py] kt pt] (.Tuple [a, b] k2 pt2) X.env = pure (some [x, y]) := by
  unfold par2B at h
  simp only [Bool.and_eq_true, decide_eq_true_eq, Bool.not_eq_true'] at h
  obtain ⟨hx, hy, hl, hne, ha, hb, hf, hc⟩ := h
  have kx := lk G hx
  have ky := lk G hy
  have hl' : py.line = px.line := eq_of_beq hl
  unfold swappedStores
  simp only [G.block, List.length_cons, List.length_nil, List.filterMap_cons, List.filterMap_nil, kx, ky, List.head?_cons, Option.map_some, Option.getD_some, Expr.pos, hl', beq_self_eq_true, Bool.and_self, if_true, dup2 hne, hf, hc]
  cases a <;> try (cases ha; done)
  all_goals cases b <;> first | (cases hb; done) | rfl
theorem dup3 {x y z : Str} (h : x ≠ y) (h2 : x ≠ z) (h3 : y ≠ z) : [x, y, z].eraseDups = [x, y, z] := by
  rw [List.eraseDups_cons, List.filter_cons]
  have e1 : (!(y == x)) = true := by simpa using fun q => h q.symm
  have e2 : (!(z == x)) = true := by simpa using fun q => h2 q.symm
  rw [if_pos e1, List.filter_cons, if_pos e2, List.filter_nil, dup2 h3]
theorem swp3 (G : GoodS S cf gl X) {x y z : Str} {px py pz pt pt2 : Pos} {kt k2 : Nat} {a b c : Expr} (h : par3B S x px y py z pz a b c = true) :
    swappedStores [.Tuple [.Name x px, .Name y py, .Name z pz] kt pt] (.Tuple [a, b, c] k2 pt2) X.env = pure (some [x, y, z]) := by
  unfold par3B at h
  simp only [Bool.and_eq_true, decide_eq_true_eq, Bool.not_eq_true'] at h
  obtain ⟨hx, hy, hz, hl, hl2, h1, h2, h3, ha, hb, hc, hf, hg⟩ := h
  have kx := lk G hx
  have ky := lk G hy
  have kz := lk G hz
  have hl' : py.line = px.line := eq_of_beq hl
  have hl2' : pz.line = px.line := eq_of_beq hl2
  unfold swappedStores
  simp only [G.block, List.length_cons, List.length_nil, List.filterMap_cons, List.filterMap_nil, kx, ky, kz, List.head?_cons, Option.map_some, Option.getD_some, Expr.pos, hl', hl2', beq_self_eq_true, Bool.and_self, if_true, dup3 h1 h2 h3, hf, hg]
  have e : ([a, b, c].any fun | .Starred .. => true | _ => false) = false := by
    have k : ∀ e : Expr, notStar e = true → (match e with | .Starred .. => true | _ => false) = false := fun e he => by
      cases e <;> first | rfl | cases he
    simp only [List.any_cons, List.any_nil, Bool.or_false, Bool.or_eq_false_iff]
    exact ⟨k a ha, k b hb, k c hc⟩
  rw [if_neg (by decide), if_neg (by rw [Bool.not_eq_true]; exact e)]
  rfl
theorem iop_ok {o : BOp} (h : o = .add ∨ o = .sub) : OpR X (inplaceOp o.op) (rD2 X.K (augF o)) := by
  intro pins s σ H x y v u Q I rx ry h'
  obtain ⟨A, a, b, d, hd, ra, rb, e, k⟩ := h'
  rcases h with rfl | rfl
  · cases ra <;> cases rb <;> simp only [augF] at e <;> try (cases e; done)
    · cases e
      exact iop_add pins s σ H _ _ v u Q I rx ry ⟨_, _, rfl, rfl, k.now (.int _)⟩
    · obtain ⟨h1, rfl⟩ := if_some e
      exact iop_add_str pins s σ H _ _ v u Q I rx ry ⟨_, _, rfl, rfl, le_line h1, k.now (.str _)⟩
  · cases ra <;> cases rb <;> simp only [augF] at e <;> try (cases e; done)
    cases e
    exact iop_sub pins s σ H _ _ v u Q I rx ry ⟨_, _, rfl, rfl, k.now (.int _)⟩

/-! ### loops -/
theorem rd_while {K : PySem.W.Frag} {c : Env' → Option Bool} {b : Env' → Option Fl} (n : Nat) : ∀ D' σ H, rdS K (whileF c b n) D' σ H → tWhile (rdT K c) (rdS K b) D' σ H := by
  rintro D' σ H ⟨H0, M0, L, A, E, fl, si, h, k⟩
  refine ⟨fun m σ' H' => ∃ L' A' E', SI K H0 M0 L' A' σ' H' E' ∧ Evo A H A' H' ∧ whileF c b m E' = some fl, ⟨n, L, A, E, si, Evo.refl, h⟩, ?_⟩
  rintro m σ1 H1 ⟨L1, A1, E1, s1, e1, w1⟩
  cases m with
  | zero => cases w1
  | succ m =>
    simp only [whileF] at w1
    obtain ⟨t, ht, w1⟩ := Option.bind_eq_some_iff.mp w1
    refine ⟨L1, A1, E1, t, s1.er, ht, fun H2 s2 => ?_⟩
    have si2 := s1.mono s2
    have ev2 : Evo A H A1 H2 := e1.trans (Evo.same s2)
    cases t with
    | false =>
      simp only [Bool.false_eq_true, if_false] at w1 ⊢
      cases w1
      exact k L1 A1 σ1 H2 si2 ev2
    | true =>
      simp only [if_true] at w1 ⊢
      obtain ⟨f, hf, w1⟩ := Option.bind_eq_some_iff.mp w1
      refine ⟨fun σ' H' => ∃ L' A' E', SI K H0 M0 L' A' σ' H' E' ∧ Evo A H A' H' ∧ whileF c b m E' = some fl, fun σ' H' z => ⟨m, Nat.lt_succ_self _, z⟩, H0, M0, L1, A1, E1, f, si2, hf, ?_⟩
      cases f with
      | nx E' => exact fun L' A' σ' H' si' ev' => ⟨L', A', E', si', ev2.trans ev', w1⟩
      | ct E' => exact fun L' A' σ' H' si' ev' => ⟨L', A', E', si', ev2.trans ev', w1⟩
      | bk E' =>
        cases w1
        exact fun L' A' σ' H' si' ev' => k L' A' σ' H' si' (ev2.trans ev')
      | rt d =>
        cases w1
        exact k
theorem rd_for {K : PySem.W.Frag} {t : Tg} {fi : Env' → Option (List D)} {b : Env' → Option Fl} : ∀ D' σ H, rdS K (fun E => (fi E).bind fun ds => forF t b ds E) D' σ H → tFor (rdI K fi) (rdG K t) (rdS K b) D' σ H := by
  rintro D' σ H ⟨H0, M0, L, A, E, fl, si, h, k⟩
  obtain ⟨ds, hd, h⟩ := Option.bind_eq_some_iff.mp h
  refine ⟨L, A, E, ds, si.er, hd, fun J H1 s1 wk => ?_⟩
  have ev1 : Evo A H A H1 := Evo.same s1
  refine ⟨fun i m σ' H' => m = ds.length - i ∧ i ≤ ds.length ∧ ∃ L' A' E', SI K H0 M0 L' A' σ' H' E' ∧ Evo A H1 A' H' ∧ forF t b (ds.drop i) E' = some fl, ⟨ds.length, by omega, Nat.zero_le _, L, A, E, si.mono s1, Evo.refl, h⟩, ?_⟩
  rintro i m σ2 H2 ⟨rfl, hi, L2', A2, E2, s2, e2, w2⟩
  obtain ⟨g1, g2⟩ := wk i A2 H2 e2.1 s2.er.dom
  by_cases hlt : i < ds.length
  · obtain ⟨go, yl⟩ := g1 _ (List.getElem?_eq_getElem hlt)
    rw [List.drop_eq_getElem_cons hlt] at w2
    simp only [forF] at w2
    obtain ⟨E3, h3, w2⟩ := Option.bind_eq_some_iff.mp w2
    obtain ⟨f, hf, w2⟩ := Option.bind_eq_some_iff.mp w2
    refine .inr ⟨go, fun σ' H' => i + 1 ≤ ds.length ∧ ∃ L' A' E', SI K H0 M0 L' A' σ' H' E' ∧ Evo A H1 A' H' ∧ forF t b (ds.drop (i + 1)) E' = some fl, fun σ' H' z => ⟨ds.length - (i + 1), by omega, rfl, z⟩, fun x H3 hy => ?_⟩
    obtain ⟨s3, rx⟩ := yl x H3 hy
    refine ⟨L2', A2, E2, _, E3, s2.er.mono s3, rx, h3, fun σ3 er3 _ => ?_⟩
    have si3 : SI K H0 M0 L2' A2 σ3 H3 E3 := s2.with s3 er3
    have ev3 : Evo A H1 A2 H3 := e2.trans (Evo.same s3)
    refine ⟨H0, M0, L2', A2, E3, f, si3, hf, ?_⟩
    cases f with
    | nx E' => exact fun L' A' σ' H' si' ev' => ⟨by omega, L', A', E', si', ev3.trans ev', w2⟩
    | ct E' => exact fun L' A' σ' H' si' ev' => ⟨by omega, L', A', E', si', ev3.trans ev', w2⟩
    | bk E' =>
      cases w2
      exact fun L' A' σ' H' si' ev' => k L' A' σ' H' si' ((ev1.trans ev3).trans ev')
    | rt d =>
      cases w2
      exact k
  · have e : i = ds.length := by omega
    subst e
    rw [List.drop_length] at w2
    simp only [forF] at w2
    cases w2
    exact .inl ⟨g2 (Nat.le_refl _), k L2' A2 σ2 H2 s2 (ev1.trans e2)⟩
theorem rd_seq {K : PySem.W.Frag} {f g : Env' → Option Fl} {fz : List Nat} : ∀ D' σ H, rdS K (fun E => seqF f g (frz fz E)) D' σ H → tSeq (rdS K f) (rdS K g) D' σ H := by
  rintro D' σ H ⟨H0, M0, L, A, E, fl, si, h, k⟩
  obtain ⟨L1, A1, s1, e1⟩ := si.frz fz
  obtain ⟨f1, h1, h⟩ := Option.bind_eq_some_iff.mp h
  refine ⟨H0, M0, L1, A1, _, f1, s1, h1, ?_⟩
  cases f1 with
  | nx E' => exact fun L' A' σ' H' si' ev' => ⟨H0, M0, L', A', E', fl, si', h, k.evo (e1.trans ev')⟩
  | bk E' => cases h; exact fun L' A' σ' H' si' ev' => k L' A' σ' H' si' (e1.trans ev')
  | ct E' => cases h; exact fun L' A' σ' H' si' ev' => k L' A' σ' H' si' (e1.trans ev')
  | rt d => cases h; exact k

theorem sub_assign {o i : Expr} {pos : Pos} {env : Env} (h : plainB i = true) : ∀ v, assign (.Subscript o i pos) env v = (do
      let ov ← holding [v] (eval o env)
      let iv ← holding [v, ov] (eval i env)
      standAt pos
      holding [v, ov, iv] (setItem ov iv v)
      release [v, ov, iv] []) := by
  intro v
  cases i <;> first | rfl | cases h
/-! ### the theorem -/
variable (cf gl) (wn : Nat)
set_option maxHeartbeats 4000000 in
mutual
theorem ok1 : ∀ (s : Sm) (S : Ctx) (X : Cx) (st : Stmt), GoodS S cf gl X → ch1 s S st = true → PS X st (rdS X.K (ex1 cf gl wn s))
  | .asg t e, S, X, st, G, h => by
    simp only [ch1] at h
    split at h
    · rename_i tg v pos
      simp only [Bool.and_eq_true] at h
      obtain ⟨h1, h2, h3, h4, h5, h6⟩ := h
      simp only [ex1]
      by_cases hs : swB S tg v = false
      · refine ps_imp (ps_asg ((okE cf gl e).1 S X v G.toGood h2) (okG t S X tg G.toGood h1) (by show swapsWith v (some tg) _ _ = _; exact sws_no G h5 hs) (swp_none h6 h4) (asg1 h3)) ?_
        rintro D' σ H ⟨H0, M0, L, A, E, fl, si, h, k⟩
        obtain ⟨d, h1, h⟩ := Option.bind_eq_some_iff.mp h
        obtain ⟨E', h2, rfl⟩ := Option.map_eq_some_iff.mp h
        exact ⟨L, A, E, d, si.er, h1, fun v H1 s1 r1 => ⟨L, A, E, d, E', si.er.mono s1, r1, h2, fun σ' er' _ => k L A σ' H1 (si.with s1 er') (Evo.same s1)⟩⟩
      · have hs' : swB S tg v = true := by simpa using hs
        cases v <;> try (cases hs'; done)
        cases tg <;> try (cases hs'; done)
        cases e <;> try (simp only [chE, nonB, blB, intB, strB, gloB, nmE, lenOB] at h2; cases h2; done)
        rename_i l
        cases t with
        | tp ts => simp only [tgB] at h1; cases h1
        | nm i =>
          refine ps_imp (ps_storeL (l := l) G h1 (by simpa only [chE] using h2) h5) ?_
          rintro D' σ H ⟨H0, M0, L, A, E, fl, si, h, k⟩
          obtain ⟨d, h1, h⟩ := Option.bind_eq_some_iff.mp h
          obtain ⟨E', h2, rfl⟩ := Option.map_eq_some_iff.mp h
          simp only [ev] at h1
          obtain ⟨ds, h3, rfl⟩ := Option.map_eq_some_iff.mp h1
          simp only [asgT] at h2
          cases h2
          refine ⟨L, A, E, ds, si.er, h3, fun p vs H1 s1 hp hp' r => ?_⟩
          have hd := (si.er.mono s1).dom
          have hpA : p ∉ A := fun z => si.er.dom p z hp
          exact k L A _ H1 (si.with s1 ((si.er.mono s1).set (.lst (mask_some.mpr ⟨hpA, hp'⟩) (r.mono (mask_sub (fun a ha => List.mem_cons_of_mem _ ha) H1))))) (Evo.same s1)
    · cases h
  | .asgO i l, S, X, st, G, h => by
    simp only [ch1] at h
    split at h
    · simp only [Bool.and_eq_true] at h
      obtain ⟨h1, h2, h3⟩ := h
      simp only [ex1]
      refine ps_imp (ps_storeL G h1 h2 h3) ?_
      rintro D' σ H ⟨H0, M0, L, A, E, fl, si, h, k⟩
      obtain ⟨ds, h1, rfl⟩ := Option.map_eq_some_iff.mp h
      refine ⟨L, A, E, ds, si.er, h1, fun p vs H1 s1 hp hp' r => ?_⟩
      obtain ⟨si', ev'⟩ := si.own s1 (i := i) hp hp' r
      exact k _ _ _ _ si' ev'
    · cases h
  | .par i j a b, S, X, st, G, h => by
    simp only [ch1] at h
    split at h
    · simp only [Bool.and_eq_true, decide_eq_true_eq] at h
      obtain ⟨h1, h2, h3, h4, h5, h6⟩ := h
      have h4' := h4
      unfold par2B at h4'
      simp only [Bool.and_eq_true, decide_eq_true_eq, Bool.not_eq_true'] at h4'
      obtain ⟨hx, hy, _, _, ha, hb, _, _⟩ := h4'
      simp only [ex1]
      refine ps_imp (ps_par (i := i) (j := j) G.calm (by rw [G.N]; exact G.nd) (by rw [G.N]; exact h1) (by rw [G.N]; exact h2) h3 (lk G hx) (lk G hy)
        (va_cons ((okE cf gl a).1 S X _ G.toGood h5) (va_cons ((okE cf gl b).1 S X _ G.toGood h6) va_nil (star_cons hb)) (star_cons ha)) (swp2 G h4) rfl) ?_
      rintro D' σ H ⟨H0, M0, L, A, E, fl, si, h, k⟩
      obtain ⟨x, h1, h⟩ := Option.bind_eq_some_iff.mp h
      obtain ⟨y, h2, rfl⟩ := Option.map_eq_some_iff.mp h
      refine ⟨L, A, E, [x, y], si.er, by simp [consA, h1, h2], fun vs H1 s1 r1 => ?_⟩
      obtain ⟨v, w, rfl, rv, rw'⟩ := r1.inv2
      exact ⟨v, w, rfl, k L A _ H1 (si.with s1 (((si.er.mono s1).set rv).set rw')) (Evo.same s1)⟩
    · cases h
  | .par3 i j l a b c, S, X, st, G, h => by
    simp only [ch1] at h
    split at h
    · simp only [Bool.and_eq_true, decide_eq_true_eq] at h
      obtain ⟨h1, h2, h3, n1, n2, n3, h4, h5, h6, h7⟩ := h
      have h4' := h4
      unfold par3B at h4'
      simp only [Bool.and_eq_true, decide_eq_true_eq, Bool.not_eq_true'] at h4'
      obtain ⟨hx, hy, hz, _, _, _, _, _, ha, hb, hc, _, _⟩ := h4'
      simp only [ex1]
      refine ps_imp (ps_par3 (i := i) (j := j) (l := l) G.calm (by rw [G.N]; exact G.nd) (by rw [G.N]; exact h1) (by rw [G.N]; exact h2) (by rw [G.N]; exact h3) n1 n2 n3 (lk G hx) (lk G hy) (lk G hz)
        (va_cons ((okE cf gl a).1 S X _ G.toGood h5) (va_cons ((okE cf gl b).1 S X _ G.toGood h6) (va_cons ((okE cf gl c).1 S X _ G.toGood h7) va_nil (star_cons hc)) (star_cons hb)) (star_cons ha)) (swp3 G h4) rfl) ?_
      rintro D' σ H ⟨H0, M0, L, A, E, fl, si, h, k⟩
      obtain ⟨x, h1, h⟩ := Option.bind_eq_some_iff.mp h
      obtain ⟨y, h2, h⟩ := Option.bind_eq_some_iff.mp h
      obtain ⟨z, h3, rfl⟩ := Option.map_eq_some_iff.mp h
      refine ⟨L, A, E, [x, y, z], si.er, by simp [consA, h1, h2, h3], fun vs H1 s1 r1 => ?_⟩
      cases r1 with
      | cons ru r1 =>
        obtain ⟨v, w, rfl, rv, rw'⟩ := r1.inv2
        exact ⟨_, v, w, rfl, k L A _ H1 (si.with s1 ((((si.er.mono s1).set ru).set rv).set rw')) (Evo.same s1)⟩
    · cases h
  | .aug i o e, S, X, st, G, h => by
    simp only [ch1] at h
    split at h
    · simp only [Bool.and_eq_true, decide_eq_true_eq] at h
      obtain ⟨rfl, h1, h2, h3, h4⟩ := h
      obtain ⟨g1, g2⟩ := G.lc h3
      simp only [ex1]
      refine ps_imp (ps_aug (i := i) (ti := rD2 X.K (augF o)) (by rw [G.N]; exact G.nd) (by rw [G.N]; exact h2) g1 ((okE cf gl e).1 S X _ G.toGood h4) (iop_ok h1) g2) ?_
      rintro D' σ H ⟨H0, M0, L, A, E, fl, si, h, k⟩
      obtain ⟨x, hx, h⟩ := Option.bind_eq_some_iff.mp h
      obtain ⟨y, hy, h⟩ := Option.bind_eq_some_iff.mp h
      obtain ⟨z, hz, rfl⟩ := Option.map_eq_some_iff.mp h
      unfold look at hx
      split at hx
      · rename_i d' e'
        cases hx
        obtain ⟨v, f1, f2⟩ := si.er.val i x e'
        refine ⟨v, f1, L, A, E, y, si.er, hy, fun w H1 s1 r1 => ⟨A, x, y, z, (si.er.mono s1).dom, f2.mono (mask_same s1), r1, hz, fun u H2 s2 r2 => ?_⟩⟩
        exact k L A _ H2 (si.with (s1.trans s2) (((si.er.mono s1).mono s2).set r2)) (Evo.same (s1.trans s2))
      · cases hx
    · cases h
  | .app i e, S, X, st, G, h => by
    simp only [ch1] at h
    split at h
    · simp only [Bool.and_eq_true, decide_eq_true_eq] at h
      obtain ⟨rfl, h1, h2, h3, h4⟩ := h
      obtain ⟨g1, g2, g3, g4⟩ := G.nm h1
      simp only [ex1]
      refine ps_imp (ps_expr (pe_bm PySem.F.plainAttrs_list PySem.F.slot_list_append PySem.F.type_list_append mt_append (pe_var g1 g2 g3 g4) (va_cons ((okE cf gl e).1 S X _ G.toGood h2) va_nil (star_cons h3)) rfl (by rw [star_cons h3]; rfl) h4 (star_cons h3) rfl) rfl) ?_
      rintro D' σ H ⟨H0, M0, L, A, E, fl, si, h, k⟩
      unfold appF at h
      split at h
      · rename_i ds e'
        obtain ⟨d, h5, h6⟩ := Option.bind_eq_some_iff.mp h
        obtain ⟨h7, rfl⟩ := if_some h6
        obtain ⟨p, vs, f1, f2, f3, f4⟩ := si.er.own i ds e'
        refine ⟨.ref p, f1, .inl ⟨rfl, vs, .inl (.inl f3)⟩, L, A, E, [d], si.er, by simp [consA, h5], fun ws H1 s1 r1 => ?_⟩
        obtain ⟨v, rfl, rv⟩ := r1.inv1
        refine ⟨p, vs, v, rfl, rfl, s1 _ _ f3, by rw [f4.length, sizeLine_eq]; exact h7, ?_⟩
        obtain ⟨si', ev'⟩ := (si.mono s1).upd e' f1 f2 ((f4.mono (mask_same s1)).append (.one rv))
        exact k _ _ _ _ si' ((Evo.same s1).trans ev')
      · cases h
    · cases h
  | .seti i j e, S, X, st, G, h => by
    simp only [ch1] at h
    split at h
    · simp only [Bool.and_eq_true, Bool.not_eq_true'] at h
      obtain ⟨h1, h2, h3, h0, h4⟩ := h
      obtain ⟨g1, g2, g3, g4⟩ := G.nm h1
      simp only [ex1]
      refine ps_imp (ps_asg ((okE cf gl e).1 S X _ G.toGood h3) (pg_sub (pe_var g1 g2 g3 g4) ((okE cf gl j).1 S X _ G.toGood h2) set_list (sub_assign h0)) (by unfold swapsWithSole; exact sw_no h4) rfl rfl) ?_
      rintro D' σ H ⟨H0, M0, L, A, E, fl, si, h, k⟩
      unfold setiF at h
      split at h
      · rename_i ds e'
        obtain ⟨d, h5, h6⟩ := Option.bind_eq_some_iff.mp h
        obtain ⟨y, h7, h8⟩ := Option.bind_eq_some_iff.mp h6
        obtain ⟨p, vs, f1, f2, f3, f4⟩ := si.er.own i ds e'
        refine ⟨L, A, E, d, si.er, h5, fun v H1 s1 r1 => ⟨.ref p, f1, L, A, E, y, si.er.mono s1, h7, fun w H2 s2 r2 => ?_⟩⟩
        cases y with
        | int n =>
          obtain ⟨m, h9, rfl⟩ := Option.map_eq_some_iff.mp h8
          cases r2
          have s12 := s1.trans s2
          refine ⟨p, vs, n, m, rfl, rfl, s12 _ _ f3, by rw [f4.length]; exact h9, ?_⟩
          obtain ⟨si', ev'⟩ := (si.mono s12).upd e' f1 f2 (RepA.set (r1.mono (mask_same s2)) m (f4.mono (mask_same s12)))
          exact k _ _ _ _ si' ((Evo.same s12).trans ev')
        | _ => cases h8
      · cases h
    · cases h
  | .drop e, S, X, st, G, h => by
    simp only [ch1] at h
    split at h
    · simp only [Bool.and_eq_true, Bool.not_eq_true'] at h
      simp only [ex1]
      refine ps_imp (ps_expr ((okE cf gl e).1 S X _ G.toGood h.1) (sw_no h.2)) ?_
      rintro D' σ H ⟨H0, M0, L, A, E, fl, si, h, k⟩
      obtain ⟨d, h1, rfl⟩ := Option.map_eq_some_iff.mp h
      exact ⟨L, A, E, d, si.er, h1, fun v H1 s1 r1 => k L A σ H1 (si.mono s1) (Evo.same s1)⟩
    · cases h
  | .ret e, S, X, st, G, h => by
    simp only [ch1] at h
    split at h
    · simp only [ex1]
      refine ps_imp (ps_ret ((okE cf gl e).1 S X _ G.toGood h)) ?_
      rintro D' σ H ⟨H0, M0, L, A, E, fl, si, h, k⟩
      obtain ⟨d, h1, rfl⟩ := Option.map_eq_some_iff.mp h
      exact ⟨L, A, E, d, si.er, h1, fun v H1 s1 r1 => k v H1 (si.same.trans s1) ((si.mono s1).out r1)⟩
    · cases h
  | .retN, S, X, st, G, h => by
    simp only [ch1] at h
    split at h
    · simp only [ex1]
      refine ps_imp ps_retN ?_
      rintro D' σ H ⟨H0, M0, L, A, E, fl, si, h, k⟩
      cases h
      exact k _ H si.same .non
    · cases h
  | .ife c a b, S, X, st, G, h => by
    simp only [ch1] at h
    split at h
    · simp only [Bool.and_eq_true] at h
      obtain ⟨h1, h2, h3⟩ := h
      simp only [ex1]
      refine ps_imp (ps_if ((okE cf gl c).2 S X _ G.toGood h1) (oks a S X _ G h2) (oks b S X _ G h3)) ?_
      rintro D' σ H ⟨H0, M0, L, A, E, fl, si, h, k⟩
      obtain ⟨t, ht, h⟩ := Option.bind_eq_some_iff.mp h
      refine ⟨L, A, E, t, si.er, ht, fun H1 s1 => ?_⟩
      cases t with
      | true => exact ⟨H0, M0, L, A, E, fl, si.mono s1, by simpa using h, k.evo (Evo.same s1)⟩
      | false => exact ⟨H0, M0, L, A, E, fl, si.mono s1, by simpa using h, k.evo (Evo.same s1)⟩
    · cases h
  | .whl c b, S, X, st, G, h => by
    simp only [ch1] at h
    split at h
    · simp only [Bool.and_eq_true] at h
      simp only [ex1]
      exact ps_imp (ps_while G.own ((okE cf gl c).2 S X _ G.toGood h.1) (oks b S X _ G h.2)) (rd_while wn)
    · cases h
  | .for_ t it b, S, X, st, G, h => by
    simp only [ch1] at h
    split at h
    · simp only [Bool.and_eq_true, Bool.not_eq_true'] at h
      obtain ⟨h1, h2, h3, h4⟩ := h
      simp only [ex1]
      exact ps_imp (ps_for G.own G.calm (okI cf gl it S X _ _ G.toGood h2) (okG t S X _ G.toGood h1) (oks b S X _ G h3) (noset h4)) rd_for
    · cases h
  | .pass, S, X, st, G, h => by
    simp only [ch1] at h
    split at h
    · simp only [ex1]
      refine ps_imp ps_pass ?_
      rintro D' σ H ⟨H0, M0, L, A, E, fl, si, h, k⟩
      cases h
      exact k L A σ H si Evo.refl
    · cases h
  | .brk, S, X, st, G, h => by
    simp only [ch1] at h
    split at h
    · simp only [ex1]
      refine ps_imp ps_break ?_
      rintro D' σ H ⟨H0, M0, L, A, E, fl, si, h, k⟩
      cases h
      exact k L A σ H si Evo.refl
    · cases h
  | .cont, S, X, st, G, h => by
    simp only [ch1] at h
    split at h
    · simp only [ex1]
      refine ps_imp ps_continue ?_
      rintro D' σ H ⟨H0, M0, L, A, E, fl, si, h, k⟩
      cases h
      exact k L A σ H si Evo.refl
    · cases h
  | .rais, S, X, st, G, h => by
    simp only [ex1]
    refine ps_imp ps_never ?_
    rintro D' σ H ⟨H0, M0, L, A, E, fl, si, h, k⟩
    cases h
theorem oks : ∀ (r : Sms) (S : Ctx) (X : Cx) (st : List Stmt), GoodS S cf gl X → chs r S st = true → PSs X st (rdS X.K (exs cf gl wn r))
  | .nil, S, X, st, G, h => by
    simp only [chs] at h
    split at h
    · simp only [exs]
      refine pss_imp pss_nil ?_
      rintro D' σ H ⟨H0, M0, L, A, E, fl, si, h, k⟩
      cases h
      exact k L A σ H si Evo.refl
    · cases h
  | .cons fz s r, S, X, st, G, h => by
    simp only [chs] at h
    split at h
    · simp only [Bool.and_eq_true] at h
      simp only [exs]
      exact pss_imp (pss_cons (ok1 s S X _ G h.1) (oks r S X _ G h.2)) rd_seq
    · cases h
end
end
end Vp

end

section
set_option Elab.async false
set_option linter.all false
set_option autoImplicit false
set_option maxRecDepth 100000
/-! Vp9: defs, their levels, the program's top. -/
namespace Vp
open PySem PySem.Spec PyProof.Rows L2

/-! ### binding of plain parameters -/
theorem zip_lookup : ∀ {ns : List Str} {us : List Value} {n : Str}, ns.length = us.length → n ∈ ns → ((ns.zip us).lookup n).isSome = true
  | [], _, _, _, h => by cases h
  | a :: ns, [], _, h, _ => by cases h
  | a :: ns, u :: us, n, hl, h => by
    rw [List.zip_cons_cons, List.lookup_cons]
    cases e : n == a with
    | true => rfl
    | false =>
      refine zip_lookup (Nat.succ.inj hl) ?_
      rcases List.mem_cons.mp h with rfl | h
      · simp at e
      · exact h
theorem zip_filterMap : ∀ {ns ms : List Str} {us ws : List Value}, ns.length = us.length → ms.length = ws.length → (ms ++ ns).Nodup → ns.filterMap (fun n => (((ms ++ ns).zip (ws ++ us)).lookup n).map (n, ·)) = ns.zip us
  | [], _, [], _, _, _, _ => rfl
  | [], _, _ :: _, _, h, _, _ => by cases h
  | a :: ns, _, [], _, h, _, _ => by cases h
  | a :: ns, ms, u :: us, ws, hl, hm, nd => by
    have e1 : ((ms ++ a :: ns).zip (ws ++ u :: us)).lookup a = some u := by
      have key : ∀ (ms : List Str) (ws : List Value), ms.length = ws.length → a ∉ ms → ((ms ++ a :: ns).zip (ws ++ u :: us)).lookup a = some u := by
        intro ms
        induction ms with
        | nil =>
          intro ws h _
          cases ws with
          | nil => simp [List.lookup_cons]
          | cons _ _ => cases h
        | cons b ms ih =>
          intro ws h hn
          cases ws with
          | nil => cases h
          | cons w ws =>
            simp only [List.cons_append, List.zip_cons_cons, List.lookup_cons]
            have : (a == b) = false := by simpa using fun z => hn (by rw [z]; exact List.mem_cons_self)
            rw [this]
            exact ih ws (Nat.succ.inj h) fun z => hn (List.mem_cons_of_mem _ z)
      refine key ms ws hm fun z => ?_
      rw [List.nodup_append] at nd
      exact nd.2.2 a z a List.mem_cons_self rfl
    rw [List.filterMap_cons, e1]
    simp only [Option.map_some, List.zip_cons_cons]
    congr 1
    have e2 : ms ++ a :: ns = (ms ++ [a]) ++ ns := by simp
    have e3 : ws ++ u :: us = (ws ++ [u]) ++ us := by simp
    rw [e2, e3]
    exact zip_filterMap (Nat.succ.inj hl) (by simp [hm]) (by rw [← e2]; exact nd)
theorem bind_plain {fd : FuncData} {as : List Arg} {us : List Value} (hp : fd.params = ⟨[], as, none, [], [], none, []⟩) (hd : fd.defaults = .none) (hn : (as.map (·.arg)).Nodup) (hl : us.length = as.length) : bindArgs fd ⟨us, []⟩ = pure ((as.map (·.arg)).zip us) := by
  have hlen : (as.map (·.arg)).length = us.length := by rw [List.length_map, hl]
  unfold bindArgs
  rw [hp, hd]
  have e0 : ¬ (us.length > (as.map (·.arg)).length) := by omega
  have e1 : (as.map (·.arg)).filter (fun n => (((as.map (·.arg)).zip us).lookup n).isNone) = [] := by
    rw [List.filter_eq_nil_iff]
    intro n hn
    have := zip_lookup hlen hn
    cases e : ((as.map (·.arg)).zip us).lookup n with
    | none =>
      rw [e] at this
      cases this
    | some v => simp
  have e2 := zip_filterMap (ns := as.map (·.arg)) (ms := []) (us := us) (ws := []) hlen rfl (by simpa using hn)
  simp only [List.nil_append] at e2
  have e3 : seqItems? .none = pure none := rfl
  clear hp hd hl
  generalize hns : as.map (·.arg) = ns at *
  have f0 : (decide (us.length > ns.length) && (none : Option Arg).isNone) = false := by rw [decide_eq_false e0]; rfl
  have f1 : ns.take (ns.length - (List.drop (((none : Option (Array Value)).getD #[]).toList.length - ns.length) ((none : Option (Array Value)).getD #[]).toList).length) = ns := by simp
  simp only [List.map_nil, List.nil_append, List.append_nil, List.forIn_nil, e3, pure_bind, hns, f0, f1, e1]
  simp [e2]

/-! ### defs as data -/
structure Fn where
  np : Nat
  ns : Nat
  body : Sms
def startE (ns : Nat) (ds : List D) : Env' := ds.map .f ++ List.replicate (ns - ds.length) .u
def outF : Fl → Option D
  | .rt d => some d
  | .nx _ => some .non
  | _ => none
section
variable (tab : Nat → Option Fn) (gl : Nat → Option D) (wn : Nat)
/-- a call of the def f, k calls deep at most -/
def callN : Nat → Nat → List D → Option D
  | 0, _, _ => none
  | k + 1, f, ds => (tab f).bind fun fn => if ds.length = fn.np then (exs (callN k) gl wn fn.body (startE fn.ns ds)).bind outF else none
end
structure Entry where
  id : Nat
  place : Nat
  N : List Str
  fn : Fn
structure Prog where
  ents : List Entry
  gls : List (Nat × Str × D)
  frees : List Str
  gcd : Bool
def Prog.tab (p : Prog) (f : Nat) : Option Fn := (p.ents.find? fun e => e.id == f).map (·.fn)
def Prog.gl (p : Prog) (n : Nat) : Option D := (p.gls.lookup n).map (·.2)
def Prog.call (p : Prog) (wn k f : Nat) (ds : List D) : Option D := callN p.tab p.gl wn k f ds
def stName : Stmt → Str
  | .FunctionDef (name := n) .. => n
  | _ => ""
def stAt (P : Program) (i : Nat) : Stmt := P.main.body.getD i (.Pass ⟨0, 0, 0, 0⟩)
def Prog.ctx (p : Prog) (P : Program) (e : Entry) : Ctx := ⟨e.N, defScope (stAt P e.place), fun _ => true, p.ents.map fun e => (e.id, stName (stAt P e.place)), p.gls.map fun g => (g.1, g.2.1), p.frees, p.gcd⟩
def argsB (a : Arguments) : Bool := a.posonlyargs.isEmpty && (a.vararg.isNone && (a.kwonlyargs.isEmpty && (a.kw_defaults.isEmpty && (a.kwarg.isNone && a.defaults.isEmpty))))
def psOf (st : Stmt) : List Str := (defArgs st).args.map (·.arg)
def scopeB (N ps : List Str) (sc : Scope) : Bool :=
  (sc.kind == .function) && (!sc.isCoroutine && (!sc.isGenerator && (decide N.Nodup && (decide (N.take ps.length = ps) && ((ps.all fun x => decide (sc.names.lookup x = some .local) || decide (sc.names.lookup x = some .cell)) && (sc.names.all fun y => y.2 != .free))))))
def Prog.entB (p : Prog) (P : Program) (e : Entry) : Bool :=
  argsB (defArgs (stAt P e.place)) && (scopeB e.N (psOf (stAt P e.place)) (defScope (stAt P e.place)) && (decide (e.fn.np = (psOf (stAt P e.place)).length) && (decide (e.fn.ns = e.N.length) && chs e.fn.body (p.ctx P e) (defBody (stAt P e.place)))))
theorem argsB_ok {a : Arguments} (h : argsB a = true) : a = ⟨[], a.args, none, [], [], none, []⟩ := by
  obtain ⟨a1, a2, a3, a4, a5, a6, a7⟩ := a
  simp only [argsB, Bool.and_eq_true, List.isEmpty_iff, Option.isNone_iff_eq_none] at h
  obtain ⟨rfl, rfl, rfl, rfl, rfl, rfl⟩ := h
  rfl
theorem scopeB_ok {N ps : List Str} {sc : Scope} (h : scopeB N ps sc = true) : FnScope N ps sc := by
  simp only [scopeB, Bool.and_eq_true, Bool.not_eq_true', decide_eq_true_eq, List.all_eq_true, Bool.or_eq_true] at h
  obtain ⟨h1, h2, h3, h4, h5, h6, h7⟩ := h
  exact ⟨eq_of_beq h1, h2, h3, h4, h5, h6, fun y hy z => by have := h7 y hy; rw [z] at this; cases this⟩

/-- what the head tells -/
structure Facts (p : Prog) (P : Program) (K : PySem.W.Frag) (mg : Str → Option Value) : Prop where
  defs : ∀ e ∈ p.ents, ∃ (f : Addr) (fd : FuncData), FunD K (stName (stAt P e.place)) (stName (stAt P e.place)) (defArgs (stAt P e.place)) (defBody (stAt P e.place)) (defScope (stAt P e.place)) [] [] f fd ∧ mg (stName (stAt P e.place)) = some (.ref f)
  free : ∀ x, x ∈ p.frees → mg x = none
  gls : ∀ n x d, p.gls.lookup n = some (x, d) → ∃ v u, mg x = some u ∧ RelV v u ∧ ∀ H, Rep K H v d
  gcd : p.gcd = true → mg "gcd" = some (.builtin "math.gcd")
theorem find_map {p : Prog} {P : Program} {f : Nat} {x : Str} (h : (p.ents.map fun e => (e.id, stName (stAt P e.place))).lookup f = some x) : ∃ e, p.ents.find? (fun e => e.id == f) = some e ∧ e ∈ p.ents ∧ e.id = f ∧ stName (stAt P e.place) = x := by
  have key : ∀ l : List Entry, (l.map fun e => (e.id, stName (stAt P e.place))).lookup f = some x → ∃ e, l.find? (fun e => e.id == f) = some e ∧ e ∈ l ∧ e.id = f ∧ stName (stAt P e.place) = x := by
    intro l
    induction l with
    | nil => intro h; cases h
    | cons a l ih =>
      intro h
      rw [List.map_cons, List.lookup_cons] at h
      rw [List.find?_cons]
      cases q : f == a.id with
      | true =>
        rw [q] at h
        have : (a.id == f) = true := by
          have := eq_of_beq q
          simp [this]
        rw [this]
        exact ⟨a, rfl, List.mem_cons_self, (eq_of_beq this), Option.some.inj h⟩
      | false =>
        rw [q] at h
        have : (a.id == f) = false := by
          have := ne_of_beq_false q
          simpa using fun z => this z.symm
        rw [this]
        obtain ⟨e, h1, h2, h3, h4⟩ := ih h
        exact ⟨e, h1, List.mem_cons_of_mem _ h2, h3, h4⟩
  exact key _ h
theorem gl_map {p : Prog} {n : Nat} {x : Str} {d : D} (h : (p.gls.map fun g => (g.1, g.2.1)).lookup n = some x) (hd : p.gl n = some d) : p.gls.lookup n = some (x, d) := by
  unfold Prog.gl at hd
  obtain ⟨⟨y, e⟩, h1, h2⟩ := Option.map_eq_some_iff.mp hd
  have key : ∀ l : List (Nat × Str × D), l.lookup n = some (y, e) → (l.map fun g => (g.1, g.2.1)).lookup n = some y := by
    intro l
    induction l with
    | nil => intro h; cases h
    | cons a l ih =>
      intro h
      rw [List.map_cons, List.lookup_cons]
      obtain ⟨a1, a2, a3⟩ := a
      rw [List.lookup_cons] at h
      cases q : n == a1 with
      | true =>
        rw [q] at h
        cases h
        rfl
      | false =>
        rw [q] at h
        exact ih h
  have := key _ h1
  rw [h] at this
  cases this
  cases h2
  exact h1

section
variable {p : Prog} {P : Program} {w : World} {K : PySem.W.Frag} {mg : Str → Option Value} {base : Heap} {wn : Nat}
theorem rep_get {K : PySem.W.Frag} {H : Hp} : ∀ {vs : List V} {ds : List D} {i : Nat} {d : D}, RepA K H vs ds → (ds.map Cell.f)[i]? = some (.f d) → ∃ v, (vs.map some)[i]? = some (some v) ∧ Rep K H v d := by
  intro vs ds i d r h
  rw [List.getElem?_map] at h
  obtain ⟨d', h1, h2⟩ := Option.map_eq_some_iff.mp h
  cases h2
  obtain ⟨v, h3, h4⟩ := r.get h1
  exact ⟨v, by rw [List.getElem?_map, h3]; rfl, h4⟩
theorem start_er {N : List Str} {H : Hp} {A : List Addr} {vs : List V} {ds : List D} {ns : Nat} (hn : ns = N.length) (hl : vs.length ≤ N.length) (hd : Dom A H) (r : RepA K (mask A H) vs ds) : ER K [] A (L2.start N vs) H (startE ns ds) := by
  have hlen := r.length
  refine ⟨?_, hd, fun a h => (by cases h), fun i d h => ?_, fun i es h => ?_, fun i j es fs q h => ?_⟩
  · unfold L2.start startE
    simp only [List.length_append, List.length_map, List.length_replicate]
    omega
  · unfold startE at h
    unfold L2.start
    by_cases hi : i < ds.length
    · rw [List.getElem?_append_left (by simpa using hi)] at h
      obtain ⟨v, h1, h2⟩ := rep_get r h
      exact ⟨v, by rw [List.getElem?_append_left (by simp; omega)]; exact h1, h2⟩
    · rw [List.getElem?_append_right (by simpa using hi), List.getElem?_replicate] at h
      split at h <;> cases h
  all_goals
    unfold startE at h
    by_cases hi : i < ds.length
    · rw [List.getElem?_append_left (by simpa using hi), List.getElem?_map] at h
      obtain ⟨_, _, h2⟩ := Option.map_eq_some_iff.mp h
      cases h2
    · rw [List.getElem?_append_right (by simpa using hi), List.getElem?_replicate] at h
      split at h <;> cases h
theorem level (F : Facts p P K mg) (hc : ∀ e ∈ p.ents, p.entB P e = true) : ∀ (k : Nat) (e : Entry), e ∈ p.ents → p.ents.find? (fun a => a.id == e.id) = some e →
    ∀ (f : Addr) (fd : FuncData), FunD K (stName (stAt P e.place)) (stName (stAt P e.place)) (defArgs (stAt P e.place)) (defBody (stAt P e.place)) (defScope (stAt P e.place)) [] [] f fd →
      FnOk P w K mg base CX0 k f fd (psOf (stAt P e.place)) (spD K (p.call wn k e.id)) := by
  intro k
  induction k with
  | zero =>
    intro e he hfind f fd D0
    refine ⟨fun vs H Q E h => ?_, fun A outer s H args us vs Q E hr h0 hb hv h => ?_⟩
    · obtain ⟨A, ds, d, _, _, h, _⟩ := h
      cases h
    · obtain ⟨A, ds, d, _, _, h, _⟩ := h
      cases h
  | succ k ih =>
    intro e he hfind f fd D0
    have hb := hc e he
    simp only [Prog.entB, Bool.and_eq_true, decide_eq_true_eq] at hb
    obtain ⟨ha, hs, hnp, hns, hch⟩ := hb
    have S := scopeB_ok hs
    have un : ∀ {ds : List D} {d : D}, p.call wn (k + 1) e.id ds = some d → ds.length = (psOf (stAt P e.place)).length ∧ ∃ fl, exs (p.call wn k) p.gl wn e.fn.body (startE e.fn.ns ds) = some fl ∧ outF fl = some d := fun {ds d} h => by
      unfold Prog.call at h
      simp only [callN] at h
      obtain ⟨fn, h1, h2⟩ := Option.bind_eq_some_iff.mp h
      unfold Prog.tab at h1
      rw [hfind] at h1
      cases h1
      split at h2
      · rename_i hl
        obtain ⟨fl, h3, h4⟩ := Option.bind_eq_some_iff.mp h2
        exact ⟨hl.trans hnp, fl, h3, h4⟩
      · cases h2
    refine D0.ok S (fun vs H Q E h => ?_) (fun cdv A outer s H vs Q E hr h => ?_)
    · obtain ⟨A, ds, d, _, r, h, _⟩ := h
      rw [r.length]
      exact (un h).1
    · obtain ⟨M0, ds, d, hd, r, h, kk⟩ := h
      obtain ⟨hl, fl, h1, h2⟩ := un h
      have hps : (psOf (stAt P e.place)).length ≤ e.N.length := by
        have := congrArg List.length S.pre
        rw [List.length_take] at this
        omega
      refine ⟨rdS K (exs (p.call wn k) p.gl wn e.fn.body), PSs.nox (oks (p.call wn k) p.gl wn e.fn.body (p.ctx P e) _ _ ?_ hch), ?_⟩
      · refine ⟨⟨rfl, rfl, S.nd, rfl, fun x _ => rfl, ?_, fun x hx => F.free x hx, fun f' x hx => ?_, fun n x d hx hd => F.gls n x d (gl_map hx hd), F.gcd⟩, S.kind, rfl⟩
        · have := hr.un
          show (A.deeper _).units + 65 < cLine
          omega
        · obtain ⟨e', g1, g2, g3, g4⟩ := find_map hx
          obtain ⟨f2, fd2, D2, m2⟩ := F.defs e' g2
          have hb2 := hc e' g2
          simp only [Prog.entB, Bool.and_eq_true, decide_eq_true_eq] at hb2
          subst g3 g4
          refine ⟨k, f2, fd2, psOf (stAt P e'.place), ih e' g2 g1 f2 fd2 D2, hr, m2, D2.kp, ?_⟩
          refine D2.bindsN fun kV doc pm an cdv ct us hl => ?_
          refine bind_plain (as := (defArgs (stAt P e'.place)).args) ?_ rfl ?_ ?_
          · exact argsB_ok hb2.1
          · have S2 := scopeB_ok hb2.2.1
            have e0 : (e'.N.take (psOf (stAt P e'.place)).length).Nodup := S2.nd.sublist (List.take_sublist _ _)
            rw [S2.pre] at e0
            exact e0
          · rw [hl]
            unfold psOf
            rw [List.length_map]
      · refine ⟨H, M0, [], M0, _, fl, ⟨start_er hns (by rw [r.length, hl]; exact hps) hd r, fun a => by simp, Same.refl _, fun q hq => (by cases hq), hd⟩, h1, ?_⟩
        cases fl with
        | rt d' =>
          cases h2
          exact fun v H' s r => kk v H' s r
        | nx E' =>
          cases h2
          exact fun L' A' σ' H' si _ => kk _ H' si.same .non
        | bk E' => cases h2
        | ct E' => cases h2
end
end Vp

end

section
set_option Elab.async false
set_option linter.all false
set_option autoImplicit false
set_option maxRecDepth 100000
/-! Vp10: the program's top: what the head is asked for, and the law's end. -/
namespace Vp
open PySem PySem.Spec PyProof.Rows L2

/-! ### the module's data -/
mutual
def datB (K : PySem.W.Frag) : D → Value → Bool
  | .non, u => match u with
    | .none => true
    | _ => false
  | .bl b, u => match u with
    | .bool c => b == c
    | _ => false
  | .int i, u => match u with
    | .int j _ => decide (i = j)
    | _ => false
  | .str x, u => match u with
    | .str y _ => decide (x = y)
    | _ => false
  | .tup ds, u => match u with
    | .ref a => (match K.lookup a with
      | some ⟨.type c, _, .seq its _, _⟩ => decide (c = "tuple") && (decide (its.size ≤ sizeLine) && datsB K ds its.toList)
      | _ => false)
    | _ => false
  | .lst _, _ => false
  | .dic _, _ => false
  | .fls ds, u => match u with
    | .ref a => (match K.lookup a with
      | some ⟨.type c, none, .seq its _, _⟩ => decide (c = "list") && (decide (its.size ≤ sizeLine) && datsB K ds its.toList)
      | _ => false)
    | _ => false
def datsB (K : PySem.W.Frag) : List D → List Value → Bool
  | [], us => match us with
    | [] => true
    | _ :: _ => false
  | d :: ds, us => match us with
    | u :: us => datB K d u && datsB K ds us
    | [] => false
end
mutual
theorem datB_ok {K : PySem.W.Frag} : ∀ (d : D) (u : Value), datB K d u = true → ∃ v, RelV v u ∧ ∀ H, Rep K H v d
  | .non, u, h => by
    simp only [datB] at h
    split at h
    · exact ⟨.non, rfl, fun _ => .non⟩
    · cases h
  | .bl b, u, h => by
    simp only [datB] at h
    split at h
    · rw [eq_of_beq h]
      exact ⟨.bl _, rfl, fun _ => .bl _⟩
    · cases h
  | .int i, u, h => by
    simp only [datB] at h
    split at h
    · rw [of_decide_eq_true h]
      exact ⟨.int _, ⟨_, rfl⟩, fun _ => .int _⟩
    · cases h
  | .str x, u, h => by
    simp only [datB] at h
    split at h
    · rw [of_decide_eq_true h]
      exact ⟨.str _, ⟨_, rfl⟩, fun _ => .str _⟩
    · cases h
  | .tup ds, u, h => by
    simp only [datB] at h
    split at h
    · rename_i a
      split at h
      · rename_i c dd its n sl q
        simp only [Bool.and_eq_true, decide_eq_true_eq] at h
        obtain ⟨rfl, h2, h3⟩ := h
        obtain ⟨vs, r1, r2⟩ := datsB_ok ds its.toList h3
        exact ⟨.ref a, rfl, fun H => .tup (.inr ⟨_, its, n, q, rfl, rfl, h2, r1⟩) (r2 H)⟩
      · cases h
    · cases h
  | .lst _, u, h => by simp only [datB] at h; cases h
  | .dic _, u, h => by simp only [datB] at h; cases h
  | .fls ds, u, h => by
    simp only [datB] at h
    split at h
    · rename_i a
      split at h
      · rename_i c its n sl q
        simp only [Bool.and_eq_true, decide_eq_true_eq] at h
        obtain ⟨rfl, h2, h3⟩ := h
        obtain ⟨vs, r1, r2⟩ := datsB_ok ds its.toList h3
        exact ⟨.ref a, rfl, fun H => .fls (.inr ⟨_, its, n, q, rfl, rfl, rfl, h2, r1⟩) (r2 H)⟩
      · cases h
    · cases h
theorem datsB_ok {K : PySem.W.Frag} : ∀ (ds : List D) (us : List Value), datsB K ds us = true → ∃ vs, Vals vs us ∧ ∀ H, RepA K H vs ds
  | [], us, h => by
    simp only [datsB] at h
    split at h
    · exact ⟨[], .nil, fun _ => .nil⟩
    · cases h
  | d :: ds, us, h => by
    simp only [datsB] at h
    split at h
    · simp only [Bool.and_eq_true] at h
      obtain ⟨v, r1, r2⟩ := datB_ok d _ h.1
      obtain ⟨vs, r3, r4⟩ := datsB_ok ds _ h.2
      exact ⟨v :: vs, .cons r1 r3, fun H => .cons (r2 H) (r4 H)⟩
    · cases h
end
theorem lookup_mem {α : Type} {n : Nat} {a : α} : ∀ {l : List (Nat × α)}, l.lookup n = some a → (n, a) ∈ l
  | [], h => by cases h
  | (m, b) :: r, h => by
    rw [List.lookup_cons] at h
    cases q : n == m with
    | true =>
      rw [q] at h
      cases h
      rw [eq_of_beq q]
      exact List.mem_cons_self
    | false =>
      rw [q] at h
      exact List.mem_cons_of_mem _ (lookup_mem h)
/-! ### what is asked of the head -/
def defOfE (P : Program) (e : Entry) : He.DefD := ⟨(stName (stAt P e.place), none), stName (stAt P e.place), stName (stAt P e.place), defArgs (stAt P e.place), defBody (stAt P e.place), defScope (stAt P e.place), [], []⟩
def Prog.defs (p : Prog) (P : Program) : List He.DefD := p.ents.map (defOfE P)
def Prog.fas (p : Prog) (P : Program) : List He.Fa := (p.ents.map fun e => He.Fa.glo (stName (stAt P e.place))) ++ p.frees.map He.Fa.free
def Prog.glsB (p : Prog) (K : PySem.W.Frag) : Bool := (p.gls.all fun g => match PySem.W.nsIn K mainGlobals g.2.1 with
    | some (some u) => datB K g.2.2 u
    | _ => false) && (!p.gcd || (match PySem.W.nsIn K mainGlobals "gcd" with
    | some (some (.builtin s)) => decide (s = "math.gcd")
    | _ => false))
def obsP (p : Prog) (P : Program) (K : PySem.W.Frag) : He.AlD × Bool := (He.obsD (p.fas P) (p.defs P) K, p.glsB K)
def valP (p : Prog) (P : Program) : He.AlD × Bool := (He.valD (p.defs P), true)
def SaysP (p : Prog) (P : Program) (K : PySem.W.Frag) : Prop := obsP p P K = valP p P
def obsPG (n : Nat) (p : Prog) (P : Program) (g : Addr → Option Obj) : He.AlD × Bool := obsP p P (He.frG g (He.asD g n))
def hookP (n : Nat) (p : Prog) (P : Program) : PySem.W.Hook where
  α := He.AlD × Bool
  obs := fun s => obsPG n p P s.heap.get?
  val := fun _ => valP p P
  says := fun _ h => ∃ K : PySem.W.Frag, K.In h ∧ SaysP p P K
  of := fun _ _ e => ⟨_, He.frG_in, e⟩
  keeps := fun _ _ _ ⟨K, hK, c⟩ k => ⟨K, PySem.W.Frag.In.keeps hK k, c⟩
def obT (n : Nat) (p : Prog) (P : Program) (s : PySem.W.SharedT) : He.AlD × Bool := obsPG n p P (HandSHeadRun.getT s)
theorem obT_eq (n : Nat) (p : Prog) (P : Program) (s : PySem.W.SharedT) : obT n p P s = (hookP n p P).obs s.abs := by
  have e : HandSHeadRun.getT s = s.abs.heap.get? := funext (HandSHeadRun.getT_eq s)
  unfold obT
  rw [e]
  rfl
theorem SaysP.facts {p : Prog} {P : Program} {K : PySem.W.Frag} {h : Heap} {mg : Str → Option Value} (c : SaysP p P K) (X : K.In h) (G : h.Ns mainGlobals mg) : Facts p P K mg := by
  have c1 : He.SaysD (p.fas P) (p.defs P) K := congrArg Prod.fst c
  have c2 : p.glsB K = true := congrArg Prod.snd c
  have c3 := (He.ba (show (((p.fas P).all fun f => f.ok K) && (p.defs P).all fun d => d.ok K) = true from congrArg (fun z : He.AlD => z.1) c1)).1
  have fa : ∀ f ∈ p.fas P, f.ok K = true := fun f hf => List.all_eq_true.mp c3 f hf
  unfold Prog.glsB at c2
  obtain ⟨g1, g2⟩ := He.ba c2
  refine ⟨fun e he => ?_, fun x hx => ?_, fun n x d hd => ?_, fun hg => ?_⟩
  · obtain ⟨i, hi⟩ := List.getElem?_of_mem he
    obtain ⟨fd, F⟩ := He.SaysD.def_ c1 i (d := defOfE P e) (by unfold Prog.defs; rw [List.getElem?_map, hi]; rfl)
    exact ⟨_, fd, F, He.glo_ok X G (fa _ (List.mem_append_left _ (List.mem_map_of_mem he)))⟩
  · exact He.free_ok X G (fa _ (List.mem_append_right _ (List.mem_map_of_mem hx)))
  · have h1 := List.all_eq_true.mp g1 (n, x, d) (lookup_mem hd)
    simp only at h1
    split at h1
    · rename_i u q
      obtain ⟨v, r1, r2⟩ := datB_ok d u h1
      exact ⟨v, u, PySem.W.mg_of X G q, r1, r2⟩
    · cases h1
  · rw [hg] at g2
    have g3 : (match PySem.W.nsIn K mainGlobals "gcd" with
      | some (some (.builtin s)) => decide (s = "math.gcd")
      | _ => false) = true := g2
    split at g3
    · rename_i s q
      rw [of_decide_eq_true g3] at q
      exact PySem.W.mg_of X G q
    · cases g3
/-! ### the law's end -/
theorem walkP {l : PySem.W.OpenLaw} {q : Program} {loose : List Str} {XP : (Str → Option Value) → Heap → Prop} {d : DefRec} {n wn k : Nat} (p : Prog) (e : Entry) (hn : l.most = some 63) (hdf : d.params.defaults = []) (hr : Room k callerA)
    (hc : ∀ e ∈ p.ents, p.entB l.prog e = true) (he : e ∈ p.ents) (hf : p.ents.find? (fun a => a.id == e.id) = some e) (hps : psOf (stAt l.prog e.place) = [("script" : Str)]) (hname : d.name = stName (stAt l.prog e.place))
    (law : ∀ ns : List Int, ns.length ≤ 63 → p.call wn k e.id [.fls (ns.map .int)] = some (.bl true)) :
    PySem.W.WalkO q loose XP (hookP n p l.prog).says l.row.toRowW d [] (fun f vs => PySem.call f vs) := by
  refine L2.walk_ofE (l := l) (n := 63) (k := k) (x := "script") (CX := CX0) hn (by rw [sizeLine_eq]; decide) hdf hr ?_ fun _ _ _ _ z => z
  intro w mg fa h Y G hmg
  obtain ⟨K, KX, c⟩ := Y
  have F := SaysP.facts c KX G
  obtain ⟨f, fd, D0, m0⟩ := F.defs e he
  rw [hname, m0] at hmg
  have ef : f = fa := V.ref.inj (Value.ref.inj (Option.some.inj hmg) ▸ rfl)
  subst ef
  have hb := hc e he
  simp only [Prog.entB, Bool.and_eq_true, decide_eq_true_eq] at hb
  have b := FunD.bindsA (ps := psOf (stAt l.prog e.place)) D0 fun kV doc pm an cdv ct us hl => by
    refine bind_plain (as := (defArgs (stAt l.prog e.place)).args) (argsB_ok hb.1) rfl ?_ ?_
    · have S2 := scopeB_ok hb.2.1
      have e0 : (e.N.take (psOf (stAt l.prog e.place)).length).Nodup := S2.nd.sublist (List.take_sublist _ _)
      rw [S2.pre] at e0
      exact e0
    · rw [hl]
      unfold psOf
      rw [List.length_map]
  refine ⟨K, fd, spD K (p.call wn k e.id), KX, fun s u => ?_, fun H a ns hl _ hS => ?_, fun base hb1 hb2 => ?_⟩
  · have := b s [u] (by rw [hps]; rfl)
    rw [hps] at this
    exact this
  · refine ⟨[], [.fls (ns.map .int)], .bl true, fun a ha => (by cases ha), .cons (.fls (by rw [mask_nil]; exact hS) (RepA.of_ints ns)) .nil, law ns hl, fun v H' s r => ?_⟩
    cases r
    rfl
  · have := level (P := l.prog) (w := w) (base := base) (wn := wn) F hc k e he hf f fd D0
    rw [hps] at this
    exact this
end Vp

end

section
set_option Elab.async false
set_option linter.all false
set_option autoImplicit false
set_option maxRecDepth 100000
/-! Vp11: the trees' values step by step: rewriting rules. -/
namespace Vp
open PySem PySem.Spec PyProof.Rows L2
section
variable {cf : Nat → List D → Option D} {gl : Nat → Option D} {wn : Nat} {E : Env'}
@[simp high] theorem bind_s {α β : Type} {a : α} {f : α → Option β} : (some a).bind f = f a := (rfl)
@[simp high] theorem map_s {α β : Type} {a : α} {f : α → β} : (some a).map f = some (f a) := (rfl)
@[simp] theorem ev_non : ev cf gl .non E = some .non := (rfl)
@[simp] theorem ev_bl {b : Bool} : ev cf gl (.bl b) E = some (.bl b) := (rfl)
@[simp] theorem ev_int {i : Int} : ev cf gl (.int i) E = some (.int i) := (rfl)
@[simp] theorem ev_str {s : Str} : ev cf gl (.str s) E = some (.str s) := (rfl)
@[simp] theorem ev_glo {n : Nat} : ev cf gl (.glo n) E = gl n := (rfl)
@[simp] theorem ev_loc {n : Nat} : ev cf gl (.loc n) E = look n E := (rfl)
@[simp] theorem ev_bin {o : BOp} {a b : Ex} : ev cf gl (.bin o a b) E = (ev cf gl a E).bind fun x => (ev cf gl b E).bind fun y => binD o x y := (rfl)
@[simp] theorem ev_neg {a : Ex} : ev cf gl (.neg a) E = (ev cf gl a E).bind negD := (rfl)
@[simp] theorem ev_nott {a : Ex} : ev cf gl (.nott a) E = ((ev cf gl a E).bind toB).map fun c => .bl (!c) := (rfl)
@[simp] theorem ev_and {a b : Ex} {r : Exs} : ev cf gl (.bool .And (.cons a (.cons b r))) E = ((ev cf gl a E).bind toB).bind fun c => if c = true then ev cf gl (.bool .And (.cons b r)) E else some (.bl false) := (rfl)
@[simp] theorem ev_or {a b : Ex} {r : Exs} : ev cf gl (.bool .Or (.cons a (.cons b r))) E = ((ev cf gl a E).bind toB).bind fun c => if c = true then some (.bl true) else ev cf gl (.bool .Or (.cons b r)) E := (rfl)
@[simp] theorem ev_one {o : BoolOp} {a : Ex} : ev cf gl (.bool o (.cons a .nil)) E = ev cf gl a E := (rfl)
@[simp] theorem ev_cmp {o : CmpOp} {a b : Ex} : ev cf gl (.cmp o a b) E = (ev cf gl a E).bind fun x => (ev cf gl b E).bind fun y => blD (cmpD o x y) := (rfl)
@[simp] theorem ev_chain {o o' : CmpOp} {a b c : Ex} : ev cf gl (.chain o o' a b c) E = (ev cf gl a E).bind fun x => (ev cf gl b E).bind fun y => (cmpD o x y).bind fun t => if t = true then (ev cf gl c E).bind fun z => blD (cmpD o' y z) else some (.bl false) := (rfl)
@[simp] theorem ev_ife {t a b : Ex} : ev cf gl (.ife t a b) E = (tev cf gl t E).bind fun c => if c = true then ev cf gl a E else ev cf gl b E := (rfl)
@[simp] theorem ev_tup {xs : Exs} : ev cf gl (.tup xs) E = ((evs cf gl xs E).bind short).map .tup := (rfl)
@[simp] theorem ev_sub {a i : Ex} : ev cf gl (.sub a i) E = (ev cf gl a E).bind fun x => (ev cf gl i E).bind fun y => ixD x y := (rfl)
@[simp] theorem ev_subO {n : Nat} {i : Ex} : ev cf gl (.subO n i) E = ixOwn n (ev cf gl i) E := (rfl)
@[simp] theorem ev_lenO {n : Nat} : ev cf gl (.lenO n) E = lenOwn n E := (rfl)
@[simp] theorem ev_inO {b : Bool} {n : Nat} {a : Ex} : ev cf gl (.inO b n a) E = inOwn b n (ev cf gl a) E := (rfl)
@[simp] theorem ev_sl {a : Ex} {l h : Opt} : ev cf gl (.sl a l h) E = ap3 slD (ev cf gl a) (partD (evP cf gl l)) (partD (evP cf gl h)) E := (rfl)
@[simp] theorem ev_call {f : Nat} {xs : Exs} : ev cf gl (.call f xs) E = (evs cf gl xs E).bind (cf f) := (rfl)
@[simp] theorem ev_bf {b : BF} {xs : Exs} : ev cf gl (.bf b xs) E = (evs cf gl xs E).bind (bfD b) := (rfl)
@[simp] theorem ev_gcd {xs : Exs} : ev cf gl (.gcd xs) E = (evs cf gl xs E).bind gcdD := (rfl)
@[simp] theorem ev_isi {T : TyN} {a : Ex} : ev cf gl (.isi T a) E = (ev cf gl a E).map fun d => .bl (isiB T d) := (rfl)
@[simp] theorem ev_bits {a : Ex} : ev cf gl (.bits a) E = bitsD (ev cf gl a) E := (rfl)
@[simp] theorem ev_lis {l : Lx} : ev cf gl (.lis l) E = (evL cf gl l E).map .lst := (rfl)
@[simp] theorem ev_dic {p : Prs} : ev cf gl (.dic p) E = dicD (evKs cf gl p) (evVs cf gl p) E := (rfl)
@[simp] theorem evs_nil : evs cf gl .nil E = some [] := (rfl)
@[simp] theorem evs_cons {a : Ex} {r : Exs} : evs cf gl (.cons a r) E = (ev cf gl a E).bind fun x => (evs cf gl r E).map fun r => x :: r := (rfl)
@[simp] theorem evP_no : evP cf gl .no = none := (rfl)
@[simp] theorem evP_yes {a : Ex} : evP cf gl (.yes a) = some (ev cf gl a) := (rfl)
@[simp] theorem evC_no : evC cf gl .no E = some true := (rfl)
@[simp] theorem evC_yes {a : Ex} : evC cf gl (.yes a) E = tev cf gl a E := (rfl)
@[simp] theorem evL_lst {xs : Exs} : evL cf gl (.lst xs) E = (evs cf gl xs E).bind short := (rfl)
@[simp] theorem evL_bin {o : BOp} {a b : Ex} : evL cf gl (.bin o a b) E = (ev cf gl a E).bind fun x => (ev cf gl b E).bind fun y => binO o x y := (rfl)
@[simp] theorem evL_sl {a : Ex} {l h : Opt} : evL cf gl (.sl a l h) E = ap3 slO (ev cf gl a) (partD (evP cf gl l)) (partD (evP cf gl h)) E := (rfl)
@[simp] theorem evL_rev {a : Ex} : evL cf gl (.rev a) E = (ev cf gl a E).bind fun d => (lisOf d).map List.reverse := (rfl)
@[simp] theorem evL_bo {b : BO} {xs : Exs} : evL cf gl (.bo b xs) E = (evs cf gl xs E).bind (bfO b) := (rfl)
@[simp] theorem evL_comp {own : List Nat} {t : Tg} {e : Ex} {c : Opt} {it : Ix} : evL cf gl (.comp own t e c it) E = (evI cf gl it E).bind fun ds => if ds.length ≤ lineN then compL t (evC cf gl c) (ev cf gl e) (wipeE E own) ds else none := (rfl)
@[simp] theorem evI_ex {a : Ex} : evI cf gl (.ex a) E = (ev cf gl a E).bind itemsD := (rfl)
@[simp] theorem evI_fn {f : IFn} {xs : Exs} : evI cf gl (.fn f xs) E = (evs cf gl xs E).bind (ifD f) := (rfl)
@[simp] theorem tev_nott {a : Ex} : tev cf gl (.nott a) E = (tev cf gl a E).map (!·) := (rfl)
@[simp] theorem tev_and {a b : Ex} {r : Exs} : tev cf gl (.bool .And (.cons a (.cons b r))) E = (tev cf gl a E).bind fun c => if c = true then tev cf gl (.bool .And (.cons b r)) E else some false := (rfl)
@[simp] theorem tev_or {a b : Ex} {r : Exs} : tev cf gl (.bool .Or (.cons a (.cons b r))) E = (tev cf gl a E).bind fun c => if c = true then some true else tev cf gl (.bool .Or (.cons b r)) E := (rfl)
@[simp] theorem tev_one {o : BoolOp} {a : Ex} : tev cf gl (.bool o (.cons a .nil)) E = tev cf gl a E := (rfl)
@[simp] theorem tev_cmp {o : CmpOp} {a b : Ex} : tev cf gl (.cmp o a b) E = (ev cf gl a E).bind fun x => (ev cf gl b E).bind fun y => cmpD o x y := by
  show ((ev cf gl a E).bind fun x => (ev cf gl b E).bind fun y => blD (cmpD o x y)).bind toB = _
  cases ev cf gl a E with
  | none => rfl
  | some x =>
    cases ev cf gl b E with
    | none => rfl
    | some y =>
      show (blD (cmpD o x y)).bind toB = cmpD o x y
      cases cmpD o x y <;> rfl
@[simp] theorem tev_chain {o o' : CmpOp} {a b c : Ex} : tev cf gl (.chain o o' a b c) E = (ev cf gl (.chain o o' a b c) E).bind toB := (rfl)
@[simp] theorem tev_non : tev cf gl .non E = some false := (rfl)
@[simp] theorem tev_bl {b : Bool} : tev cf gl (.bl b) E = some b := (rfl)
@[simp] theorem tev_int {i : Int} : tev cf gl (.int i) E = some (i != 0) := (rfl)
@[simp] theorem tev_loc {n : Nat} : tev cf gl (.loc n) E = (look n E).bind truD := (rfl)
@[simp] theorem tev_bin {o : BOp} {a b : Ex} : tev cf gl (.bin o a b) E = (ev cf gl (.bin o a b) E).bind truD := (rfl)
@[simp] theorem tev_sub {a i : Ex} : tev cf gl (.sub a i) E = (ev cf gl (.sub a i) E).bind truD := (rfl)
@[simp] theorem tev_subO {n : Nat} {i : Ex} : tev cf gl (.subO n i) E = (ev cf gl (.subO n i) E).bind truD := (rfl)
@[simp] theorem tev_lenO {n : Nat} : tev cf gl (.lenO n) E = (ev cf gl (.lenO n) E).bind truD := (rfl)
@[simp] theorem tev_inO {b : Bool} {n : Nat} {a : Ex} : tev cf gl (.inO b n a) E = (ev cf gl (.inO b n a) E).bind toB := (rfl)
@[simp] theorem tev_call {f : Nat} {xs : Exs} : tev cf gl (.call f xs) E = (ev cf gl (.call f xs) E).bind truD := (rfl)
@[simp] theorem tev_bf {b : BF} {xs : Exs} : tev cf gl (.bf b xs) E = (ev cf gl (.bf b xs) E).bind truD := (rfl)
@[simp] theorem tev_isi {T : TyN} {a : Ex} : tev cf gl (.isi T a) E = (ev cf gl (.isi T a) E).bind truD := (rfl)
@[simp] theorem tev_glo {n : Nat} : tev cf gl (.glo n) E = (gl n).bind truD := (rfl)
@[simp] theorem tev_gcd {xs : Exs} : tev cf gl (.gcd xs) E = (ev cf gl (.gcd xs) E).bind truD := (rfl)
@[simp] theorem tev_sl {a : Ex} {l h : Opt} : tev cf gl (.sl a l h) E = (ev cf gl (.sl a l h) E).bind truD := (rfl)
@[simp] theorem tev_lis {l : Lx} : tev cf gl (.lis l) E = (ev cf gl (.lis l) E).bind truD := (rfl)
@[simp] theorem tev_bits {a : Ex} : tev cf gl (.bits a) E = (ev cf gl (.bits a) E).bind truD := (rfl)

/-! environments -/
@[simp] theorem look_zero {d : D} {r : Env'} : look 0 (.f d :: r) = some d := (rfl)
@[simp] theorem look_succ {n : Nat} {c : Cell} {r : Env'} : look (n + 1) (c :: r) = look n r := (rfl)
@[simp] theorem wipeE_nil : wipeE E [] = E := (rfl)
@[simp] theorem wipeE_cons {v : Nat} {vs : List Nat} : wipeE E (v :: vs) = (wipeE E vs).set v .u := (rfl)
@[simp] theorem frz_nil : frz [] E = E := (rfl)
@[simp] theorem ixOwn_zero {ds : List D} {r : Env'} {fb : Env' → Option D} : ixOwn 0 fb (.o ds :: r) = (fb (.o ds :: r)).bind fun | .int j => atI ds j | _ => none := (rfl)
@[simp] theorem asgT_nm {i : Nat} {d : D} : asgT (.nm i) d E = some (E.set i (.f d)) := (rfl)
@[simp] theorem asgT_tp {ts : List Tg} {ds : List D} : asgT (.tp ts) (.tup ds) E = asgTs ts ds E := (rfl)
@[simp] theorem asgTs_nil : asgTs [] [] E = some E := (rfl)
@[simp] theorem asgTs_cons {t : Tg} {ts : List Tg} {d : D} {ds : List D} : asgTs (t :: ts) (d :: ds) E = (asgT t d E).bind fun E' => asgTs ts ds E' := (rfl)
@[simp] theorem lineN_eq : lineN = 16777216 := (rfl)
@[simp] theorem short_ok {ds : List D} : short ds = if ds.length ≤ lineN then some ds else none := (rfl)

/-! operators -/
@[simp] theorem add_int {i j : Int} : binD .add (.int i) (.int j) = some (.int (i + j)) := (rfl)
@[simp] theorem sub_int {i j : Int} : binD .sub (.int i) (.int j) = some (.int (i - j)) := (rfl)
@[simp] theorem mod_int {i j : Int} : binD .mod (.int i) (.int j) = if 0 < j then some (.int (i % j)) else none := (rfl)
@[simp] theorem mul_int {i j : Int} : binD .mul (.int i) (.int j) = if mulOk i j then some (.int (i * j)) else none := (rfl)
@[simp] theorem fdiv_int {i j : Int} : binD .fdiv (.int i) (.int j) = if divOk j then some (.int (i / j)) else none := (rfl)
@[simp] theorem xor_int {i j : Int} : binD .xor (.int i) (.int j) = some (.int (Builtin.bitXor i j)) := (rfl)
@[simp] theorem pow_int {i j : Int} : binD .pow (.int i) (.int j) = if 0 ≤ j ∧ j ≤ 1000000 ∧ i.natAbs < 18446744073709551616 then some (.int (i ^ j.toNat)) else none := (rfl)
@[simp] theorem neg_int {i : Int} : negD (.int i) = some (.int (-i)) := (rfl)
@[simp] theorem eq_int {i j : Int} : cmpD .Eq (.int i) (.int j) = some (decide (i = j)) := (rfl)
@[simp] theorem ne_int {i j : Int} : cmpD .NotEq (.int i) (.int j) = some (!decide (i = j)) := (rfl)
@[simp] theorem eq_str {i j : Str} : cmpD .Eq (.str i) (.str j) = some (decide (i = j)) := (rfl)
@[simp] theorem ne_str {i j : Str} : cmpD .NotEq (.str i) (.str j) = some (!decide (i = j)) := (rfl)
@[simp] theorem lt_int {i j : Int} : cmpD .Lt (.int i) (.int j) = some (decide (i < j)) := (rfl)
@[simp] theorem le_int {i j : Int} : cmpD .LtE (.int i) (.int j) = some (decide (i ≤ j)) := (rfl)
@[simp] theorem gt_int {i j : Int} : cmpD .Gt (.int i) (.int j) = some (decide (j < i)) := (rfl)
@[simp] theorem ge_int {i j : Int} : cmpD .GtE (.int i) (.int j) = some (decide (j ≤ i)) := (rfl)
@[simp] theorem is_non {d : D} : cmpD .Is d .non = some (match d with | .non => true | _ => false) := (rfl)
@[simp] theorem isnot_non {d : D} : cmpD .IsNot d .non = some (!(match d with | .non => true | _ => false)) := by cases d <;> rfl
@[simp] theorem is_bl {x y : Bool} : cmpD .Is (.bl x) (.bl y) = some (decide (x = y)) := (rfl)
@[simp] theorem isnot_bl {x y : Bool} : cmpD .IsNot (.bl x) (.bl y) = some (!decide (x = y)) := (rfl)
@[simp] theorem blD_s {b : Bool} : blD (some b) = some (.bl b) := (rfl)
@[simp] theorem toB_bl {b : Bool} : toB (.bl b) = some b := (rfl)
@[simp] theorem truD_bl {b : Bool} : truD (.bl b) = some b := (rfl)
@[simp] theorem truD_int {i : Int} : truD (.int i) = some (i != 0) := (rfl)
@[simp] theorem truD_non : truD .non = some false := (rfl)
@[simp] theorem truD_lst {ds : List D} : truD (.lst ds) = some !ds.isEmpty := (rfl)
@[simp] theorem truD_tup {ds : List D} : truD (.tup ds) = some !ds.isEmpty := (rfl)
@[simp] theorem eq_bl {i j : Bool} : cmpD .Eq (.bl i) (.bl j) = some (decide (i = j)) := by cases i <;> cases j <;> decide +kernel
@[simp] theorem ne_bl {i j : Bool} : cmpD .NotEq (.bl i) (.bl j) = some (!decide (i = j)) := by cases i <;> cases j <;> decide +kernel
@[simp] theorem addO_lst {xs ys : List D} : binO .add (.lst xs) (.lst ys) = if xs.length + ys.length ≤ lineN then some (xs ++ ys) else none := (rfl)
@[simp] theorem add_lst {xs ys : List D} : binD .add (.lst xs) (.lst ys) = if xs.length + ys.length ≤ lineN then some (.lst (xs ++ ys)) else none := (rfl)
@[simp] theorem items_lst {ds : List D} : itemsD (.lst ds) = some ds := (rfl)
@[simp] theorem items_tup {ds : List D} : itemsD (.tup ds) = some ds := (rfl)
@[simp] theorem items_fls {ds : List D} : itemsD (.fls ds) = some ds := (rfl)
@[simp] theorem len_lst {ds : List D} : bfD .len [.lst ds] = some (.int (ds.length : Nat)) := (rfl)
@[simp] theorem len_tup {ds : List D} : bfD .len [.tup ds] = some (.int (ds.length : Nat)) := (rfl)
@[simp] theorem len_fls {ds : List D} : bfD .len [.fls ds] = some (.int (ds.length : Nat)) := (rfl)
@[simp] theorem abs_int {i : Int} : bfD .abs [.int i] = some (.int (if i < 0 then -i else i)) := (rfl)
@[simp] theorem max2_int {i j : Int} : bfD .max2 [.int i, .int j] = some (.int (if j > i then j else i)) := (rfl)
@[simp] theorem min2_int {i j : Int} : bfD .min2 [.int i, .int j] = some (.int (if j < i then j else i)) := (rfl)
@[simp] theorem int_int {i : Int} : bfD .int [.int i] = some (.int i) := (rfl)
@[simp] theorem int_bl {b : Bool} : bfD .int [.bl b] = some (.int (if b then 1 else 0)) := (rfl)
@[simp] theorem rng1_int {j : Int} : ifD .rng1 [.int j] = if small62 j then some ((List.range j.toNat).map fun i => .int (0 + (i : Nat))) else none := (rfl)
@[simp] theorem rng2_int {i j : Int} : ifD .rng2 [.int i, .int j] = if small62 i && small62 j then some ((List.range (j - i).toNat).map fun k => .int (i + (k : Nat))) else none := (rfl)
theorem intsOf_map : ∀ (ns : List Int), intsOf (ns.map .int) = some ns
  | [] => rfl
  | i :: r => by
    show (intsOf (r.map .int)).map (i :: ·) = _
    rw [intsOf_map r]; rfl
theorem blsOf_map : ∀ (ns : List Bool), blsOf (ns.map .bl) = some ns
  | [] => rfl
  | i :: r => by
    show (blsOf (r.map .bl)).map (i :: ·) = _
    rw [blsOf_map r]; rfl
theorem all_bls {ns : List Bool} : bfD .alll [.lst (ns.map .bl)] = some (.bl (ns.all id)) := by
  show ((some (ns.map D.bl)).bind blsOf).map _ = _
  rw [Option.bind_some, blsOf_map]; rfl
theorem any_bls {ns : List Bool} : bfD .anyl [.lst (ns.map .bl)] = some (.bl (ns.any id)) := by
  show ((some (ns.map D.bl)).bind blsOf).map _ = _
  rw [Option.bind_some, blsOf_map]; rfl
theorem sum_ints {ns : List Int} : bfD .suml [.lst (ns.map .int)] = some (.int ns.sum) := by
  show ((some (ns.map D.int)).bind intsOf).map _ = _
  rw [Option.bind_some, intsOf_map]; rfl
theorem sorted_ints {ns : List Int} : bfO .sorted [.lst (ns.map .int)] = some ((isort ns).map .int) := by
  show ((some (ns.map D.int)).bind intsOf).map _ = _
  rw [Option.bind_some, intsOf_map]; rfl
/-! items -/
@[simp] theorem ix_lst {ds : List D} {i : Int} : ixD (.lst ds) (.int i) = atI ds i := (rfl)
@[simp] theorem ix_tup {ds : List D} {i : Int} : ixD (.tup ds) (.int i) = atI ds i := (rfl)
@[simp] theorem ix_fls {ds : List D} {i : Int} : ixD (.fls ds) (.int i) = atI ds i := (rfl)
theorem atI_nat {α : Type} {ds : List α} {k : Nat} (h : k < ds.length) : atI ds (k : Int) = ds[k]? := by
  unfold atI ixN
  rw [if_pos (Int.natCast_nonneg k), if_pos (by omega)]
  simp
theorem atI_get {α : Type} {ds : List α} {i : Int} {k : Nat} {d : α} (hi : i = (k : Int)) (h : ds[k]? = some d) : atI ds i = some d := by
  subst hi
  rw [atI_nat (List.getElem?_eq_some_iff.mp h).1, h]
theorem atI_ints {ns : List Int} {i : Int} (h0 : 0 ≤ i) (h : i.toNat < ns.length) : atI (ns.map D.int) i = some (.int ns[i.toNat]) :=
  atI_get (k := i.toNat) (by omega) (by rw [List.getElem?_map, List.getElem?_eq_getElem h]; rfl)

/-! side conditions -/
theorem mulOk_l {i j : Int} (h1 : -18446744073709551616 < i) (h2 : i < 18446744073709551616) : mulOk i j = true := by
  unfold mulOk
  simp only [Bool.or_eq_true, decide_eq_true_eq]
  exact .inr (.inl (by omega))
theorem mulOk_r {i j : Int} (h1 : -18446744073709551616 < j) (h2 : j < 18446744073709551616) : mulOk i j = true := by
  unfold mulOk
  simp only [Bool.or_eq_true, decide_eq_true_eq]
  exact .inr (.inr (by omega))
theorem mulOk_pow {i j : Int} (a b : Nat) (h1 : i.natAbs < 2 ^ (a + 1)) (h2 : j.natAbs < 2 ^ (b + 1)) (h : a + b < 1000000) : mulOk i j = true := by
  unfold mulOk
  simp only [Bool.or_eq_true, decide_eq_true_eq]
  refine .inl ?_
  have e1 : i.natAbs.log2 ≤ a := by
    by_cases z : i.natAbs = 0
    · rw [z]; simp
    · exact Nat.lt_succ_iff.mp ((Nat.log2_lt z).mpr h1)
  have e2 : j.natAbs.log2 ≤ b := by
    by_cases z : j.natAbs = 0
    · rw [z]; simp
    · exact Nat.lt_succ_iff.mp ((Nat.log2_lt z).mpr h2)
  omega
theorem divOk_pow {j : Int} (a : Nat) (h0 : 0 < j) (h1 : j.natAbs < 2 ^ (a + 1)) (h : a < 9000) : divOk j = true := by
  unfold divOk
  simp only [Bool.and_eq_true, decide_eq_true_eq]
  exact ⟨h0, by have := (Nat.log2_lt (by omega)).mpr h1; omega⟩
theorem divOk_small {j : Int} (h0 : 0 < j) (h1 : j < 18446744073709551616) : divOk j = true := divOk_pow 63 h0 (by omega) (by omega)
theorem small62_of {i : Int} (h0 : -4611686018427387904 ≤ i) (h1 : i < 4611686018427387904) : small62 i = true := by
  unfold small62
  simp [h0, h1]

/-! statements -/
@[simp] theorem exs_nil : exs cf gl wn .nil E = some (.nx E) := (rfl)
theorem exs_cons {fz : List Nat} {s : Sm} {r : Sms} : exs cf gl wn (.cons fz s r) E = seqF (ex1 cf gl wn s) (exs cf gl wn r) (frz fz E) := rfl
theorem seqF_def {f g : Env' → Option Fl} : seqF f g E = (f E).bind fun
  | .nx E' => g E'
  | fl => some fl := rfl
theorem exs_nx {fz : List Nat} {s : Sm} {r : Sms} {E' : Env'} {x : Option Fl} (h : ex1 cf gl wn s (frz fz E) = some (.nx E')) (k : exs cf gl wn r E' = x) : exs cf gl wn (.cons fz s r) E = x := by
  rw [exs_cons, seqF_def, h]
  exact k
theorem exs_rt {fz : List Nat} {s : Sm} {r : Sms} {d : D} (h : ex1 cf gl wn s (frz fz E) = some (.rt d)) : exs cf gl wn (.cons fz s r) E = some (.rt d) := by
  rw [exs_cons, seqF_def, h]
  rfl
@[simp] theorem ex1_asg {t : Tg} {e : Ex} : ex1 cf gl wn (.asg t e) E = (ev cf gl e E).bind fun d => (asgT t d E).map .nx := (rfl)
@[simp] theorem ex1_asgO {i : Nat} {l : Lx} : ex1 cf gl wn (.asgO i l) E = (evL cf gl l E).map fun ds => .nx (E.set i (.o ds)) := (rfl)
@[simp] theorem ex1_par {i j : Nat} {a b : Ex} : ex1 cf gl wn (.par i j a b) E = (ev cf gl a E).bind fun x => (ev cf gl b E).map fun y => .nx ((E.set i (.f x)).set j (.f y)) := (rfl)
@[simp] theorem ex1_par3 {i j l : Nat} {a b c : Ex} : ex1 cf gl wn (.par3 i j l a b c) E = (ev cf gl a E).bind fun x => (ev cf gl b E).bind fun y => (ev cf gl c E).map fun z => .nx (((E.set i (.f x)).set j (.f y)).set l (.f z)) := (rfl)
@[simp] theorem ex1_aug {i : Nat} {o : BOp} {e : Ex} : ex1 cf gl wn (.aug i o e) E = (look i E).bind fun x => (ev cf gl e E).bind fun y => (augF o x y).map fun z => .nx (E.set i (.f z)) := (rfl)
@[simp] theorem ex1_app {i : Nat} {e : Ex} : ex1 cf gl wn (.app i e) E = appF i (ev cf gl e) E := (rfl)
@[simp] theorem ex1_seti {i : Nat} {j e : Ex} : ex1 cf gl wn (.seti i j e) E = setiF i (ev cf gl j) (ev cf gl e) E := (rfl)
@[simp] theorem ex1_drop {e : Ex} : ex1 cf gl wn (.drop e) E = (ev cf gl e E).map fun _ => .nx E := (rfl)
@[simp] theorem ex1_ret {e : Ex} : ex1 cf gl wn (.ret e) E = (ev cf gl e E).map .rt := (rfl)
@[simp] theorem ex1_retN : ex1 cf gl wn .retN E = some (.rt .non) := (rfl)
@[simp] theorem ex1_ife {c : Ex} {a b : Sms} : ex1 cf gl wn (.ife c a b) E = (tev cf gl c E).bind fun t => if t = true then exs cf gl wn a E else exs cf gl wn b E := (rfl)
@[simp] theorem ex1_whl {c : Ex} {b : Sms} : ex1 cf gl wn (.whl c b) E = whileF (tev cf gl c) (exs cf gl wn b) wn E := (rfl)
@[simp] theorem ex1_for {t : Tg} {it : Ix} {b : Sms} : ex1 cf gl wn (.for_ t it b) E = (evI cf gl it E).bind fun ds => forF t (exs cf gl wn b) ds E := (rfl)
@[simp] theorem ex1_pass : ex1 cf gl wn .pass E = some (.nx E) := (rfl)
@[simp] theorem ex1_brk : ex1 cf gl wn .brk E = some (.bk E) := (rfl)
@[simp] theorem ex1_cont : ex1 cf gl wn .cont E = some (.ct E) := (rfl)
@[simp] theorem aug_add {i j : Int} : augF .add (.int i) (.int j) = some (.int (i + j)) := (rfl)
@[simp] theorem aug_sub {i j : Int} : augF .sub (.int i) (.int j) = some (.int (i - j)) := (rfl)
@[simp] theorem outF_rt {d : D} : outF (.rt d) = some d := (rfl)
@[simp] theorem outF_nx : outF (.nx E) = some .non := (rfl)
theorem callN_eq {tab : Nat → Option Fn} {k f np ns : Nat} {body : Sms} {ds : List D} (ht : tab f = some ⟨np, ns, body⟩) (hl : ds.length = np) : callN tab gl wn (k + 1) f ds = (exs (callN tab gl wn k) gl wn body (startE ns ds)).bind outF := by
  rw [callN, ht, Option.bind_some, if_pos hl]
/-! loops -/
theorem whileF_step {c : Env' → Option Bool} {b : Env' → Option Fl} {n : Nat} {E' : Env'} (h : c E = some true) (h1 : b E = some (.nx E')) : whileF c b (n + 1) E = whileF c b n E' := by
  show (c E).bind _ = _
  rw [h]
  simp only [Option.bind_some, if_true, h1]
theorem whileF_end {c : Env' → Option Bool} {b : Env' → Option Fl} {n : Nat} (h : c E = some false) : whileF c b (n + 1) E = some (.nx E) := by
  show (c E).bind _ = _
  rw [h]
  simp
/-- a while loop with a measure -/
theorem whileF_inv {c : Env' → Option Bool} {b : Env' → Option Fl} (I : Nat → Env' → Prop) (step : ∀ m E, I m E → c E = some false ∨ ∃ E' m', c E = some true ∧ b E = some (.nx E') ∧ m' < m ∧ I m' E') :
    ∀ n m E, m < n → I m E → ∃ E' m', whileF c b n E = some (.nx E') ∧ I m' E' ∧ c E' = some false
  | 0, m, E, h, _ => by omega
  | n + 1, m, E, h, i => by
    rcases step m E i with s | ⟨E', m', s1, s2, s3, s4⟩
    · exact ⟨E, m, whileF_end s, i, s⟩
    · rw [whileF_step s1 s2]
      exact whileF_inv I step n m' E' (by omega) s4
@[simp] theorem forF_nil {t : Tg} {b : Env' → Option Fl} : forF t b [] E = some (.nx E) := (rfl)
theorem forF_cons {t : Tg} {b : Env' → Option Fl} {d : D} {r : List D} {E1 E2 : Env'} (h1 : asgT t d E = some E1) (h2 : b E1 = some (.nx E2)) : forF t b (d :: r) E = forF t b r E2 := by
  show (asgT t d E).bind _ = _
  rw [h1]
  simp only [Option.bind_some, h2]
theorem forF_ct {t : Tg} {b : Env' → Option Fl} {d : D} {r : List D} {E1 E2 : Env'} (h1 : asgT t d E = some E1) (h2 : b E1 = some (.ct E2)) : forF t b (d :: r) E = forF t b r E2 := by
  show (asgT t d E).bind _ = _
  rw [h1]
  simp only [Option.bind_some, h2]
theorem forF_rt {t : Tg} {b : Env' → Option Fl} {d : D} {r : List D} {E1 : Env'} {x : D} (h1 : asgT t d E = some E1) (h2 : b E1 = some (.rt x)) : forF t b (d :: r) E = some (.rt x) := by
  show (asgT t d E).bind _ = _
  rw [h1]
  simp only [Option.bind_some, h2]
/-- a for loop that goes through -/
theorem forF_inv {t : Tg} {b : Env' → Option Fl} : ∀ (ds : List D) (I : Nat → Env' → Prop) (E : Env'), I 0 E →
    (∀ i d E, ds[i]? = some d → I i E → ∃ E1 E2, asgT t d E = some E1 ∧ (b E1 = some (.nx E2) ∨ b E1 = some (.ct E2)) ∧ I (i + 1) E2) → ∃ E', forF t b ds E = some (.nx E') ∧ I ds.length E'
  | [], I, E, h0, _ => ⟨E, rfl, h0⟩
  | d :: r, I, E, h0, st => by
    obtain ⟨E1, E2, s1, s2, s3⟩ := st 0 d E rfl h0
    obtain ⟨E', e1, e2⟩ := forF_inv r (fun i => I (i + 1)) E2 s3 fun i d' E h hi => st (i + 1) d' E h hi
    refine ⟨E', ?_, e2⟩
    rcases s2 with s2 | s2
    · rw [forF_cons s1 s2, e1]
    · rw [forF_ct s1 s2, e1]
/-- a for loop that ends with a return at its n-th turn -/
theorem forF_find {t : Tg} {b : Env' → Option Fl} {x : D} : ∀ (ds : List D) (I : Nat → Env' → Prop) (E : Env') (n : Nat) (dn : D), I 0 E → ds[n]? = some dn →
    (∀ i d E, i < n → ds[i]? = some d → I i E → ∃ E1 E2, asgT t d E = some E1 ∧ (b E1 = some (.nx E2) ∨ b E1 = some (.ct E2)) ∧ I (i + 1) E2) → (∀ E, I n E → ∃ E1, asgT t dn E = some E1 ∧ b E1 = some (.rt x)) → forF t b ds E = some (.rt x)
  | [], I, E, n, dn, h0, hd, _, _ => by cases hd
  | d :: r, I, E, 0, dn, h0, hd, _, hx => by
    cases hd
    obtain ⟨E1, h1, h2⟩ := hx E h0
    exact forF_rt h1 h2
  | d :: r, I, E, n + 1, dn, h0, hd, st, hx => by
    obtain ⟨E1, E2, s1, s2, s3⟩ := st 0 d E (by omega) rfl h0
    have e := forF_find r (fun i => I (i + 1)) E2 n dn s3 hd (fun i d' E hi h hi' => st (i + 1) d' E (by omega) h hi') hx
    rcases s2 with s2 | s2
    · rw [forF_cons s1 s2, e]
    · rw [forF_ct s1 s2, e]
/-- a comprehension whose items are known -/
theorem compL_map {t : Tg} {fe : Env' → Option D} {g : D → D} : ∀ {ds : List D}, (∀ d ∈ ds, ∃ E1, asgT t d E = some E1 ∧ fe E1 = some (g d)) → compL t (fun _ => some true) fe E ds = some (ds.map g)
  | [], _ => rfl
  | d :: r, h => by
    obtain ⟨E1, h1, h2⟩ := h d List.mem_cons_self
    show (asgT t d E).bind _ = _
    simp only [h1, Option.bind_some, if_true, h2, compL_map fun x hx => h x (List.mem_cons_of_mem _ hx)]
    rfl
theorem compL_fil {t : Tg} {ft : Env' → Option Bool} {fe : Env' → Option D} {p : D → Bool} {g : D → D} : ∀ {ds : List D}, (∀ d ∈ ds, ∃ E1, asgT t d E = some E1 ∧ ft E1 = some (p d) ∧ (p d = true → fe E1 = some (g d))) → compL t ft fe E ds = some ((ds.filter p).map g)
  | [], _ => rfl
  | d :: r, h => by
    obtain ⟨E1, h1, h2, h3⟩ := h d List.mem_cons_self
    have e := compL_fil fun x hx => h x (List.mem_cons_of_mem _ hx)
    show (asgT t d E).bind _ = _
    simp only [h1, Option.bind_some, h2]
    cases hp : p d with
    | true => simp [h3 hp, e, hp]
    | false => simp [e, hp]
theorem compL_filM {α : Type} {t : Tg} {ft : Env' → Option Bool} {fe : Env' → Option D} {v : α → D} {p : α → Bool} {g : α → D} {xs : List α} (h : ∀ x ∈ xs, ∃ E1, asgT t (v x) E = some E1 ∧ ft E1 = some (p x) ∧ (p x = true → fe E1 = some (g x))) : compL t ft fe E (xs.map v) = some ((xs.filter p).map g) := by
  induction xs with
  | nil => rfl
  | cons x r ih =>
    obtain ⟨E1, h1, h2, h3⟩ := h x List.mem_cons_self
    have e := ih fun y hy => h y (List.mem_cons_of_mem _ hy)
    show (asgT t (v x) E).bind _ = _
    simp only [h1, Option.bind_some, h2]
    cases hp : p x with
    | true => simp [h3 hp, e, hp]
    | false => simp [e, hp]
theorem compL_mapM {α : Type} {t : Tg} {ft : Env' → Option Bool} {fe : Env' → Option D} {v : α → D} {g : α → D} {xs : List α} (hf : ∀ E, ft E = some true) (h : ∀ x ∈ xs, ∃ E1, asgT t (v x) E = some E1 ∧ fe E1 = some (g x)) : compL t ft fe E (xs.map v) = some (xs.map g) := by
  have e := compL_filM (p := fun _ => true) (g := g) (ft := ft) (fe := fe) (t := t) (E := E) (v := v) (xs := xs) fun x hx => by
    obtain ⟨E1, h1, h2⟩ := h x hx
    exact ⟨E1, h1, hf E1, fun _ => h2⟩
  rw [e, List.filter_eq_self.mpr fun _ _ => rfl]
theorem appF_ok {i : Nat} {f : Env' → Option D} {ds : List D} {d : D} (h : E[i]? = some (.o ds)) (hf : f E = some d) (hl : ds.length < lineN) : appF i f E = some (.nx (E.set i (.o (ds ++ [d])))) := by
  unfold appF
  rw [h]
  show ((f E).bind fun d => if ds.length < lineN then some (Fl.nx (E.set i (.o (ds ++ [d])))) else none) = _
  rw [hf, Option.bind_some, if_pos hl]
theorem setiF_ok {i : Nat} {fj fe : Env' → Option D} {ds : List D} {d : D} {j : Nat} (h : E[i]? = some (.o ds)) (he : fe E = some d) (hj : fj E = some (.int (j : Int))) (hl : j < ds.length) : setiF i fj fe E = some (.nx (E.set i (.o (ds.set j d)))) := by
  unfold setiF
  rw [h]
  show ((fe E).bind fun d => (fj E).bind fun | .int k => (ixN ds.length k).map fun j => Fl.nx (E.set i (.o (ds.set j d))) | _ => none) = _
  rw [he, Option.bind_some, hj, Option.bind_some]
  show (ixN ds.length (j : Int)).map _ = _
  rw [show ixN ds.length (j : Int) = some j from by unfold ixN; rw [if_pos (Int.natCast_nonneg j), if_pos (by omega)]; simp]
  rfl
theorem eqD_tup {a b : List D} : eqD (.tup a) (.tup b) = if SeqAt.shaped (D.py (.tup a)) = true ∧ SeqAt.shaped (D.py (.tup b)) = true then some (PyData.eqv (D.py (.tup a)) (D.py (.tup b))) else none := rfl
theorem sh_pair {a b : Int} : SeqAt.shaped (D.py (.tup [.int a, .int b])) = true := rfl
theorem eq_tup_refl {a : List D} (h : SeqAt.shaped (D.py (.tup a)) = true) : cmpD .Eq (.tup a) (.tup a) = some true := by
  show eqD (.tup a) (.tup a) = _
  rw [eqD_tup, if_pos ⟨h, h⟩, SeqAt.eqv_refl _ (SeqAt.canLay_of_shaped h)]
theorem eq_pair {a b c d : Int} : cmpD .Eq (.tup [.int a, .int b]) (.tup [.int c, .int d]) = some (decide (a = c) && decide (b = d)) := by
  show eqD (.tup [.int a, .int b]) (.tup [.int c, .int d]) = _
  rw [eqD_tup, if_pos ⟨sh_pair, sh_pair⟩]
  show some ((a == c) && ((b == d) && true)) = _
  rw [Bool.and_true]
  rfl
end
end Vp

end

section
set_option linter.all false
set_option autoImplicit false
/-! defs that many laws share, as trees -/
namespace Vp.Sh
open Vp
/-- raised -/
def b9 : Sms := (.cons [] (.asg (.nm 2) (.int 1))
 (.cons [] (.whl (.cmp .Gt (.loc 1) (.int 0))
  (.cons [] (.ife (.cmp .Eq (.bin .mod (.loc 1) (.int 2)) (.int 1))
  (.cons [] (.asg (.nm 2) (.bin .mul (.loc 2) (.loc 0)))
 .nil)
  .nil)
 (.cons [] (.asg (.nm 0) (.bin .mul (.loc 0) (.loc 0)))
 (.cons [] (.asg (.nm 1) (.bin .fdiv (.loc 1) (.int 2)))
 .nil))))
 (.cons [] (.ret (.loc 2))
 .nil)))

/-- _law_cell -/
def b83 : Sms := (.cons [] (.ife (.cmp .Lt (.loc 1) (.bf .len (.cons (.loc 0) .nil)))
  (.cons [] (.ret (.bf .int (.cons (.sub (.loc 0) (.loc 1)) .nil)))
 .nil)
  .nil)
 (.cons [] (.ret (.int 0))
 .nil))

/-- _law_numbers -/
def b84 : Sms := (.cons [] (.asgO 3 (.lst .nil))
 (.cons [] (.ife (.cmp .GtE (.loc 0) (.bin .pow (.int 10) (.int 18)))
  (.cons [] (.for_ (.nm 4) (.fn .rng1 (.cons (.loc 1) .nil))
  (.cons [] (.app 3 (.bin .mod (.bf .int (.cons (.loc 0) .nil)) (.loc 2)))
 (.cons [] (.asg (.nm 0) (.bin .fdiv (.bf .int (.cons (.loc 0) .nil)) (.loc 2)))
 .nil)))
 (.cons [3] (.ret (.loc 3))
 .nil))
  .nil)
 (.cons [] (.for_ (.nm 4) (.fn .rng1 (.cons (.loc 1) .nil))
  (.cons [] (.asg (.nm 5) (.bin .mod (.bf .int (.cons (.bin .add (.bin .add (.bin .mul (.loc 0) (.int 48271)) (.bin .mul (.loc 4) (.int 69621))) (.int 7)) .nil)) (.int 2147483647)))
 (.cons [] (.asg (.nm 5) (.bin .mod (.bf .int (.cons (.bin .add (.bin .add (.bin .add (.bin .mul (.loc 5) (.loc 5)) (.bin .mul (.loc 5) (.int 40692))) (.bin .mul (.loc 4) (.int 16807))) (.int 11)) .nil)) (.int 2147483399)))
 (.cons [] (.app 3 (.bin .mod (.bf .int (.cons (.bin .fdiv (.loc 5) (.int 32)) .nil)) (.loc 2)))
 .nil))))
 (.cons [3] (.ret (.loc 3))
 .nil))))

/-- _law_same -/
def b85 : Sms := (.cons [] (.ife (.isi .list (.loc 1))
  (.cons [] (.ife (.bool .Or (.cons (.nott (.isi .list (.loc 0))) (.cons (.cmp .NotEq (.bf .len (.cons (.loc 0) .nil)) (.bf .len (.cons (.loc 1) .nil))) .nil)))
  (.cons [] (.ret (.bl false))
 .nil)
  .nil)
 .nil)
  (.cons [] (.ife (.isi .tuple (.loc 1))
  (.cons [] (.ife (.bool .Or (.cons (.nott (.isi .tuple (.loc 0))) (.cons (.cmp .NotEq (.bf .len (.cons (.loc 0) .nil)) (.bf .len (.cons (.loc 1) .nil))) .nil)))
  (.cons [] (.ret (.bl false))
 .nil)
  .nil)
 .nil)
  (.cons [] (.ife (.cmp .Is (.loc 1) .non)
  (.cons [] (.ret (.cmp .Is (.loc 0) .non))
 .nil)
  (.cons [] (.ife (.isi .bool (.loc 1))
  (.cons [] (.ret (.bool .And (.cons (.isi .bool (.loc 0)) (.cons (.cmp .Eq (.loc 0) (.loc 1)) .nil))))
 .nil)
  (.cons [] (.ife (.isi .int (.loc 1))
  (.cons [] (.ret (.bool .And (.cons (.isi .int (.loc 0)) (.cons (.nott (.isi .bool (.loc 0))) (.cons (.cmp .Eq (.loc 0) (.loc 1)) .nil)))))
 .nil)
  (.cons [] (.ret (.bool .And (.cons (.isi .str (.loc 0)) (.cons (.cmp .Eq (.loc 0) (.loc 1)) .nil))))
 .nil))
 .nil))
 .nil))
 .nil))
 .nil))
 (.cons [] (.for_ (.nm 2) (.fn .rng1 (.cons (.bf .len (.cons (.loc 1) .nil)) .nil))
  (.cons [] (.ife (.nott (.call 85 (.cons (.sub (.loc 0) (.loc 2)) (.cons (.sub (.loc 1) (.loc 2)) .nil))))
  (.cons [] (.ret (.bl false))
 .nil)
  .nil)
 .nil))
 (.cons [] (.ret (.bl true))
 .nil)))

end Vp.Sh

end

section
set_option Elab.async false
set_option linter.all false
set_option autoImplicit false
set_option maxRecDepth 100000
/-! what the shared defs compute -/
namespace Vp.Sh
open Vp L2 PySem
set_option maxHeartbeats 0
section
variable {tab : Nat → Option Fn} {gl : Nat → Option D} {wn : Nat}
theorem natAbs_pow_lt {b : Int} {c : Nat} (h : b.natAbs < 2 ^ c) (j : Nat) : (b ^ j).natAbs < 2 ^ (c * j + 1) := by
  rw [Int.natAbs_pow]
  have h1 : b.natAbs ^ j ≤ (2 ^ c) ^ j := Nat.pow_le_pow_left (Nat.le_of_lt h) j
  rw [← Nat.pow_mul] at h1
  have h2 : 2 ^ (c * j) < 2 ^ (c * j + 1) := Nat.pow_lt_pow_right (by omega) (by omega)
  omega
def rBody : Sms := .cons [] (.ife (.cmp .Eq (.bin .mod (.loc 1) (.int 2)) (.int 1))
    (.cons [] (.asg (.nm 2) (.bin .mul (.loc 2) (.loc 0))) .nil) .nil) (.cons [] (.asg (.nm 0) (.bin .mul (.loc 0) (.loc 0))) (.cons [] (.asg (.nm 1) (.bin .fdiv (.loc 1) (.int 2))) .nil))
theorem rBody_ok {cf : Nat → List D → Option D} {x q y : Int} (m1 : mulOk x x = true) (m2 : mulOk y x = true) : exs cf gl wn rBody [.f (.int x), .f (.int q), .f (.int y)] = some (.nx [.f (.int (x * x)), .f (.int (q / 2)), .f (.int (if q % 2 = 1 then y * x else y))]) := by
  have d2 : divOk 2 = true := by decide
  unfold rBody
  by_cases h : q % 2 = 1
  · simp [exs_cons, seqF_def, m1, m2, d2, h]
  · simp [exs_cons, seqF_def, m1, m2, d2, h]
theorem raised {k : Nat} {b e : Int} {c : Nat} (ht : tab 9 = some ⟨2, 3, b9⟩) (he : 0 ≤ e) (hb : b.natAbs < 2 ^ c) (hs : 2 * (c * e.toNat) < 1000000) (hw : e.toNat < 2 ^ (wn - 1)) (hw0 : 1 ≤ wn) :
    callN tab gl wn (k + 1) 9 [.int b, .int e] = some (.int (b ^ e.toNat)) := by
  rw [callN_eq ht rfl]
  obtain ⟨E', m', h1, ⟨j, q, f, h2, h3, h4, h5⟩, h6⟩ := whileF_inv (c := tev (callN tab gl wn k) gl (.cmp .Gt (.loc 1) (.int 0))) (b := exs (callN tab gl wn k) gl wn rBody)
    (fun m E => ∃ j q f : Nat, E = [.f (.int (b ^ j)), .f (.int q), .f (.int (b ^ f))] ∧ f + j * q = e.toNat ∧ 1 ≤ j ∧ q < 2 ^ m) (by
      rintro m E ⟨j, q, f, rfl, h3, h4, h5⟩
      by_cases hq : q = 0
      · left
        subst hq
        simp
      · right
        have hj : j ≤ e.toNat := by
          have : j * 1 ≤ j * q := Nat.mul_le_mul_left j (by omega)
          omega
        have hf : f ≤ e.toNat := by omega
        have hcj : c * j ≤ c * e.toNat := Nat.mul_le_mul_left c hj
        have hcf : c * f ≤ c * e.toNat := Nat.mul_le_mul_left c hf
        have m1 : mulOk (b ^ j) (b ^ j) = true := mulOk_pow (c * j) (c * j) (natAbs_pow_lt hb j) (natAbs_pow_lt hb j) (by omega)
        have m2 : mulOk (b ^ f) (b ^ j) = true := mulOk_pow (c * f) (c * j) (natAbs_pow_lt hb f) (natAbs_pow_lt hb j) (by omega)
        have d2 : divOk 2 = true := by decide
        have hm : m ≠ 0 := by
          rintro rfl
          omega
        have e1 : b ^ j * b ^ j = b ^ (2 * j) := by rw [Nat.two_mul, Int.pow_add]
        have e2 : b ^ f * b ^ j = b ^ (f + j) := by rw [Int.pow_add]
        have e3 : (q : Int) / 2 = ((q / 2 : Nat) : Int) := by omega
        have e4 : q / 2 < 2 ^ (m - 1) := by
          obtain ⟨n, rfl⟩ : ∃ n, m = n + 1 := ⟨m - 1, by omega⟩
          rw [Nat.pow_succ] at h5
          simp only [Nat.add_sub_cancel]
          omega
        by_cases hodd : q % 2 = 1
        · have o1 : (q : Int) % 2 = 1 := by omega
          refine ⟨[.f (.int (b ^ (2 * j))), .f (.int ((q / 2 : Nat) : Int)), .f (.int (b ^ (f + j)))], m - 1, ?_, ?_, by omega, 2 * j, q / 2, f + j, rfl, ?_, by omega, e4⟩
          · simp [Nat.pos_of_ne_zero hq]
          · rw [rBody_ok m1 m2, if_pos o1, e1, e2, e3]
          · have : 2 * j * (q / 2) + j = j * q := by
              have : q = 2 * (q / 2) + 1 := by omega
              have e5 : j * q = j * (2 * (q / 2) + 1) := congrArg (j * ·) this
              rw [e5, Nat.mul_add, Nat.mul_one, Nat.mul_comm 2 j, Nat.mul_assoc]
            omega
        · have o1 : ¬ (q : Int) % 2 = 1 := by omega
          refine ⟨[.f (.int (b ^ (2 * j))), .f (.int ((q / 2 : Nat) : Int)), .f (.int (b ^ f))], m - 1, ?_, ?_, by omega, 2 * j, q / 2, f, rfl, ?_, by omega, e4⟩
          · simp [Nat.pos_of_ne_zero hq]
          · rw [rBody_ok m1 m2, if_neg o1, e1, e3]
          · have : 2 * j * (q / 2) = j * q := by
              have : q = 2 * (q / 2) := by omega
              have e5 : j * q = j * (2 * (q / 2)) := congrArg (j * ·) this
              rw [e5, Nat.mul_comm 2 j, Nat.mul_assoc]
            omega) wn (wn - 1) [.f (.int b), .f (.int e), .f (.int 1)] (by omega) ⟨1, e.toNat, 0, by rw [Int.pow_succ, Int.pow_zero, Int.one_mul, Int.toNat_of_nonneg he], by omega, by omega, hw⟩
  subst h2
  have hq : q = 0 := by
    simp at h6
    omega
  subst hq
  have hf : f = e.toNat := by omega
  subst hf
  have hh : exs (callN tab gl wn k) gl wn b9 (startE 3 [.int b, .int e]) = some (.rt (.int (b ^ e.toNat))) := by
    refine exs_nx (E' := [.f (.int b), .f (.int e), .f (.int 1)]) (by simp [startE]) ?_
    refine exs_nx (E' := _) (by rw [frz_nil, ex1_whl]; exact h1) ?_
    refine exs_rt ?_
    simp
  rw [hh]
  rfl
/-- a cell of the script -/
theorem cell {k : Nat} {ns : List Int} {i : Nat} (ht : tab 83 = some ⟨2, 2, b83⟩) : callN tab gl wn (k + 1) 83 [.fls (ns.map .int), .int (i : Int)] = some (.int (ns[i]?.getD 0)) := by
  rw [callN_eq ht rfl]
  have hh : exs (callN tab gl wn k) gl wn b83 (startE 2 [.fls (ns.map .int), .int (i : Int)]) = some (.rt (.int (ns[i]?.getD 0))) := by
    unfold b83
    by_cases h : i < ns.length
    · have e1 : atI (ns.map D.int) (i : Int) = some (.int ns[i]) := by rw [atI_nat (by simpa using h)]; simp [h]
      refine exs_rt ?_
      simp [startE, exs_cons, seqF_def, h, e1]
    · refine exs_nx (E' := startE 2 [.fls (ns.map .int), .int (i : Int)]) ?_ (exs_rt ?_)
      · simp [startE, h]
      · simp [h]
  rw [hh]
  rfl
/-- numbers drawn -/
def nBody1 : Sms := (.cons [] (.app 3 (.bin .mod (.bf .int (.cons (.loc 0) .nil)) (.loc 2)))
 (.cons [] (.asg (.nm 0) (.bin .fdiv (.bf .int (.cons (.loc 0) .nil)) (.loc 2)))
 .nil))
def nBody2 : Sms := (.cons [] (.asg (.nm 5) (.bin .mod (.bf .int (.cons (.bin .add (.bin .add (.bin .mul (.loc 0) (.int 48271)) (.bin .mul (.loc 4) (.int 69621))) (.int 7)) .nil)) (.int 2147483647)))
 (.cons [] (.asg (.nm 5) (.bin .mod (.bf .int (.cons (.bin .add (.bin .add (.bin .add (.bin .mul (.loc 5) (.loc 5)) (.bin .mul (.loc 5) (.int 40692))) (.bin .mul (.loc 4) (.int 16807))) (.int 11)) .nil)) (.int 2147483399)))
 (.cons [] (.app 3 (.bin .mod (.bf .int (.cons (.bin .fdiv (.loc 5) (.int 32)) .nil)) (.loc 2)))
 .nil)))
theorem appF_3 {a b c : Cell} {ds : List D} {f : Env' → Option D} {r : Env'} (h : ds.length < lineN) : appF 3 f (a :: b :: c :: .o ds :: r) = (f (a :: b :: c :: .o ds :: r)).bind fun x => some (.nx (a :: b :: c :: .o (ds ++ [x]) :: r)) := by
  show ((f _).bind fun d => if ds.length < lineN then some (Fl.nx _) else none) = _
  simp only [if_pos h]
  rfl
theorem nBody1_ok {cf : Nat → List D → Option D} {cell count limit : Int} {ns : List Int} {c4 c5 : Cell} (h0 : 0 < limit) (h1 : limit < 1000000000000000000) (hn : ns.length < 1000000) :
    exs cf gl wn nBody1 [.f (.int cell), .f (.int count), .f (.int limit), .o (ns.map .int), c4, c5] = some (.nx [.f (.int (cell / limit)), .f (.int count), .f (.int limit), .o ((ns ++ [cell % limit]).map .int), c4, c5]) := by
  have d1 : divOk limit = true := divOk_small h0 (by omega)
  unfold nBody1
  refine exs_nx (E' := [.f (.int cell), .f (.int count), .f (.int limit), .o ((ns ++ [cell % limit]).map .int), c4, c5]) ?_ ?_
  · rw [frz_nil, ex1_app, appF_3 (by rw [List.length_map]; exact Nat.lt_trans hn (by decide))]
    simp [h0]
  · simp [exs_cons, seqF_def, d1]
theorem nBody2_ok {cf : Nat → List D → Option D} {cell count limit j : Int} {ns : List Int} {c5 : Cell} (h0 : 0 < limit) (h1 : limit < 1000000000000000000) (hn : ns.length < 1000000) : ∃ z y : Int, 0 ≤ z ∧ z < limit ∧
    exs cf gl wn nBody2 [.f (.int cell), .f (.int count), .f (.int limit), .o (ns.map .int), .f (.int j), c5] = some (.nx [.f (.int cell), .f (.int count), .f (.int limit), .o ((ns ++ [z]).map .int), .f (.int j), .f (.int y)]) := by
  have d1 : divOk 32 = true := by decide
  have d2 : divOk limit = true := divOk_small h0 (by omega)
  have m1 : mulOk cell 48271 = true := mulOk_r (by omega) (by omega)
  have m2 : mulOk j 69621 = true := mulOk_r (by omega) (by omega)
  have m3 : mulOk j 16807 = true := mulOk_r (by omega) (by omega)
  unfold nBody2
  generalize hx : (cell * 48271 + j * 69621 + 7) % 2147483647 = x
  have x0 : 0 ≤ x ∧ x < 2147483647 := by omega
  have m4 : mulOk x x = true := mulOk_r (by omega) (by omega)
  have m5 : mulOk x 40692 = true := mulOk_r (by omega) (by omega)
  generalize hy : (x * x + x * 40692 + j * 16807 + 11) % 2147483399 = y
  refine ⟨y / 32 % limit, y, Int.emod_nonneg _ (by omega), Int.emod_lt_of_pos _ h0, ?_⟩
  refine exs_nx (E' := [.f (.int cell), .f (.int count), .f (.int limit), .o (ns.map .int), .f (.int j), .f (.int x)]) ?_ ?_
  · simp [m1, m2, hx]
  refine exs_nx (E' := [.f (.int cell), .f (.int count), .f (.int limit), .o (ns.map .int), .f (.int j), .f (.int y)]) ?_ ?_
  · simp [m3, m4, m5, hy]
  refine exs_nx (E' := [.f (.int cell), .f (.int count), .f (.int limit), .o ((ns ++ [y / 32 % limit]).map .int), .f (.int j), .f (.int y)]) ?_ rfl
  rw [frz_nil, ex1_app, appF_3 (by rw [List.length_map]; exact Nat.lt_trans hn (by decide))]
  simp [h0, d1]
theorem numbers {k : Nat} {cell count limit : Int} (ht : tab 84 = some ⟨3, 6, b84⟩) (h0 : 0 < limit) (h1 : limit < 1000000000000000000) (hc0 : 0 ≤ count) (hc : count < 1000000) :
    ∃ ns : List Int, callN tab gl wn (k + 1) 84 [.int cell, .int count, .int limit] = some (.lst (ns.map .int)) ∧ ns.length = count.toNat ∧ ∀ n ∈ ns, 0 ≤ n ∧ n < limit := by
  have sm : small62 count = true := small62_of (by omega) (by omega)
  have hrange : evI (callN tab gl wn k) gl (.fn .rng1 (.cons (.loc 1) .nil)) [.f (.int cell), .f (.int count), .f (.int limit), .o [], .u, .u] = some ((List.range count.toNat).map fun i => .int (0 + (i : Nat))) := by simp [sm]
  have fin : ∀ {s : Sm} {r : Sms} (ns : List Int) (c0 c4 c5 : Cell), exs (callN tab gl wn k) gl wn (.cons [3] (.ret (.loc 3)) .nil) [c0, .f (.int count), .f (.int limit), .o (ns.map .int), c4, c5] = some (.rt (.lst (ns.map .int))) := by
    intro s r ns c0 c4 c5
    refine exs_rt ?_
    show ex1 _ _ _ _ [c0, .f (.int count), .f (.int limit), .f (.lst (ns.map .int)), c4, c5] = _
    simp
  rw [callN_eq ht rfl]
  by_cases hb : 1000000000000000000 ≤ cell
  · obtain ⟨E', e1, ns, x, c4, c5, rfl, e2, e3⟩ := forF_inv (t := .nm 4) (b := exs (callN tab gl wn k) gl wn nBody1) ((List.range count.toNat).map fun i => .int (0 + (i : Nat)))
      (fun i E => ∃ (ns : List Int) (x : Int) (c4 c5 : Cell), E = [.f (.int x), .f (.int count), .f (.int limit), .o (ns.map .int), c4, c5] ∧ ns.length = i ∧ ∀ n ∈ ns, 0 ≤ n ∧ n < limit)
      [.f (.int cell), .f (.int count), .f (.int limit), .o [], .u, .u] ⟨[], cell, .u, .u, rfl, rfl, fun n h => by cases h⟩ (by
        rintro i d E hd ⟨ns, x, c4, c5, rfl, h2, h3⟩
        have hi : i < count.toNat := by simpa using (List.getElem?_eq_some_iff.mp hd).1
        refine ⟨_, _, rfl, .inl (nBody1_ok h0 h1 (by omega)), ns ++ [x % limit], x / limit, _, _, rfl, by simp [h2], fun n hn => ?_⟩
        rcases List.mem_append.mp hn with hn | hn
        · exact h3 n hn
        · rw [List.mem_singleton.mp hn]
          exact ⟨Int.emod_nonneg _ (by omega), Int.emod_lt_of_pos _ h0⟩)
    refine ⟨ns, ?_, by simpa using e2, e3⟩
    have hh : exs (callN tab gl wn k) gl wn b84 (startE 6 [.int cell, .int count, .int limit]) = some (.rt (.lst (ns.map .int))) := by
      unfold b84
      refine exs_nx (E' := [.f (.int cell), .f (.int count), .f (.int limit), .o [], .u, .u]) (by simp [startE]) ?_
      refine exs_rt ?_
      rw [frz_nil, ex1_ife]
      have hc : tev (callN tab gl wn k) gl (.cmp .GtE (.loc 0) (.bin .pow (.int 10) (.int 18))) [.f (.int cell), .f (.int count), .f (.int limit), .o [], .u, .u] = some true := by
        simp [hb]
      rw [hc, Option.bind_some, if_pos rfl]
      refine exs_nx (E' := _) ?_ (fin (s := .pass) (r := .nil) ns (.f (.int x)) c4 c5)
      rw [frz_nil, ex1_for, hrange, Option.bind_some]
      exact e1
    rw [hh]
    rfl
  · obtain ⟨E', e1, ns, c4, c5, rfl, e2, e3⟩ := forF_inv (t := .nm 4) (b := exs (callN tab gl wn k) gl wn nBody2) ((List.range count.toNat).map fun i => .int (0 + (i : Nat)))
      (fun i E => ∃ (ns : List Int) (c4 c5 : Cell), E = [.f (.int cell), .f (.int count), .f (.int limit), .o (ns.map .int), c4, c5] ∧ ns.length = i ∧ ∀ n ∈ ns, 0 ≤ n ∧ n < limit)
      [.f (.int cell), .f (.int count), .f (.int limit), .o [], .u, .u] ⟨[], .u, .u, rfl, rfl, fun n h => by cases h⟩ (by
        rintro i d E hd ⟨ns, c4, c5, rfl, h2, h3⟩
        have hi : i < count.toNat := by simpa using (List.getElem?_eq_some_iff.mp hd).1
        have hd2 : d = .int (0 + (i : Nat)) := by
          rw [List.getElem?_map, List.getElem?_range hi] at hd
          exact (Option.some.inj hd).symm
        subst hd2
        obtain ⟨z, y, z0, z1, hz⟩ := nBody2_ok (gl := gl) (wn := wn) (cf := callN tab gl wn k) (cell := cell) (count := count) (j := 0 + (i : Nat)) (ns := ns) (c5 := c5) h0 h1 (by omega)
        refine ⟨_, _, rfl, .inl hz, ns ++ [z], _, _, rfl, by simp [h2], fun n hn => ?_⟩
        rcases List.mem_append.mp hn with hn | hn
        · exact h3 n hn
        · rw [List.mem_singleton.mp hn]
          exact ⟨z0, z1⟩)
    refine ⟨ns, ?_, by simpa using e2, e3⟩
    have hh : exs (callN tab gl wn k) gl wn b84 (startE 6 [.int cell, .int count, .int limit]) = some (.rt (.lst (ns.map .int))) := by
      unfold b84
      refine exs_nx (E' := [.f (.int cell), .f (.int count), .f (.int limit), .o [], .u, .u]) (by simp [startE]) ?_
      refine exs_nx (E' := [.f (.int cell), .f (.int count), .f (.int limit), .o [], .u, .u]) ?_ ?_
      · rw [frz_nil, ex1_ife]
        have hc : tev (callN tab gl wn k) gl (.cmp .GtE (.loc 0) (.bin .pow (.int 10) (.int 18))) [.f (.int cell), .f (.int count), .f (.int limit), .o [], .u, .u] = some false := by
          simp
          omega
        rw [hc, Option.bind_some, if_neg (by decide)]
        rfl
      refine exs_nx (E' := _) ?_ (fin (s := .pass) (r := .nil) ns (.f (.int cell)) c4 c5)
      rw [frz_nil, ex1_for, hrange, Option.bind_some]
      exact e1
    rw [hh]
    rfl
end
end Vp.Sh

end

section
set_option Elab.async false
set_option linter.all false
set_option autoImplicit false
set_option maxRecDepth 100000
set_option maxHeartbeats 0
/-! _law_same on two of the same -/
namespace Vp.Sh
open Vp L2 PySem
def good : Nat → D → Bool
  | _, .non => true
  | _, .bl _ => true
  | _, .int _ => true
  | _, .str _ => true
  | n + 1, .lst ds => decide (ds.length < 1000000) && ds.all (good n)
  | n + 1, .tup ds => decide (ds.length < 1000000) && ds.all (good n)
  | _, _ => false
section
variable {tab : Nat → Option Fn} {gl : Nat → Option D} {wn : Nat}
def sBody : Sms := (.cons [] (.ife (.nott (.call 85 (.cons (.sub (.loc 0) (.loc 2)) (.cons (.sub (.loc 1) (.loc 2)) .nil))))
  (.cons [] (.ret (.bl false))
 .nil)
  .nil)
 .nil)
def sTail : Sms := (.cons [] (.for_ (.nm 2) (.fn .rng1 (.cons (.bf .len (.cons (.loc 1) .nil)) .nil)) sBody) (.cons [] (.ret (.bl true))
 .nil))
theorem sBody_ok {cf : Nat → List D → Option D} {d x : D} {i : Int} (hx : ixD d (.int i) = some x) (h : cf 85 [x, x] = some (.bl true)) : exs cf gl wn sBody [.f d, .f d, .f (.int i)] = some (.nx [.f d, .f d, .f (.int i)]) := by
  have e : tev cf gl (.nott (.call 85 (.cons (.sub (.loc 0) (.loc 2)) (.cons (.sub (.loc 1) (.loc 2)) .nil)))) [.f d, .f d, .f (.int i)] = some false := by
    simp [hx, h]
  refine exs_nx (E' := [.f d, .f d, .f (.int i)]) ?_ rfl
  rw [frz_nil, ex1_ife, e]
  rfl
theorem sTail_ok {cf : Nat → List D → Option D} {d : D} {ds : List D} (hx : ∀ i, ixD d (.int i) = atI ds i) (hl : bfD .len [d] = some (.int (ds.length : Nat))) (hn : ds.length < 1000000) (h : ∀ x ∈ ds, cf 85 [x, x] = some (.bl true)) :
    exs cf gl wn sTail [.f d, .f d, .u] = some (.rt (.bl true)) := by
  have sm : small62 (ds.length : Nat) = true := small62_of (by omega) (by omega)
  obtain ⟨E', e1, c, rfl⟩ := forF_inv (t := .nm 2) (b := exs cf gl wn sBody) ((List.range ds.length).map fun i => .int (0 + (i : Nat))) (fun i E => ∃ c, E = [.f d, .f d, c]) [.f d, .f d, .u] ⟨_, rfl⟩ (by
    rintro i x E hd ⟨c, rfl⟩
    have hi : i < ds.length := by simpa using (List.getElem?_eq_some_iff.mp hd).1
    have hd2 : x = .int (0 + (i : Nat)) := by
      rw [List.getElem?_map, List.getElem?_range hi] at hd
      exact (Option.some.inj hd).symm
    subst hd2
    refine ⟨[.f d, .f d, .f (.int (0 + (i : Nat)))], [.f d, .f d, .f (.int (0 + (i : Nat)))], rfl, .inl (sBody_ok ?_ (h _ (List.getElem_mem hi))), _, rfl⟩
    rw [hx, Int.zero_add, atI_nat hi, List.getElem?_eq_getElem hi])
  refine exs_nx (E' := [.f d, .f d, c]) ?_ (exs_rt (by simp))
  rw [frz_nil, ex1_for]
  have e2 : evI cf gl (.fn .rng1 (.cons (.bf .len (.cons (.loc 1) .nil)) .nil)) [.f d, .f d, .u] = some ((List.range ds.length).map fun i => .int (0 + (i : Nat))) := by
    rw [evI_fn, evs_cons, ev_bf, evs_cons, ev_loc, look_succ, look_zero, evs_nil, Option.bind_some, Option.map_some, Option.bind_some, hl, Option.bind_some, Option.map_some, Option.bind_some, rng1_int, if_pos sm]
    rfl
  rw [e2, Option.bind_some]
  exact e1
theorem isi_simp (T : TyN) (d : D) : isiB T d = match d with
  | .bl _ => decide (T = .bool) || decide (T = .int)
  | .int _ => decide (T = .int)
  | .str _ => decide (T = .str)
  | .lst _ => decide (T = .list)
  | .tup _ => decide (T = .tuple)
  | .fls _ => decide (T = .list)
  | _ => false := by cases d <;> cases T <;> rfl
theorem same (ht : tab 85 = some ⟨2, 3, b85⟩) : ∀ (n k : Nat) (d : D), good n d = true → n < k → callN tab gl wn k 85 [d, d] = some (.bl true) := by
  intro n
  induction n with
  | zero =>
    intro k d h hk
    obtain ⟨k, rfl⟩ : ∃ j, k = j + 1 := ⟨k - 1, by omega⟩
    rw [callN_eq ht rfl]
    have hh : exs (callN tab gl wn k) gl wn b85 (startE 3 [d, d]) = some (.rt (.bl true)) := by
      unfold b85
      cases d <;> first | (cases h; done) | (simp [exs_cons, seqF_def, isi_simp, startE])
    rw [hh]
    rfl
  | succ n ih =>
    intro k d h hk
    obtain ⟨k, rfl⟩ : ∃ j, k = j + 1 := ⟨k - 1, by omega⟩
    rw [callN_eq ht rfl]
    have hh : exs (callN tab gl wn k) gl wn b85 (startE 3 [d, d]) = some (.rt (.bl true)) := by
      cases d with
      | lst ds =>
        simp only [good, Bool.and_eq_true, decide_eq_true_eq, List.all_eq_true] at h
        have t := sTail_ok (cf := callN tab gl wn k) (gl := gl) (wn := wn) (d := .lst ds) (fun i => rfl) rfl h.1 fun x hx => ih k x (h.2 x hx) (by omega)
        refine exs_nx (E' := [.f (.lst ds), .f (.lst ds), .u]) ?_ t
        simp [startE, exs_cons, seqF_def, isi_simp]
      | tup ds =>
        simp only [good, Bool.and_eq_true, decide_eq_true_eq, List.all_eq_true] at h
        have t := sTail_ok (cf := callN tab gl wn k) (gl := gl) (wn := wn) (d := .tup ds) (fun i => rfl) rfl h.1 fun x hx => ih k x (h.2 x hx) (by omega)
        refine exs_nx (E' := [.f (.tup ds), .f (.tup ds), .u]) ?_ t
        simp [startE, exs_cons, seqF_def, isi_simp]
      | dic _ => cases h
      | fls _ => cases h
      | _ =>
        unfold b85
        simp [exs_cons, seqF_def, isi_simp, startE]
    rw [hh]
    rfl
end
end Vp.Sh

end

section
set_option Elab.async false
set_option linter.all false
set_option autoImplicit false
set_option maxRecDepth 100000
set_option maxHeartbeats 0
/-! the defs of the law's linked text as trees -/
namespace Law86
open Vp
/-- raised -/
def b9 : Sms := Vp.Sh.b9
def e9 : Entry := ⟨9, 1, ["base", "k", "found"], ⟨2, 3, b9⟩⟩
/-- divides_at -/
def b95 : Sms := (.cons [] (.ret (.cmp .Eq (.bin .fdiv (.loc 3) (.loc 0)) (.bin .fdiv (.bin .mul (.loc 3) (.loc 1)) (.call 9 (.cons (.int 2) (.cons (.loc 2) .nil))))))
 .nil)
def e95 : Entry := ⟨95, 4, ["c", "m", "s", "x"], ⟨4, 4, b95⟩⟩
/-- probes_for -/
def b96 : Sms := (.cons [] (.asg (.nm 2) (.ife (.cmp .GtE (.loc 1) (.bin .sub (.loc 0) (.int 1))) (.bin .sub (.loc 1) (.bin .mod (.bin .add (.loc 1) (.int 1)) (.loc 0))) (.loc 1)))
 (.cons [] (.ret (.ife (.cmp .LtE (.loc 0) (.loc 1)) (.lis (.bo .sorted (.cons (.dic (.cons (.loc 0) (.bl true) (.cons (.loc 2) (.bl true) .nil))) .nil))) (.lis (.lst (.cons (.loc 2) .nil)))))
 .nil))
def e96 : Entry := ⟨96, 5, ["c", "most", "last"], ⟨2, 3, b96⟩⟩
/-- divides -/
def b97 : Sms := (.cons [] (.ret (.bf .alll (.cons (.lis (.comp [4] (.nm 4) (.call 95 (.cons (.loc 0) (.cons (.loc 2) (.cons (.loc 3) (.cons (.loc 4) .nil))))) .no (.ex (.call 96 (.cons (.loc 0) (.cons (.loc 1) .nil)))))) .nil)))
 .nil)
def e97 : Entry := ⟨97, 6, ["c", "most", "m", "s", "x"], ⟨4, 5, b97⟩⟩
/-- least_factor -/
def b98 : Sms := (.cons [] (.ret (.neg (.bin .fdiv (.neg (.call 9 (.cons (.int 2) (.cons (.loc 1) .nil)))) (.loc 0))))
 .nil)
def e98 : Entry := ⟨98, 7, ["c", "s"], ⟨2, 2, b98⟩⟩
def b99_1 : Sms := (.cons [] (.aug 2 .add (.int 1))
 .nil)
/-- least_pair -/
def b99 : Sms := (.cons [] (.ife (.cmp .Lt (.loc 1) (.loc 0))
  (.cons [] (.ret (.tup (.cons (.int 0) (.cons (.int 0) .nil))))
 .nil)
  .nil)
 (.cons [] (.asg (.nm 2) (.int 0))
 (.cons [] (.whl (.nott (.call 97 (.cons (.loc 0) (.cons (.loc 1) (.cons (.call 98 (.cons (.loc 0) (.cons (.loc 2) .nil))) (.cons (.loc 2) .nil))))))
  b99_1)
 (.cons [] (.ret (.tup (.cons (.call 98 (.cons (.loc 0) (.cons (.loc 2) .nil))) (.cons (.loc 2) .nil))))
 .nil))))
def e99 : Entry := ⟨99, 8, ["c", "most", "s"], ⟨2, 3, b99⟩⟩
/-- judge_pair -/
def b100 : Sms := (.cons [] (.ife (.cmp .Lt (.loc 1) (.loc 0))
  (.cons [] (.ret (.bool .And (.cons (.cmp .Eq (.loc 2) (.int 0)) (.cons (.cmp .Eq (.loc 3) (.int 0)) .nil))))
 .nil)
  .nil)
 (.cons [] (.ife (.bool .Or (.cons (.nott (.call 97 (.cons (.loc 0) (.cons (.loc 1) (.cons (.loc 2) (.cons (.loc 3) .nil)))))) (.cons (.cmp .GtE (.bin .mul (.loc 0) (.bin .sub (.loc 2) (.int 1))) (.call 9 (.cons (.int 2) (.cons (.loc 3) .nil)))) .nil)))
  (.cons [] (.ret (.bl false))
 .nil)
  .nil)
 (.cons [] (.ret (.bool .Or (.cons (.cmp .Eq (.loc 3) (.int 0)) (.cons (.nott (.call 97 (.cons (.loc 0) (.cons (.loc 1) (.cons (.call 98 (.cons (.loc 0) (.cons (.bin .sub (.loc 3) (.int 1)) .nil))) (.cons (.bin .sub (.loc 3) (.int 1)) .nil)))))) .nil))))
 .nil)))
def e100 : Entry := ⟨100, 9, ["c", "most", "m", "s"], ⟨4, 4, b100⟩⟩
/-- power_in -/
def b101 : Sms := (.cons [] (.asg (.nm 1) (.bin .sub (.bits (.loc 0)) (.int 1)))
 (.cons [] (.ret (.ife (.cmp .Eq (.call 9 (.cons (.int 2) (.cons (.loc 1) .nil))) (.loc 0)) (.loc 1) .non))
 .nil))
def e101 : Entry := ⟨101, 10, ["c", "a"], ⟨1, 2, b101⟩⟩
/-- way_of -/
def b102 : Sms := (.cons [] (.ife (.cmp .Eq (.loc 0) (.int 1))
  (.cons [] (.ret (.tup (.cons (.str ("copy" : String)) .nil)))
 .nil)
  .nil)
 (.cons [] (.ife (.cmp .IsNot (.call 101 (.cons (.loc 0) .nil)) .non)
  (.cons [] (.ret (.tup (.cons (.str ("right" : String)) (.cons (.call 101 (.cons (.loc 0) .nil)) .nil))))
 .nil)
  .nil)
 (.cons [] (.asg (.tp [(.nm 3), (.nm 4)]) (.call 99 (.cons (.loc 0) (.cons (.loc 1) .nil))))
 (.cons [] (.ret (.ife (.bool .And (.cons (.cmp .Lt (.bin .mul (.loc 1) (.loc 3)) (.call 9 (.cons (.int 2) (.cons (.loc 2) .nil)))) (.cons (.cmp .LtE (.loc 4) (.glo 103)) .nil))) (.tup (.cons (.str ("mul" : String)) (.cons (.loc 3) (.cons (.loc 4) .nil)))) .non))
 .nil))))
def e102 : Entry := ⟨102, 11, ["c", "most", "width", "m", "s"], ⟨3, 5, b102⟩⟩
/-- _law_cell -/
def b83 : Sms := Vp.Sh.b83
def e83 : Entry := ⟨83, 13, ["script", "k"], ⟨2, 2, b83⟩⟩
/-- _law_numbers -/
def b84 : Sms := Vp.Sh.b84
def e84 : Entry := ⟨84, 14, ["cell", "count", "limit", "found", "k", "mixed"], ⟨3, 6, b84⟩⟩
/-- _law_same -/
def b85 : Sms := Vp.Sh.b85
def e85 : Entry := ⟨85, 15, ["told", "due", "k"], ⟨2, 3, b85⟩⟩
def b104_1 : Sms := (.cons [] (.asg (.nm 2) (.bin .mul (.loc 2) (.loc 0)))
 .nil)
/-- _law_power -/
def b104 : Sms := (.cons [] (.asg (.nm 2) (.int 1))
 (.cons [] (.for_ (.nm 3) (.fn .rng1 (.cons (.loc 1) .nil))
  b104_1)
 (.cons [] (.ret (.loc 2))
 .nil)))
def e104 : Entry := ⟨104, 16, ["base", "count", "found", "turn"], ⟨2, 4, b104⟩⟩
def b109_1 : Sms := (.cons [] (.app 5 (.bin .add (.bin .mul (.bin .mul (.sub (.loc 2) (.bin .add (.int 7) (.bin .mod (.loc 6) (.int 5)))) (.sub (.loc 1) (.bin .add (.int 6) (.loc 6)))) (.sub (.loc 1) (.bin .add (.int 7) (.loc 6)))) (.sub (.loc 1) (.bin .add (.int 8) (.loc 6)))))
 (.cons [] (.app 5 (.bin .sub (.bin .mul (.loc 3) (.bin .mul (.sub (.loc 2) (.bin .mod (.loc 6) (.int 7))) (.sub (.loc 1) (.bin .add (.int 6) (.loc 6))))) (.int 1)))
 .nil))
def b109_2 : Sms := (.cons [] (.asg (.nm 7) (.bin .mod (.bf .int (.cons (.loc 7) .nil)) (.bin .add (.loc 4) (.int 1))))
 (.cons [] (.ife (.cmp .NotEq (.bin .fdiv (.loc 7) (.loc 3)) (.bin .fdiv (.bin .mul (.loc 7) (.loc 11)) (.call 104 (.cons (.int 2) (.cons (.loc 12) .nil)))))
  (.cons [] (.ret (.bl false))
 .nil)
  .nil)
 .nil))
def b109_3 : Sms := (.cons [] (.ife (.bool .And (.cons (.cmp .NotEq (.tup (.cons (.loc 14) (.cons (.loc 15) .nil))) (.tup (.cons (.loc 11) (.cons (.loc 12) .nil)))) (.cons (.cmp .GtE (.loc 14) (.int 0)) (.cons (.cmp .IsNot (.call 100 (.cons (.loc 3) (.cons (.loc 4) (.cons (.loc 14) (.cons (.loc 15) .nil))))) (.bl false)) .nil))))
  (.cons [] (.ret (.bl false))
 .nil)
  .nil)
 .nil)
def b109_4 : Sms := (.cons [] (.asg (.nm 16) (.call 102 (.cons (.loc 3) (.cons (.loc 4) (.cons (.loc 10) .nil)))))
 (.cons [] (.ife (.bool .And (.cons (.cmp .IsNot (.loc 16) .non) (.cons (.cmp .Eq (.sub (.loc 16) (.int 0)) (.str ("mul" : String))) (.cons (.bool .Or (.cons (.cmp .NotEq (.loc 16) (.tup (.cons (.str ("mul" : String)) (.cons (.loc 11) (.cons (.loc 12) .nil))))) (.cons (.cmp .GtE (.bin .mul (.loc 4) (.loc 11)) (.call 104 (.cons (.int 2) (.cons (.loc 10) .nil)))) .nil))) .nil))))
  (.cons [] (.ret (.bl false))
 .nil)
  .nil)
 (.cons [] (.ife (.bool .And (.cons (.cmp .Is (.loc 16) .non) (.cons (.cmp .Lt (.bin .mul (.loc 4) (.loc 11)) (.call 104 (.cons (.int 2) (.cons (.loc 10) .nil)))) .nil)))
  (.cons [] (.ret (.bl false))
 .nil)
  .nil)
 .nil)))
/-- law -/
def b109 : Sms := (.cons [] (.asg (.nm 1) (.call 84 (.cons (.call 83 (.cons (.loc 0) (.cons (.int 0) .nil))) (.cons (.int 40) (.cons (.int 5040) .nil)))))
 (.cons [] (.asg (.nm 2) (.call 84 (.cons (.call 83 (.cons (.loc 0) (.cons (.int 1) .nil))) (.cons (.int 12) (.cons (.int 1000003) .nil)))))
 (.cons [] (.asg (.nm 3) (.sub (.lis (.lst (.cons (.call 104 (.cons (.int 10) (.cons (.bin .add (.int 1) (.bin .mod (.sub (.loc 1) (.int 0)) (.int 12))) .nil))) (.cons (.bin .add (.int 2) (.sub (.loc 2) (.int 0))) (.cons (.bin .add (.int 2) (.bin .mul (.sub (.loc 2) (.int 1)) (.sub (.loc 2) (.int 2)))) (.cons (.bin .mul (.int 3) (.call 104 (.cons (.int 10) (.cons (.bin .mod (.sub (.loc 1) (.int 0)) (.int 9)) .nil)))) .nil)))))) (.bin .mod (.sub (.loc 1) (.int 1)) (.int 4))))
 (.cons [] (.asg (.nm 4) (.sub (.lis (.lst (.cons (.bin .mul (.bin .mul (.sub (.loc 2) (.int 3)) (.sub (.loc 2) (.int 4))) (.bin .add (.int 1) (.sub (.loc 2) (.int 5)))) (.cons (.bin .add (.bin .mul (.loc 3) (.bin .add (.int 1) (.sub (.loc 1) (.int 2)))) (.sub (.loc 1) (.int 3))) (.cons (.call 104 (.cons (.int 2) (.cons (.bin .add (.int 10) (.bin .mod (.sub (.loc 1) (.int 4)) (.int 54))) .nil))) (.cons (.sub (.loc 2) (.int 6)) .nil)))))) (.bin .mod (.sub (.loc 1) (.int 5)) (.int 4))))
 (.cons [] (.asg (.tp [(.nm 11), (.nm 12)]) (.call 99 (.cons (.loc 3) (.cons (.loc 4) .nil))))
 (.cons [] (.asgO 5 (.lst (.cons (.int 0) (.cons (.int 1) (.cons (.loc 4) (.cons (.bin .fdiv (.loc 4) (.int 2)) (.cons (.loc 3) (.cons (.bin .sub (.loc 3) (.int 1)) (.cons (.bin .add (.loc 3) (.int 1)) (.cons (.bin .sub (.loc 4) (.bin .mod (.bf .int (.cons (.loc 4) .nil)) (.loc 3))) (.cons (.bin .sub (.bin .sub (.loc 4) (.bin .mod (.bf .int (.cons (.loc 4) .nil)) (.loc 3))) (.int 1)) .nil)))))))))))
 (.cons [] (.for_ (.nm 6) (.fn .rng1 (.cons (.int 20) .nil))
  b109_1)
 (.cons [5] (.for_ (.nm 7) (.ex (.loc 5))
  b109_2)
 (.cons [] (.asg (.nm 8) (.call 96 (.cons (.loc 3) (.cons (.loc 4) .nil))))
 (.cons [] (.ife (.bool .Or (.cons (.cmp .Gt (.bf .len (.cons (.lis (.comp [7] (.nm 7) (.loc 7) (.yes (.bool .Or (.cons (.cmp .Lt (.loc 7) (.int 0)) (.cons (.cmp .Gt (.loc 7) (.loc 4)) .nil)))) (.ex (.loc 8)))) .nil)) (.int 0)) (.cons (.nott (.call 85 (.cons (.call 97 (.cons (.loc 3) (.cons (.loc 4) (.cons (.loc 11) (.cons (.loc 12) .nil))))) (.cons (.bl true) .nil)))) (.cons (.nott (.call 85 (.cons (.call 100 (.cons (.loc 3) (.cons (.loc 4) (.cons (.loc 11) (.cons (.loc 12) .nil))))) (.cons (.bl true) .nil)))) .nil))))
  (.cons [] (.ret (.bl false))
 .nil)
  .nil)
 (.cons [] (.asg (.nm 9) (.lis (.lst (.cons (.tup (.cons (.bin .add (.loc 11) (.int 1)) (.cons (.loc 12) .nil))) (.cons (.tup (.cons (.bin .mul (.int 2) (.loc 11)) (.cons (.bin .add (.loc 12) (.int 1)) .nil))) (.cons (.tup (.cons (.bin .sub (.bin .mul (.int 2) (.loc 11)) (.int 1)) (.cons (.bin .add (.loc 12) (.int 1)) .nil))) (.cons (.tup (.cons (.bin .add (.loc 11) (.loc 3)) (.cons (.loc 12) .nil))) (.cons (.tup (.cons (.loc 11) (.cons (.bin .add (.loc 12) (.int 1)) .nil))) (.cons (.tup (.cons (.bin .mul (.int 4) (.loc 11)) (.cons (.bin .add (.loc 12) (.int 2)) .nil))) .nil)))))))))
 (.cons [] (.ife (.bool .And (.cons (.cmp .Gt (.loc 12) (.int 0)) (.cons (.cmp .Gt (.loc 11) (.int 0)) .nil)))
  (.cons [] (.asg (.nm 13) (.bin .sub (.int 0) (.bin .fdiv (.bin .sub (.int 0) (.call 104 (.cons (.int 2) (.cons (.bin .sub (.loc 12) (.int 1)) .nil)))) (.loc 3))))
 (.cons [] (.asg (.nm 9) (.bin .add (.loc 9) (.lis (.lst (.cons (.tup (.cons (.bin .sub (.loc 11) (.int 1)) (.cons (.loc 12) .nil))) (.cons (.tup (.cons (.loc 13) (.cons (.bin .sub (.loc 12) (.int 1)) .nil))) (.cons (.tup (.cons (.loc 11) (.cons (.bin .sub (.loc 12) (.int 1)) .nil))) (.cons (.tup (.cons (.bin .fdiv (.loc 11) (.int 2)) (.cons (.bin .sub (.loc 12) (.int 1)) .nil))) .nil))))))))
 (.cons [] (.ife (.cmp .Eq (.bf .len (.cons (.lis (.comp [7] (.nm 7) (.loc 7) (.yes (.cmp .NotEq (.bin .fdiv (.loc 7) (.loc 3)) (.bin .fdiv (.bin .mul (.loc 7) (.loc 13)) (.call 104 (.cons (.int 2) (.cons (.bin .sub (.loc 12) (.int 1)) .nil)))))) (.ex (.loc 8)))) .nil)) (.int 0))
  (.cons [] (.ret (.bl false))
 .nil)
  .nil)
 .nil)))
  .nil)
 (.cons [] (.for_ (.tp [(.nm 14), (.nm 15)]) (.ex (.loc 9))
  b109_3)
 (.cons [] (.for_ (.nm 10) (.ex (.lis (.lst (.cons (.int 16) (.cons (.int 64) (.cons (.int 128) (.cons (.int 256) .nil)))))))
  b109_4)
 (.cons [] (.ret (.bool .Or (.cons (.cmp .GtE (.loc 4) (.loc 3)) (.cons (.cmp .Eq (.tup (.cons (.loc 11) (.cons (.loc 12) .nil))) (.tup (.cons (.int 0) (.cons (.int 0) .nil)))) .nil))))
 .nil)))))))))))))))
def e109 : Entry := ⟨109, 17, ["script", "draws", "some", "c", "most", "tried", "k", "x", "probes", "bent", "width", "m", "s", "down", "one", "other", "way"], ⟨1, 17, b109⟩⟩
def prog : Prog := ⟨[e9, e95, e96, e97, e98, e99, e100, e101, e102, e83, e84, e85, e104, e109],
  [(103, "MOST_SHIFT", .int 256)],
  ["sorted", "all", "len", "int", "range", "isinstance", "list", "tuple", "bool", "str"], false⟩
end Law86

end

section
set_option Elab.async false
set_option linter.all false
set_option autoImplicit false
/-! division by a product and a shift: plain -/
namespace P85
theorem ediv_iff {a b q : Int} (hb : 0 < b) : a / b = q ↔ b * q ≤ a ∧ a < b * q + b := by
  have h1 := Int.mul_ediv_add_emod a b
  have h2 := Int.emod_nonneg a (show b ≠ 0 by omega)
  have h3 := Int.emod_lt_of_pos a hb
  constructor
  · rintro rfl
    omega
  · rintro ⟨h4, h5⟩
    have h6 : b * q < b * (a / b + 1) := by rw [Int.mul_add, Int.mul_one]; omega
    have h7 : b * (a / b) < b * (q + 1) := by rw [Int.mul_add, Int.mul_one]; omega
    have h8 := Int.lt_of_mul_lt_mul_left h6 (by omega)
    have h9 := Int.lt_of_mul_lt_mul_left h7 (by omega)
    omega
/-- product and shift give x // c -/
def ok (c m P x : Int) : Prop := P * (x / c) ≤ x * m ∧ x * m < P * (x / c) + P
theorem ok_iff {c m P x : Int} (hP : 0 < P) : x / c = x * m / P ↔ ok c m P x := by
  rw [eq_comm, ediv_iff hP]
  rfl
def last (c most : Int) : Int := if most ≥ c - 1 then most - (most + 1) % c else most
theorem le_mul {a b c : Int} (h : a ≤ b) (hc : 0 ≤ c) : a * c ≤ b * c := Int.mul_le_mul_of_nonneg_right h hc
theorem all_of {c most m P : Int} (hc : 0 < c) (hm : 0 ≤ m) (hP : 0 < P) (h0 : 0 ≤ most) (h1 : c ≤ most → ok c m P c) (h2 : ok c m P (last c most)) {x : Int} (hx : 0 ≤ x) (hx' : x ≤ most) : ok c m P x := by
  unfold last at h2
  by_cases hb : most ≥ c - 1
  · rw [if_pos hb] at h2
    obtain ⟨Q, R, e1, r0, r1⟩ : ∃ Q R, most + 1 = c * Q + R ∧ 0 ≤ R ∧ R < c := ⟨(most + 1) / c, (most + 1) % c, (Int.mul_ediv_add_emod _ _).symm, Int.emod_nonneg _ (by omega), Int.emod_lt_of_pos _ hc⟩
    have eR : (most + 1) % c = R := by
      rw [e1, Int.mul_add_emod_self_left]
      exact Int.emod_eq_of_lt r0 r1
    have Q1 : 1 ≤ Q := by
      refine Int.le_of_lt_add_one ?_
      refine Int.lt_of_mul_lt_mul_left (a := c) ?_ (by omega)
      rw [Int.mul_add, Int.mul_one]
      omega
    have eL : most - (most + 1) % c = c * Q - 1 := by omega
    have dL : (c * Q - 1) / c = Q - 1 := (ediv_iff hc).mpr ⟨by rw [Int.mul_sub, Int.mul_one]; omega, by rw [Int.mul_sub, Int.mul_one]; omega⟩
    rw [eL] at h2
    unfold ok at h2
    rw [dL] at h2
    obtain ⟨a, r, e2, s0, s1⟩ : ∃ a r, x = c * a + r ∧ 0 ≤ r ∧ r < c := ⟨x / c, x % c, (Int.mul_ediv_add_emod _ _).symm, Int.emod_nonneg _ (by omega), Int.emod_lt_of_pos _ hc⟩
    have dx : x / c = a := (ediv_iff hc).mpr ⟨by omega, by omega⟩
    have a0 : 0 ≤ a := dx ▸ Int.ediv_nonneg hx (by omega)
    unfold ok
    rw [dx]
    have hcc : c / c = 1 := Int.ediv_self (by omega)
    have hk : c ≤ most → P ≤ c * m := fun h => by
      have h3 := (h1 h).1
      rw [hcc] at h3
      omega
    have aQ : a ≤ Q := by
      refine Int.le_of_lt_add_one ?_
      refine Int.lt_of_mul_lt_mul_left (a := c) ?_ (by omega)
      rw [Int.mul_add, Int.mul_one]
      omega
    constructor
    · by_cases ha : a = 0
      · subst ha
        rw [Int.mul_zero]
        exact Int.mul_nonneg hx hm
      · have h4 : c * 1 ≤ c * a := Int.mul_le_mul_of_nonneg_left (by omega) (by omega)
        have h5 := le_mul (hk (by omega)) a0
        have h6 : (c * a) * m ≤ x * m := le_mul (by omega) hm
        have h7 : c * m * a = c * a * m := by grind
        omega
    · have key : ∀ b : Int, 0 ≤ b → b ≤ Q → (b < Q → c ≤ most) → (c * Q - 1) * m - c * m * (Q - b) < P * b := by
        intro b b0 bQ hb2
        by_cases hbq : b < Q
        · have h5 := le_mul (hk (hb2 hbq)) (show 0 ≤ Q - b by omega)
          have h6 : P * (Q - b) = P * Q - P * b := by grind
          have h7 : P * (Q - 1) = P * Q - P := by grind
          omega
        · have : b = Q := by omega
          subst this
          have h6 : c * m * (b - b) = 0 := by grind
          have h7 : P * (b - 1) = P * b - P := by grind
          omega
      by_cases haQ : a < Q
      · have h4 := key (a + 1) (by omega) (by omega) fun h => by
          have h5 : c * 2 ≤ c * Q := Int.mul_le_mul_of_nonneg_left (by omega) (by omega)
          omega
        have h5 : x * m ≤ (c * (a + 1) - 1) * m := le_mul (by grind) hm
        have h6 : (c * Q - 1) * m - c * m * (Q - (a + 1)) = (c * (a + 1) - 1) * m := by grind
        have h7 : P * (a + 1) = P * a + P := by grind
        omega
      · have e3 : a = Q := by omega
        subst e3
        have h4 : r + 1 ≤ c - 1 := by omega
        have h5 : (r + 1) * m ≤ (c - 1) * m := le_mul h4 hm
        have h6 : a * (c - 1) ≤ c * a - 1 := by grind
        have h7 := le_mul h6 hm
        have h8 : P * (a - 1) = P * a - P := by grind
        have h9 : a * ((c - 1) * m) < a * P := by
          have : a * ((c - 1) * m) = a * (c - 1) * m := by grind
          have : a * P = P * a := by grind
          omega
        have h10 := Int.lt_of_mul_lt_mul_left h9 a0
        have h11 : x * m = (c * a - 1) * m + (r + 1) * m := by grind
        omega
  · rw [if_neg hb] at h2
    have d1 : most / c = 0 := Int.ediv_eq_zero_of_lt h0 (by omega)
    have d2 : x / c = 0 := Int.ediv_eq_zero_of_lt hx (by omega)
    unfold ok at h2 ⊢
    rw [d1] at h2
    rw [d2]
    have h3 := le_mul hx' hm
    have h4 := Int.mul_nonneg hx hm
    omega
theorem last_range {c most : Int} (hc : 0 < c) (h0 : 0 ≤ most) : 0 ≤ last c most ∧ last c most ≤ most := by
  unfold last
  have h2 := Int.emod_nonneg (most + 1) (show c ≠ 0 by omega)
  by_cases hb : most ≥ c - 1
  · rw [if_pos hb]
    have h3 : (most + 1) % c ≤ most := by
      by_cases h : most + 1 = c
      · rw [h, Int.emod_self]; omega
      · have := Int.emod_lt_of_pos (most + 1) hc
        omega
    omega
  · rw [if_neg hb]
    omega
/-- the least factor for a shift -/
def up (c P : Int) : Int := -(-P / c)
theorem up_spec {c P : Int} (hc : 0 < c) : P ≤ c * up c P ∧ c * up c P < P + c := by
  unfold up
  have h1 := Int.mul_ediv_add_emod (-P) c
  have h2 := Int.emod_nonneg (-P) (show c ≠ 0 by omega)
  have h3 := Int.emod_lt_of_pos (-P) hc
  have h4 : c * -(-P / c) = -(c * (-P / c)) := by grind
  omega
theorem up_unique {c P m : Int} (hc : 0 < c) (h1 : P ≤ c * m) (h2 : c * m < P + c) : m = up c P := by
  obtain ⟨h3, h4⟩ := up_spec (P := P) hc
  have h5 : c * m < c * (up c P + 1) := by rw [Int.mul_add, Int.mul_one]; omega
  have h6 : c * up c P < c * (m + 1) := by rw [Int.mul_add, Int.mul_one]; omega
  have h7 := Int.lt_of_mul_lt_mul_left h5 (by omega)
  have h8 := Int.lt_of_mul_lt_mul_left h6 (by omega)
  omega
theorem up_nonneg {c P : Int} (hc : 0 < c) (hP : 0 < P) : 0 < up c P := by
  obtain ⟨h3, h4⟩ := up_spec (P := P) hc
  exact Int.pos_of_mul_pos_right (by omega) hc
theorem up_le {c P : Int} (hc : 0 < c) (hP : 0 < P) : up c P ≤ P := by
  obtain ⟨h3, h4⟩ := up_spec (P := P) hc
  have h5 : c * up c P < c * (P + 1) := by
    have : c * (P + 1) = c * P + c := by grind
    have : 1 * P ≤ c * P := le_mul (by omega) (by omega)
    omega
  have := Int.lt_of_mul_lt_mul_left h5 (by omega)
  omega
def All (c most m P : Int) : Prop := ∀ x, 0 ≤ x → x ≤ most → ok c m P x
theorem low {c m P x : Int} (hc : 0 < c) (h : P ≤ c * m) (hx : 0 ≤ x) (hm : 0 ≤ m) : P * (x / c) ≤ x * m := by
  have h1 := Int.mul_ediv_add_emod x c
  have h2 := Int.emod_nonneg x (show c ≠ 0 by omega)
  have h3 : 0 ≤ x / c := Int.ediv_nonneg hx (by omega)
  have h4 := le_mul h h3
  have h5 : c * m * (x / c) = c * (x / c) * m := by grind
  have h6 : c * (x / c) * m ≤ x * m := le_mul (by omega) hm
  omega
/-- one shift more does, too -/
theorem next {c most P : Int} (hc : 0 < c) (hP : 0 < P) (h : All c most (up c P) P) : All c most (up c (2 * P)) (2 * P) := by
  intro x hx hx'
  have h1 := h x hx hx'
  obtain ⟨h3, h4⟩ := up_spec (P := P) hc
  obtain ⟨h5, h6⟩ := up_spec (P := 2 * P) hc
  have h0 := up_nonneg (c := c) (P := 2 * P) hc (by omega)
  refine ⟨low hc h5 hx (by omega), ?_⟩
  have h7 : up c (2 * P) ≤ 2 * up c P := by
    have : c * up c (2 * P) < c * (2 * up c P + 1) := by
      have : c * (2 * up c P + 1) = 2 * (c * up c P) + c := by grind
      omega
    have := Int.lt_of_mul_lt_mul_left this (by omega)
    omega
  have h8 : x * up c (2 * P) ≤ x * (2 * up c P) := Int.mul_le_mul_of_nonneg_left h7 hx
  have h9 : x * (2 * up c P) = 2 * (x * up c P) := by grind
  have h10 : 2 * P * (x / c) = 2 * (P * (x / c)) := by grind
  have := h1.2
  omega
/-- a shift that is great enough -/
theorem enough {c most P : Int} (hc : 0 < c) (hP : 0 < P) (h : c * most < P) : All c most (up c P) P := by
  intro x hx hx'
  obtain ⟨h3, h4⟩ := up_spec (P := P) hc
  have h0 := up_nonneg (c := c) (P := P) hc hP
  refine ⟨low hc h3 hx (by omega), ?_⟩
  have e1 := Int.mul_ediv_add_emod x c
  have e2 := Int.emod_lt_of_pos x hc
  refine Int.lt_of_mul_lt_mul_left (a := c) ?_ (by omega)
  have h5 : x * (c * up c P) ≤ x * (P + c - 1) := Int.mul_le_mul_of_nonneg_left (by omega) hx
  have h6 : c * (x * up c P) = x * (c * up c P) := by grind
  have h7 : x * (P + c - 1) = x * P + x * (c - 1) := by grind
  have h8 : x * (c - 1) ≤ most * (c - 1) := le_mul hx' (by omega)
  have h9 : most * (c - 1) = c * most - most := by grind
  have h10 : x * P ≤ (c * (x / c) + c - 1) * P := le_mul (by omega) (by omega)
  have h11 : c * (P * (x / c) + P) = (c * (x / c) + c - 1) * P + P := by grind
  omega
/-- what divides up to most ≥ c is one of the factors from the least on -/
theorem up_of {c most m P : Int} (hc : 0 < c) (hP : 0 < P) (hb : c ≤ most) (h : All c most m P) : P ≤ c * m := by
  have h1 := (h c (by omega) hb).1
  rw [Int.ediv_self (by omega)] at h1
  omega
end P85

end

section
set_option Elab.async false
set_option linter.all false
set_option autoImplicit false
set_option maxRecDepth 100000
set_option maxHeartbeats 0
namespace Law86
open Vp L2 PySem
abbrev cal (k f : Nat) (ds : List D) : Option D := callN prog.tab prog.gl 1000 k f ds
abbrev I (i : Int) : D := .int i
theorem raised2 {k : Nat} {s : Int} (h0 : 0 ≤ s) (h1 : s ≤ 400) : cal (k + 1) 9 [I 2, I s] = some (I (2 ^ s.toNat)) := by
  have e : (400 : Nat) < 2 ^ 999 := Nat.lt_trans (by decide : (400 : Nat) < 2 ^ 9) (Nat.pow_lt_pow_right (by omega) (by omega))
  exact Sh.raised (c := 2) (tab := prog.tab) rfl h0 (by decide) (by omega) (by omega) (by omega)
theorem pos2 (n : Nat) : (0 : Int) < 2 ^ n := Int.pow_pos (by decide)
theorem div2 {s : Int} (h1 : s ≤ 400) : divOk (2 ^ s.toNat) = true := by
  refine divOk_pow 401 (pos2 _) ?_ (by omega)
  rw [Int.natAbs_pow]
  exact Nat.pow_lt_pow_right (by decide) (by omega)
/-- x // c is what product and shift give -/
def dv (c m s x : Int) : Bool := decide (x / c = x * m / 2 ^ s.toNat)
theorem divides_at {k : Nat} {c m s x : Int} (hc : 0 < c) (hc' : c < 18446744073709551616) (hx : 0 ≤ x) (hx' : x < 18446744073709551616) (h0 : 0 ≤ s) (h1 : s ≤ 400) : cal (k + 2) 95 [I c, I m, I s, I x] = some (.bl (dv c m s x)) := by
  rw [cal, callN_eq (tab := prog.tab) (f := 95) rfl rfl]
  have d1 : divOk c = true := divOk_small hc (by omega)
  have m1 : mulOk x m = true := mulOk_l (by omega) (by omega)
  simp [b95, exs_cons, seqF_def, startE, d1, m1, raised2 h0 h1, div2 h1, dv]
theorem least_factor {k : Nat} {c s : Int} (hc : 0 < c) (hc' : c < 18446744073709551616) (h0 : 0 ≤ s) (h1 : s ≤ 400) : cal (k + 2) 98 [I c, I s] = some (I (-(-(2 ^ s.toNat) / c))) := by
  rw [cal, callN_eq (tab := prog.tab) (f := 98) rfl rfl]
  have d1 : divOk c = true := divOk_small hc (by omega)
  simp [b98, exs_cons, seqF_def, startE, d1, raised2 h0 h1]
/-- the greatest number up to most that is one less than a multiple of c -/
abbrev last (c most : Int) : Int := P85.last c most
def probes (c most : Int) : List Int := if c ≤ most then (if c = last c most then [c] else isort [c, last c most]) else [last c most]
theorem probes_for {k : Nat} {c most : Int} (hc : 0 < c) : cal (k + 1) 96 [I c, I most] = some (.lst ((probes c most).map .int)) := by
  rw [cal, callN_eq (tab := prog.tab) (f := 96) rfl rfl]
  have e1 : exs (callN prog.tab prog.gl 1000 k) prog.gl 1000 b96 (startE 3 [I c, I most]) = some (.rt (.lst ((probes c most).map .int))) := by
    refine exs_nx (E' := [.f (I c), .f (I most), .f (I (last c most))]) ?_ ?_
    · unfold last P85.last
      by_cases h : most ≥ c - 1
      · have h' : c - 1 ≤ most := h
        simp [startE, hc, h']
      · have h' : ¬ c - 1 ≤ most := h
        simp [startE, hc, h']
    · unfold probes
      generalize last c most = l
      refine exs_rt ?_
      by_cases h : c ≤ most
      · by_cases h2 : c = l
        · subst h2
          simp [h, dicD, evKs, evVs, pairsD, keyD, mergeD, putD, bfO, keysI, isort, ins]
        · have h3 : ¬ l = c := fun z => h2 z.symm
          simp [h, h2, dicD, evKs, evVs, pairsD, keyD, mergeD, putD, bfO, keysI]
      · simp [h]
  rw [e1]
  rfl
theorem divides {k : Nat} {c most m s : Int} (hc : 0 < c) (hc' : c < 18446744073709551616) (hp : ∀ x ∈ probes c most, 0 ≤ x ∧ x < 18446744073709551616) (hl : (probes c most).length ≤ 2) (h0 : 0 ≤ s) (h1 : s ≤ 400) :
    cal (k + 3) 97 [I c, I most, I m, I s] = some (.bl ((probes c most).all (dv c m s))) := by
  rw [cal, callN_eq (tab := prog.tab) (f := 97) rfl rfl]
  have e0 := probes_for (k := k + 1) (c := c) (most := most) hc
  have e1 : compL (.nm 4) (evC (callN prog.tab prog.gl 1000 (k + 2)) prog.gl .no) (ev (callN prog.tab prog.gl 1000 (k + 2)) prog.gl (.call 95 (.cons (.loc 0) (.cons (.loc 2) (.cons (.loc 3) (.cons (.loc 4) .nil)))))) [.f (I c), .f (I most), .f (I m), .f (I s), .u] ((probes c most).map .int) = some ((probes c most).map fun x => .bl (dv c m s x)) := by
    refine compL_mapM (fun _ => rfl) fun x hx => ⟨_, rfl, ?_⟩
    have e2 := divides_at (k := k) (m := m) hc hc' (hp x hx).1 (hp x hx).2 h0 h1
    simp [e2]
  have e3 : (fun x => D.bl (dv c m s x)) = D.bl ∘ dv c m s := rfl
  rw [e3, ← List.map_map] at e1
  have hl2 : (probes c most).length ≤ lineN := Nat.le_trans hl (by decide)
  have e4 : ev (callN prog.tab prog.gl 1000 (k + 2)) prog.gl (.call 96 (.cons (.loc 0) (.cons (.loc 1) .nil))) [.f (I c), .f (I most), .f (I m), .f (I s), .u] = some (.lst ((probes c most).map .int)) := by simp [e0]
  have e5 : evL (callN prog.tab prog.gl 1000 (k + 2)) prog.gl (.comp [4] (.nm 4) (.call 95 (.cons (.loc 0) (.cons (.loc 2) (.cons (.loc 3) (.cons (.loc 4) .nil))))) .no (.ex (.call 96 (.cons (.loc 0) (.cons (.loc 1) .nil))))) [.f (I c), .f (I most), .f (I m), .f (I s), .u] = some (((probes c most).map (dv c m s)).map .bl) := by
    rw [evL_comp, evI_ex, e4, Option.bind_some, items_lst, Option.bind_some, if_pos (by rw [List.length_map]; exact hl2)]
    exact e1
  have e6 : exs (callN prog.tab prog.gl 1000 (k + 2)) prog.gl 1000 b97 (startE 5 [I c, I most, I m, I s]) = some (.rt (.bl ((probes c most).all (dv c m s)))) := by
    refine exs_rt ?_
    rw [ex1_ret, frz_nil, ev_bf, evs_cons, ev_lis]
    erw [e5]
    rw [Option.map_some, Option.bind_some, evs_nil, Option.map_some, Option.bind_some, all_bls, Option.map_some, List.all_map]
    rfl
  rw [e6]
  rfl
def dvAll (c most m s : Int) : Bool := (probes c most).all (dv c m s)
theorem dv_iff {c m s x : Int} : dv c m s x = true ↔ P85.ok c m (2 ^ s.toNat) x := by
  unfold dv
  rw [decide_eq_true_iff]
  exact P85.ok_iff (pos2 _)
theorem probes_mem {c most x : Int} : x ∈ probes c most ↔ (c ≤ most ∧ x = c) ∨ x = last c most := by
  unfold probes
  by_cases h : c ≤ most
  · by_cases h2 : c = last c most
    · rw [if_pos h, if_pos h2]
      simp [h, ← h2]
    · rw [if_pos h, if_neg h2]
      simp only [isort, (ins_perm _ _).mem_iff, List.mem_cons, List.not_mem_nil, or_false, h, true_and]
  · rw [if_neg h]
    simp [h]
theorem probes_len (c most : Int) : (probes c most).length ≤ 2 := by
  unfold probes
  split
  · split
    · simp
    · simp only [isort, (ins_perm _ _).length_eq, List.length_cons, List.length_nil]
      omega
  · simp
theorem dvAll_iff {c most m s : Int} (hc : 0 < c) (h0 : 0 ≤ most) (hm : 0 ≤ m) : dvAll c most m s = true ↔ P85.All c most m (2 ^ s.toNat) := by
  unfold dvAll
  rw [List.all_eq_true]
  constructor
  · intro h x hx hx'
    exact P85.all_of hc hm (pos2 _) h0 (fun hb => dv_iff.mp (h c (probes_mem.mpr (.inl ⟨hb, rfl⟩)))) (dv_iff.mp (h _ (probes_mem.mpr (.inr rfl)))) hx hx'
  · intro h x hx
    have hl := P85.last_range hc h0
    rcases probes_mem.mp hx with ⟨h1, rfl⟩ | rfl
    · exact dv_iff.mpr (h _ (by omega) h1)
    · exact dv_iff.mpr (h _ hl.1 hl.2)
structure Rg (c most : Int) : Prop where
  c0 : 0 < c
  c1 : c ≤ 1099511627775
  m0 : 0 ≤ most
  m1 : most ≤ 9223372036854775808
theorem Rg.probes {c most : Int} (r : Rg c most) : ∀ x ∈ probes c most, 0 ≤ x ∧ x < 18446744073709551616 := by
  intro x hx
  obtain ⟨a, b, e, f⟩ := r
  have hl := P85.last_range a e
  rcases probes_mem.mp hx with ⟨h1, rfl⟩ | rfl
  · omega
  · exact ⟨hl.1, by have := hl.2; show P85.last c most < _; omega⟩
theorem divides' {k : Nat} {c most m s : Int} (r : Rg c most) (h0 : 0 ≤ s) (h1 : s ≤ 400) : cal (k + 3) 97 [I c, I most, I m, I s] = some (.bl (dvAll c most m s)) :=
  divides r.c0 (by have := r.c1; omega) r.probes (probes_len _ _) h0 h1
/-- the least shift -/
structure IsL (c most : Int) (S : Nat) : Prop where
  le : S ≤ 103
  ok : P85.All c most (P85.up c (2 ^ S)) (2 ^ S)
  min : ∀ t < S, ¬ P85.All c most (P85.up c (2 ^ t)) (2 ^ t)
theorem exL {c most : Int} (r : Rg c most) : ∃ S, IsL c most S := by
  have h103 : P85.All c most (P85.up c (2 ^ 103)) (2 ^ 103) := by
    refine P85.enough r.c0 (pos2 _) ?_
    have : c * most ≤ 1099511627775 * 9223372036854775808 := by
      have h1 : c * most ≤ 1099511627775 * most := Int.mul_le_mul_of_nonneg_right r.c1 r.m0
      have := r.m1
      omega
    have e : (2 : Int) ^ 103 = 10141204801825835211973625643008 := by decide +kernel
    omega
  have gen : ∀ n : Nat, n ≤ 103 → P85.All c most (P85.up c (2 ^ n)) (2 ^ n) → ∃ S, IsL c most S := by
    intro n
    induction n using Nat.strongRecOn with
    | ind n ih =>
      intro hn h
      by_cases hh : ∃ t, t < n ∧ P85.All c most (P85.up c (2 ^ t)) (2 ^ t)
      · obtain ⟨t, h1, h2⟩ := hh
        exact ih t h1 (by omega) h2
      · exact ⟨n, hn, h, fun t ht z => hh ⟨t, ht, z⟩⟩
  exact gen 103 (by omega) h103
theorem IsL.mono {c most : Int} {S : Nat} (r : Rg c most) (h : IsL c most S) : ∀ t, S ≤ t → P85.All c most (P85.up c (2 ^ t)) (2 ^ t) := by
  intro t ht
  induction t with
  | zero =>
    have : S = 0 := by omega
    subst this
    exact h.ok
  | succ t ih =>
    by_cases e : S = t + 1
    · subst e
      exact h.ok
    · have := P85.next r.c0 (pos2 t) (ih (by omega))
      rw [Int.pow_succ, Int.mul_comm]
      exact this
def lp (c most : Int) (S : Nat) : Int × Int := if most < c then (0, 0) else (P85.up c (2 ^ S), S)
theorem least_pair {k : Nat} {c most : Int} {S : Nat} (r : Rg c most) (h : IsL c most S) : cal (k + 4) 99 [I c, I most] = some (.tup [I (lp c most S).1, I (lp c most S).2]) := by
  rw [cal, callN_eq (tab := prog.tab) (f := 99) rfl rfl]
  have e1 : exs (callN prog.tab prog.gl 1000 (k + 3)) prog.gl 1000 b99 (startE 3 [I c, I most]) = some (.rt (.tup [I (lp c most S).1, I (lp c most S).2])) := by
    by_cases hb : most < c
    · refine exs_rt ?_
      simp [exs_cons, seqF_def, startE, hb, lp]
    · refine exs_nx (E' := [.f (I c), .f (I most), .u]) (by simp [startE, hb]) ?_
      refine exs_nx (E' := [.f (I c), .f (I most), .f (I 0)]) (by simp) ?_
      have ht : ∀ s : Nat, s ≤ S → tev (callN prog.tab prog.gl 1000 (k + 3)) prog.gl (.nott (.call 97 (.cons (.loc 0) (.cons (.loc 1) (.cons (.call 98 (.cons (.loc 0) (.cons (.loc 2) .nil))) (.cons (.loc 2) .nil)))))) [.f (I c), .f (I most), .f (I s)] = some (!dvAll c most (P85.up c (2 ^ s)) s) := by
        intro s hs
        have a1 := least_factor (k := k + 1) (c := c) (s := (s : Int)) r.c0 (by have := r.c1; omega) (by omega) (by have := h.le; omega)
        have a2 := divides' (k := k) (m := P85.up c (2 ^ s)) (s := (s : Int)) r (by omega) (by have := h.le; omega)
        have a3 : -(-(2 ^ (s : Int).toNat) / c) = P85.up c (2 ^ s) := rfl
        rw [a3] at a1
        simp [a1, a2]
      obtain ⟨E', m', w1, ⟨s, w2, rfl, w3⟩, w4⟩ := whileF_inv (c := tev (callN prog.tab prog.gl 1000 (k + 3)) prog.gl (.nott (.call 97 (.cons (.loc 0) (.cons (.loc 1) (.cons (.call 98 (.cons (.loc 0) (.cons (.loc 2) .nil))) (.cons (.loc 2) .nil)))))))
        (b := exs (callN prog.tab prog.gl 1000 (k + 3)) prog.gl 1000 (.cons [] (.aug 2 .add (.int 1)) .nil)) (fun m E => ∃ s : Nat, s ≤ S ∧ E = [.f (I c), .f (I most), .f (I s)] ∧ m = S - s) (by
          rintro m E ⟨s, h1, rfl, h3⟩
          rw [ht s h1]
          by_cases hd : dvAll c most (P85.up c (2 ^ s)) s = true
          · left
            rw [hd]
            rfl
          · right
            have hs : s ≠ S := by
              rintro rfl
              exact hd ((dvAll_iff r.c0 r.m0 (Int.le_of_lt (P85.up_nonneg r.c0 (pos2 _)))).mpr h.ok)
            refine ⟨[.f (I c), .f (I most), .f (I (s + 1 : Nat))], S - (s + 1), by simpa using hd, ?_, by omega, s + 1, by omega, rfl, rfl⟩
            simp [exs_cons, seqF_def]) 1000 S [.f (I c), .f (I most), .f (I 0)] (by have := h.le; omega) ⟨0, by omega, rfl, rfl⟩
      rw [ht s w2] at w4
      have hs : s = S := by
        have hd : dvAll c most (P85.up c (2 ^ s)) s = true := by simpa using w4
        have := (dvAll_iff r.c0 r.m0 (Int.le_of_lt (P85.up_nonneg r.c0 (pos2 _)))).mp hd
        by_cases z : s < S
        · exact absurd this (h.min s z)
        · omega
      subst hs
      refine exs_nx (E' := [.f (I c), .f (I most), .f (I s)]) (by rw [frz_nil, ex1_whl]; exact w1) ?_
      refine exs_rt ?_
      have a1 := least_factor (k := k + 1) (c := c) (s := (s : Int)) r.c0 (by have := r.c1; omega) (by omega) (by have := h.le; omega)
      have a3 : -(-(2 ^ (s : Int).toNat) / c) = P85.up c (2 ^ s) := rfl
      rw [a3] at a1
      simp [a1, lp, hb]
  rw [e1]
  rfl
end Law86

end

section
set_option Elab.async false
set_option linter.all false
set_option autoImplicit false
set_option maxRecDepth 100000
set_option maxHeartbeats 0
namespace Law86
open Vp L2 PySem
theorem lp_iff {c most m : Int} {S s : Nat} (r : Rg c most) (h : IsL c most S) (hm : 0 ≤ m) :
    (m = (lp c most S).1 ∧ (s : Int) = (lp c most S).2) ↔ if most < c then m = 0 ∧ s = 0 else (P85.All c most m (2 ^ s) ∧ c * (m - 1) < 2 ^ s) ∧ (s = 0 ∨ ¬ P85.All c most (P85.up c (2 ^ (s - 1))) (2 ^ (s - 1))) := by
  unfold lp
  by_cases hb : most < c
  · rw [if_pos hb, if_pos hb]
    simp
  · rw [if_neg hb, if_neg hb]
    constructor
    · rintro ⟨rfl, e⟩
      have e' : s = S := Int.ofNat_inj.mp e
      subst e'
      have u := P85.up_spec (c := c) (P := 2 ^ s) r.c0
      refine ⟨⟨h.ok, ?_⟩, ?_⟩
      · show c * (P85.up c (2 ^ s) - 1) < 2 ^ s
        rw [Int.mul_sub, Int.mul_one]
        omega
      · by_cases z : s = 0
        · exact .inl z
        · exact .inr (h.min (s - 1) (by omega))
    · rintro ⟨⟨h1, h2⟩, h3⟩
      have h4 := P85.up_of r.c0 (pos2 s) (by omega) h1
      have h5 : m = P85.up c (2 ^ s) := P85.up_unique r.c0 h4 (by rw [Int.mul_sub, Int.mul_one] at h2; omega)
      subst h5
      have h6 : s = S := by
        by_cases z : s < S
        · exact absurd h1 (h.min s z)
        · rcases h3 with h3 | h3
          · omega
          · by_cases z2 : s = S
            · exact z2
            · exact absurd (h.mono r (s - 1) (by omega)) h3
      subst h6
      exact ⟨rfl, rfl⟩
open scoped Classical in
theorem judge_pair {k : Nat} {c most m : Int} {S s : Nat} (r : Rg c most) (h : IsL c most S) (hm : 0 ≤ m) (hs : s ≤ 390) :
    cal (k + 4) 100 [I c, I most, I m, I s] = some (.bl (decide (m = (lp c most S).1 ∧ (s : Int) = (lp c most S).2))) := by
  rw [cal, callN_eq (tab := prog.tab) (f := 100) rfl rfl, decide_eq_decide.mpr (lp_iff (s := s) r h hm)]
  have e1 : exs (callN prog.tab prog.gl 1000 (k + 3)) prog.gl 1000 b100 (startE 4 [I c, I most, I m, I s]) = some (.rt (.bl (decide (if most < c then m = 0 ∧ s = 0 else (P85.All c most m (2 ^ s) ∧ c * (m - 1) < 2 ^ s) ∧ (s = 0 ∨ ¬ P85.All c most (P85.up c (2 ^ (s - 1))) (2 ^ (s - 1))))))) := by
    by_cases hb : most < c
    · refine exs_rt ?_
      by_cases h1 : m = 0
      · by_cases h2 : s = 0 <;> simp [exs_cons, seqF_def, startE, hb, h1, h2]
      · simp [exs_cons, seqF_def, startE, hb, h1]
    · refine exs_nx (E' := [.f (I c), .f (I most), .f (I m), .f (I s)]) (by simp [startE, hb]) ?_
      simp only [if_neg hb]
      have a2 := divides' (k := k) (m := m) (s := (s : Int)) r (by omega) (by omega)
      have i2 := dvAll_iff (s := (s : Int)) r.c0 r.m0 hm
      rw [Int.toNat_natCast] at i2
      have a4 := raised2 (k := k + 2) (s := (s : Int)) (by omega) (by omega)
      have mo : mulOk c (m - 1) = true := mulOk_l (by have := r.c0; omega) (by have := r.c1; omega)
      by_cases hd : dvAll c most m s = true
      · have hA := i2.mp hd
        by_cases hp : c * (m - 1) < 2 ^ s
        · refine exs_nx (E' := [.f (I c), .f (I most), .f (I m), .f (I s)]) ?_ (exs_rt ?_)
          · have hp' : ¬ (2 : Int) ^ s ≤ c * (m - 1) := by omega
            simp [a2, a4, hd, mo, hp']
          · by_cases hz : s = 0
            · subst hz
              have : (P85.All c most m (2 ^ 0) ∧ c * (m - 1) < 2 ^ 0) := ⟨hA, hp⟩
              simp only [true_or, and_true, this]
              simp
            · have e3 : ((s : Int) - 1) = ((s - 1 : Nat) : Int) := by omega
              have a5 := least_factor (k := k + 1) (c := c) (s := ((s - 1 : Nat) : Int)) r.c0 (by have := r.c1; omega) (by omega) (by omega)
              have a6 : -(-(2 ^ ((s - 1 : Nat) : Int).toNat) / c) = P85.up c (2 ^ (s - 1)) := rfl
              rw [a6] at a5
              have a7 := divides' (k := k) (m := P85.up c (2 ^ (s - 1))) (s := ((s - 1 : Nat) : Int)) r (by omega) (by omega)
              have i7 := dvAll_iff (m := P85.up c (2 ^ (s - 1))) (s := ((s - 1 : Nat) : Int)) r.c0 r.m0 (Int.le_of_lt (P85.up_nonneg r.c0 (pos2 _)))
              rw [Int.toNat_natCast] at i7
              have this : (P85.All c most m (2 ^ s) ∧ c * (m - 1) < 2 ^ s) ∧ (s = 0 ∨ ¬ P85.All c most (P85.up c (2 ^ (s - 1))) (2 ^ (s - 1))) ↔ ¬ dvAll c most (P85.up c (2 ^ (s - 1))) ((s - 1 : Nat) : Int) = true := by
                rw [i7]
                exact ⟨fun z => z.2.resolve_left hz, fun z => ⟨⟨hA, hp⟩, .inr z⟩⟩
              have hz' : ¬ (s : Int) = 0 := by omega
              by_cases z : dvAll c most (P85.up c (2 ^ (s - 1))) ((s - 1 : Nat) : Int) = true
              · rw [decide_eq_false (fun y => this.mp y z)]
                simp [hz, e3, a5, a7, z]
              · rw [decide_eq_true (this.mpr z)]
                simp [hz, e3, a5, a7, z]
        · refine exs_rt ?_
          have hp' : (2 : Int) ^ s ≤ c * (m - 1) := by omega
          rw [decide_eq_false (fun z => hp z.1.2)]
          simp [exs_cons, seqF_def, a2, a4, hd, mo, hp']
      · refine exs_rt ?_
        rw [decide_eq_false (fun z => hd (i2.mpr z.1.1))]
        simp [exs_cons, seqF_def, a2, hd]
  rw [e1]
  rfl
theorem log2_pow {c : Nat} (h : 0 < c) : 2 ^ c.log2 ≤ c ∧ c < 2 ^ (c.log2 + 1) := ⟨Nat.log2_self_le (by omega), Nat.lt_log2_self⟩
theorem power_in {k : Nat} {c : Int} (hc : 1 ≤ c) (hc' : c ≤ 1099511627775) : cal (k + 2) 101 [I c] = some (if (2 : Int) ^ c.toNat.log2 = c then I (c.toNat.log2 : Nat) else .non) := by
  rw [cal, callN_eq (tab := prog.tab) (f := 101) rfl rfl]
  have b1 : Builtin.Int.intBits c = c.toNat.log2 + 1 := by
    unfold Builtin.Int.intBits
    rw [if_neg (by simp; omega)]
    congr 1
    congr 1
    omega
  have l1 : c.toNat.log2 ≤ 40 := by
    have := (Nat.log2_lt (n := c.toNat) (k := 40) (by omega)).mpr (by have : (2 : Nat) ^ 40 = 1099511627776 := rfl; omega)
    omega
  have a1 := raised2 (k := k) (s := ((c.toNat.log2 : Nat) : Int)) (by omega) (by omega)
  rw [Int.toNat_natCast] at a1
  generalize c.toNat.log2 = n at *
  have e1 : exs (callN prog.tab prog.gl 1000 (k + 1)) prog.gl 1000 b101 (startE 2 [I c]) = some (.rt (if (2 : Int) ^ n = c then I (n : Nat) else .non)) := by
    refine exs_nx (E' := [.f (I c), .f (I (n : Nat))]) ?_ (exs_rt ?_)
    · simp [startE, bitsD, b1]
    · by_cases h : (2 : Int) ^ n = c
      · simp [a1, h]
      · simp [a1, h]
  rw [e1]
  rfl
/-- what way_of tells -/
def way (c most width : Int) (S : Nat) : D :=
  if c = 1 then .tup [.str ("copy" : String)] else if (2 : Int) ^ c.toNat.log2 = c then .tup [.str ("right" : String), I (c.toNat.log2 : Nat)]
  else if most * (lp c most S).1 < 2 ^ width.toNat then .tup [.str ("mul" : String), I (lp c most S).1, I (lp c most S).2] else .non
theorem lp_range {c most : Int} {S : Nat} (r : Rg c most) (h : IsL c most S) : 0 ≤ (lp c most S).1 ∧ (lp c most S).1 ≤ 2 ^ S ∧ 0 ≤ (lp c most S).2 ∧ (lp c most S).2 ≤ 103 ∧ (lp c most S).1 ≤ 2 ^ (lp c most S).2.toNat := by
  unfold lp
  split
  · exact ⟨by omega, Int.le_of_lt (pos2 _), by simp, by simp, by simp⟩
  · have h1 := P85.up_nonneg (P := 2 ^ S) r.c0 (pos2 _)
    have h2 := P85.up_le (P := 2 ^ S) r.c0 (pos2 _)
    have := h.le
    exact ⟨by simp only; omega, h2, by simp only; omega, by simp only; omega, by simpa using h2⟩
theorem way_of {k : Nat} {c most width : Int} {S : Nat} (r : Rg c most) (h : IsL c most S) (w0 : 0 ≤ width) (w1 : width ≤ 390) :
    cal (k + 5) 102 [I c, I most, I width] = some (way c most width S) := by
  rw [cal, callN_eq (tab := prog.tab) (f := 102) rfl rfl]
  have a1 := power_in (k := k + 2) (c := c) (by have := r.c0; omega) r.c1
  have a2 := least_pair (k := k) r h
  have a3 := raised2 (k := k + 3) (s := width) w0 (by omega)
  obtain ⟨l1, l2, l3, l4, l5⟩ := lp_range r h
  have e1 : exs (callN prog.tab prog.gl 1000 (k + 4)) prog.gl 1000 b102 (startE 5 [I c, I most, I width]) = some (.rt (way c most width S)) := by
    unfold way
    by_cases h1 : c = 1
    · rw [if_pos h1]
      refine exs_rt ?_
      simp [exs_cons, seqF_def, startE, h1]
    · rw [if_neg h1]
      refine exs_nx (E' := [.f (I c), .f (I most), .f (I width), .u, .u]) (by simp [startE, h1]) ?_
      generalize c.toNat.log2 = n at *
      by_cases h2 : (2 : Int) ^ n = c
      · rw [if_pos h2] at a1
        rw [if_pos h2]
        refine exs_rt ?_
        simp [exs_cons, seqF_def, a1]
      · rw [if_neg h2] at a1
        rw [if_neg h2]
        refine exs_nx (E' := [.f (I c), .f (I most), .f (I width), .u, .u]) (by simp [a1]) ?_
        generalize (lp c most S).1 = m at *
        generalize (lp c most S).2 = s at *
        refine exs_nx (E' := [.f (I c), .f (I most), .f (I width), .f (I m), .f (I s)]) (by simp [a2]) (exs_rt ?_)
        have mo : mulOk most m = true := mulOk_l (by have := r.m0; omega) (by have := r.m1; omega)
        have g : prog.gl 103 = some (.int 256) := rfl
        have s256 : s ≤ 256 := by omega
        by_cases h3 : most * m < 2 ^ width.toNat
        · simp [mo, a3, h3, g, s256]
        · simp [mo, a3, h3, g, s256]
  rw [e1]
  rfl
end Law86

end

section
set_option Elab.async false
set_option linter.all false
set_option autoImplicit false
set_option maxRecDepth 100000
set_option maxHeartbeats 0
namespace Law86
open Vp L2 PySem
theorem rangeD {d : D} {n i : Nat} {f : Nat → D} (hd : ((List.range n).map f)[i]? = some d) : i < n ∧ d = f i := by
  have hi : i < n := by simpa using (List.getElem?_eq_some_iff.mp hd).1
  rw [List.getElem?_map, List.getElem?_range hi] at hd
  exact ⟨hi, (Option.some.inj hd).symm⟩
theorem power {k : Nat} {b n : Int} (hb : -18446744073709551616 < b) (hb' : b < 18446744073709551616) (h0 : 0 ≤ n) (h1 : n < 1000000) : cal (k + 1) 104 [I b, I n] = some (I (b ^ n.toNat)) := by
  rw [cal, callN_eq (tab := prog.tab) (f := 104) rfl rfl]
  have sm : small62 n = true := small62_of (by omega) (by omega)
  obtain ⟨E', e1, c, rfl⟩ := forF_inv (t := .nm 3) (b := exs (callN prog.tab prog.gl 1000 k) prog.gl 1000 (.cons [] (.asg (.nm 2) (.bin .mul (.loc 2) (.loc 0))) .nil)) ((List.range n.toNat).map fun i => .int (0 + (i : Nat)))
    (fun i E => ∃ c, E = [.f (I b), .f (I n), .f (I (b ^ i)), c]) [.f (I b), .f (I n), .f (I 1), .u] ⟨_, by rw [Int.pow_zero]⟩ (by
      rintro i d E hd ⟨c, rfl⟩
      have mo : mulOk (b ^ i) b = true := mulOk_r hb hb'
      refine ⟨_, [.f (I b), .f (I n), .f (I (b ^ (i + 1))), .f d], rfl, .inl ?_, _, rfl⟩
      rw [Int.pow_succ]
      simp [exs_cons, seqF_def, mo])
  have e2 : exs (callN prog.tab prog.gl 1000 k) prog.gl 1000 b104 (startE 4 [I b, I n]) = some (.rt (I (b ^ n.toNat))) := by
    refine exs_nx (E' := [.f (I b), .f (I n), .f (I 1), .u]) (by simp [startE]) ?_
    refine exs_nx (E' := [.f (I b), .f (I n), .f (I (b ^ n.toNat)), c]) ?_ (exs_rt ?_)
    · rw [frz_nil, ex1_for]
      have e3 : evI (callN prog.tab prog.gl 1000 k) prog.gl (.fn .rng1 (.cons (.loc 1) .nil)) [.f (I b), .f (I n), .f (I 1), .u] = some ((List.range n.toNat).map fun i => .int (0 + (i : Nat))) := by simp [sm]
      rw [e3, Option.bind_some]
      rw [List.length_map, List.length_range] at e1
      exact e1
    · simp
  rw [e2]
  rfl

structure Calls (cf : Nat → List D → Option D) : Prop where
  pow : ∀ s : Nat, s ≤ 390 → cf 104 [I 2, I s] = some (I (2 ^ s))
  ten : ∀ s : Int, 0 ≤ s → s ≤ 40 → cf 104 [I 10, I s] = some (I (10 ^ s.toNat))
  same : ∀ d : D, Sh.good 3 d = true → cf 85 [d, d] = some (.bl true)
  divides : ∀ (c most m : Int) (s : Nat), Rg c most → 0 ≤ m → s ≤ 390 → cf 97 [I c, I most, I m, I s] = some (.bl (dvAll c most m s))
  judge : ∀ (c most : Int) (S : Nat) (m : Int) (s : Nat), Rg c most → IsL c most S → 0 ≤ m → s ≤ 390 → cf 100 [I c, I most, I m, I s] = some (.bl (decide (m = (lp c most S).1 ∧ (s : Int) = (lp c most S).2)))
  lpair : ∀ (c most : Int) (S : Nat), Rg c most → IsL c most S → cf 99 [I c, I most] = some (.tup [I (lp c most S).1, I (lp c most S).2])
  wayof : ∀ (c most : Int) (S : Nat) (w : Int), Rg c most → IsL c most S → 0 ≤ w → w ≤ 390 → cf 102 [I c, I most, I w] = some (way c most w S)
  pfor : ∀ (c most : Int), Rg c most → cf 96 [I c, I most] = some (.lst ((probes c most).map .int))
theorem calls {k : Nat} : Calls (callN prog.tab prog.gl 1000 (k + 5)) := by
  refine ⟨fun s hs => ?_, fun s h0 h1 => power (k := k + 4) (b := 10) (n := s) (by omega) (by omega) h0 (by omega), fun d hd => Sh.same (tab := prog.tab) rfl 3 _ d hd (by omega), fun c most m s r hm hs => divides' (k := k + 2) r (by omega) (by omega), fun c most S m s r h hm hs => judge_pair (k := k + 1) r h hm hs,
    fun c most S r h => least_pair (k := k + 1) r h, fun c most S w r h h0 h1 => way_of (k := k) r h h0 h1, fun c most r => probes_for (k := k + 4) r.c0⟩
  have := power (k := k + 4) (b := 2) (n := (s : Int)) (by omega) (by omega) (by omega) (by omega)
  rw [Int.toNat_natCast] at this
  exact this
section
variable {cf : Nat → List D → Option D}
theorem drawn {ns : List Int} {n : Nat} {lim : Int} (hl : ns.length = n) (hr : ∀ n ∈ ns, 0 ≤ n ∧ n < lim) {j : Int} (h0 : 0 ≤ j) (h1 : j < n) : ∃ q, atI (ns.map D.int) j = some (I q) ∧ 0 ≤ q ∧ q < lim := by
  have hj : j.toNat < ns.length := by omega
  exact ⟨ns[j.toNat], atI_ints h0 hj, hr _ (List.getElem_mem hj)⟩
theorem atI4 {a b c d : Int} {j : Int} (h0 : 0 ≤ j) (h3 : j < 4) (P : Int → Prop) (ha : P a) (hb : P b) (hc : P c) (hd : P d) : ∃ x, P x ∧ atI [I a, I b, I c, I d] j = some (I x) := by
  have : j = 0 ∨ j = 1 ∨ j = 2 ∨ j = 3 := by omega
  rcases this with rfl | rfl | rfl | rfl
  · exact ⟨a, ha, rfl⟩
  · exact ⟨b, hb, rfl⟩
  · exact ⟨c, hc, rfl⟩
  · exact ⟨d, hd, rfl⟩
abbrev EE (sc dr so c most tr k x pr be wi m s dn one oth wy : Cell) : Env' := [sc, dr, so, c, most, tr, k, x, pr, be, wi, m, s, dn, one, oth, wy]
/-- the numbers that are tried -/
theorem tried_loop {ns ms ts : List Int} (hn : ns.length = 40) (hnr : ∀ n ∈ ns, 0 ≤ n ∧ n < 5040) (hm : ms.length = 12) (hmr : ∀ n ∈ ms, 0 ≤ n ∧ n < 1000003) (ht : ts.length ≤ 9) {sc c4 c6 c7 c8 c9 c10 c11 c12 c13 c14 c15 c16 : Cell} {c : Int} (c0 : 0 < c) (c1 : c ≤ 1099511627775) :
    ∃ (us : List Int) (k : Cell), us.length < 1000 ∧ forF (.nm 6) (exs cf prog.gl 1000 b109_1) ((List.range 20).map fun i => .int (0 + (i : Nat))) (EE sc (.f (.lst (ns.map .int))) (.f (.lst (ms.map .int))) (.f (I c)) c4 (.o (ts.map .int)) c6 c7 c8 c9 c10 c11 c12 c13 c14 c15 c16)
      = some (.nx (EE sc (.f (.lst (ns.map .int))) (.f (.lst (ms.map .int))) (.f (I c)) c4 (.o (us.map .int)) k c7 c8 c9 c10 c11 c12 c13 c14 c15 c16)) := by
  obtain ⟨E', e1, us, k, hus, rfl⟩ := forF_inv (t := .nm 6) (b := exs cf prog.gl 1000 b109_1) ((List.range 20).map fun i => .int (0 + (i : Nat)))
    (fun i E => ∃ (us : List Int) (k : Cell), us.length ≤ 9 + 2 * i ∧ E = EE sc (.f (.lst (ns.map .int))) (.f (.lst (ms.map .int))) (.f (I c)) c4 (.o (us.map .int)) k c7 c8 c9 c10 c11 c12 c13 c14 c15 c16)
    (EE sc (.f (.lst (ns.map .int))) (.f (.lst (ms.map .int))) (.f (I c)) c4 (.o (ts.map .int)) c6 c7 c8 c9 c10 c11 c12 c13 c14 c15 c16) ⟨ts, c6, by omega, rfl⟩ (by
      rintro i d E hd ⟨us, k, hu, rfl⟩
      obtain ⟨hi, rfl⟩ := rangeD hd
      obtain ⟨q1, d1, q10, q11⟩ := drawn hm hmr (j := 7 + (0 + (i : Int)) % 5) (by omega) (by omega)
      obtain ⟨q2, d2, q20, q21⟩ := drawn hn hnr (j := 6 + (0 + (i : Int))) (by omega) (by omega)
      obtain ⟨q3, d3, q30, q31⟩ := drawn hn hnr (j := 7 + (0 + (i : Int))) (by omega) (by omega)
      obtain ⟨q4, d4, q40, q41⟩ := drawn hn hnr (j := 8 + (0 + (i : Int))) (by omega) (by omega)
      obtain ⟨q5, d5, q50, q51⟩ := drawn hm hmr (j := (0 + (i : Int)) % 7) (by omega) (by omega)
      have m1 : mulOk q1 q2 = true := mulOk_r (by omega) (by omega)
      have m2 : mulOk (q1 * q2) q3 = true := mulOk_r (by omega) (by omega)
      have m3 : mulOk q5 q2 = true := mulOk_r (by omega) (by omega)
      have m4 : mulOk c (q5 * q2) = true := mulOk_l (by omega) (by omega)
      rw [Int.zero_add] at d1 d2 d3 d4 d5
      refine ⟨EE sc (.f (.lst (ns.map .int))) (.f (.lst (ms.map .int))) (.f (I c)) c4 (.o (us.map .int)) (.f (I (i : Nat))) c7 c8 c9 c10 c11 c12 c13 c14 c15 c16, EE sc (.f (.lst (ns.map .int))) (.f (.lst (ms.map .int))) (.f (I c)) c4 (.o ((us ++ [q1 * q2 * q3 + q4, c * (q5 * q2) - 1]).map .int)) (.f (I (i : Nat))) c7 c8 c9 c10 c11 c12 c13 c14 c15 c16, by rw [Int.zero_add]; rfl, .inl ?_, _, _, ?_, rfl⟩
      · refine exs_nx (E' := EE sc (.f (.lst (ns.map .int))) (.f (.lst (ms.map .int))) (.f (I c)) c4 (.o ((us ++ [q1 * q2 * q3 + q4]).map .int)) (.f (I (i : Nat))) c7 c8 c9 c10 c11 c12 c13 c14 c15 c16) ?_ ?_
        · rw [frz_nil, ex1_app, appF_ok (ds := us.map .int) (d := I (q1 * q2 * q3 + q4)) rfl (by simp [EE, d1, d2, d3, d4, m1, m2]) (by rw [List.length_map, lineN_eq]; omega), List.map_append]
          rfl
        · refine exs_nx (E' := EE sc (.f (.lst (ns.map .int))) (.f (.lst (ms.map .int))) (.f (I c)) c4 (.o ((us ++ [q1 * q2 * q3 + q4, c * (q5 * q2) - 1]).map .int)) (.f (I (i : Nat))) c7 c8 c9 c10 c11 c12 c13 c14 c15 c16) ?_ rfl
          rw [frz_nil, ex1_app, appF_ok (ds := (us ++ [q1 * q2 * q3 + q4]).map .int) (d := I (c * (q5 * q2) - 1)) rfl (by simp [EE, d5, d2, m3, m4]) (by rw [List.length_map, lineN_eq, List.length_append]; simp; omega)]
          simp [EE]
      · simp
        omega)
  refine ⟨us, k, ?_, e1⟩
  rw [List.length_map, List.length_range] at hus
  omega
theorem x_step (C : Calls cf) {c most m : Int} {s : Nat} (r : Rg c most) (hA : P85.All c most m (2 ^ s)) (hs : s ≤ 390) {sc dr so tr k pr be wi dn one oth wy : Cell} {x : Int} :
    exs cf prog.gl 1000 b109_2 (EE sc dr so (.f (I c)) (.f (I most)) tr k (.f (I x)) pr be wi (.f (I m)) (.f (I s)) dn one oth wy) = some (.nx (EE sc dr so (.f (I c)) (.f (I most)) tr k (.f (I (x % (most + 1)))) pr be wi (.f (I m)) (.f (I s)) dn one oth wy)) := by
  obtain ⟨c0, c1, m0, m1⟩ := r
  have hx0 : 0 ≤ x % (most + 1) := Int.emod_nonneg _ (by omega)
  have hx1 : x % (most + 1) < most + 1 := Int.emod_lt_of_pos _ (by omega)
  have h1 := (P85.ok_iff (pos2 s)).mpr (hA _ hx0 (by omega))
  have pm : 0 < most + 1 := by omega
  have p1 := C.pow s hs
  have d1 : divOk c = true := divOk_small c0 (by omega)
  have d2 := div2 (s := (s : Int)) (by omega)
  rw [Int.toNat_natCast] at d2
  refine exs_nx (E' := EE sc dr so (.f (I c)) (.f (I most)) tr k (.f (I (x % (most + 1)))) pr be wi (.f (I m)) (.f (I s)) dn one oth wy) (by simp [EE, pm]) ?_
  generalize x % (most + 1) = y at *
  have mo : mulOk y m = true := mulOk_l (by omega) (by omega)
  refine exs_nx (E' := EE sc dr so (.f (I c)) (.f (I most)) tr k (.f (I y)) pr be wi (.f (I m)) (.f (I s)) dn one oth wy) ?_ rfl
  simp [EE, d1, d2, mo, p1, h1]
/-- a bent pair -/
theorem bent_step (C : Calls cf) {c most : Int} {S : Nat} (r : Rg c most) (h : IsL c most S) {sc dr so tr k x pr be wi dn wy : Cell} {one : Int} {oth : Nat} (hs : oth ≤ 390) :
    exs cf prog.gl 1000 b109_3 (EE sc dr so (.f (I c)) (.f (I most)) tr k x pr be wi (.f (I (lp c most S).1)) (.f (I (lp c most S).2)) dn (.f (I one)) (.f (I oth)) wy) = some (.nx (EE sc dr so (.f (I c)) (.f (I most)) tr k x pr be wi (.f (I (lp c most S).1)) (.f (I (lp c most S).2)) dn (.f (I one)) (.f (I oth)) wy)) := by
  have e1 : cmpD .NotEq (.tup [I one, I oth]) (.tup [I (lp c most S).1, I (lp c most S).2]) = some (!(decide (one = (lp c most S).1) && decide ((oth : Int) = (lp c most S).2))) := by
    have := eq_pair (a := one) (b := oth) (c := (lp c most S).1) (d := (lp c most S).2)
    rw [show cmpD .NotEq (.tup [I one, I oth]) (.tup [I (lp c most S).1, I (lp c most S).2]) = (cmpD .Eq (.tup [I one, I oth]) (.tup [I (lp c most S).1, I (lp c most S).2])).map (!·) from rfl, this]
    rfl
  by_cases h1 : one = (lp c most S).1 ∧ (oth : Int) = (lp c most S).2
  · refine exs_nx (E' := EE sc dr so (.f (I c)) (.f (I most)) tr k x pr be wi (.f (I (lp c most S).1)) (.f (I (lp c most S).2)) dn (.f (I one)) (.f (I oth)) wy) ?_ rfl
    rw [decide_eq_true h1.1, decide_eq_true h1.2] at e1
    simp [EE, e1]
  · have e2 : (decide (one = (lp c most S).1) && decide ((oth : Int) = (lp c most S).2)) = false := by
      rw [← Bool.decide_and]
      exact decide_eq_false h1
    rw [e2] at e1
    refine exs_nx (E' := EE sc dr so (.f (I c)) (.f (I most)) tr k x pr be wi (.f (I (lp c most S).1)) (.f (I (lp c most S).2)) dn (.f (I one)) (.f (I oth)) wy) ?_ rfl
    by_cases h2 : 0 ≤ one
    · have a1 := C.judge c most S one oth r h h2 hs
      rw [decide_eq_false h1] at a1
      generalize (lp c most S).1 = m at *
      generalize (lp c most S).2 = s at *
      simp [EE, e1, h2, a1]
    · generalize (lp c most S).1 = m at *
      generalize (lp c most S).2 = s at *
      simp [EE, e1, h2]
end
end Law86

end

section
set_option Elab.async false
set_option linter.all false
set_option autoImplicit false
set_option maxRecDepth 100000
set_option maxHeartbeats 0
namespace Law86
open Vp L2 PySem
section
variable {cf : Nat → List D → Option D}
theorem sh_mul {m s : Int} : SeqAt.shaped (D.py (.tup [.str ("mul" : String), I m, I s])) = true := by
  simp [D.py, D.pys, SeqAt.shaped, PyData.canLay0, PyData.canLayAll0, PyData.depth, PyData.depthAll]
  decide +kernel
theorem eq_mul {m s : Int} : cmpD .NotEq (.tup [.str ("mul" : String), I m, I s]) (.tup [.str ("mul" : String), I m, I s]) = some false := by
  rw [show cmpD .NotEq (.tup [.str ("mul" : String), I m, I s]) (.tup [.str ("mul" : String), I m, I s]) = (cmpD .Eq (.tup [.str ("mul" : String), I m, I s]) (.tup [.str ("mul" : String), I m, I s])).map (!·) from rfl, eq_tup_refl sh_mul]
  rfl
theorem way_step (C : Calls cf) {c most : Int} {S : Nat} (r : Rg c most) (h : IsL c most S) (hc : 2 ≤ c) {sc dr so tr k x pr be dn one oth wy : Cell} {w : Nat} (w1 : w ≤ 390) :
    ∃ wy', exs cf prog.gl 1000 b109_4 (EE sc dr so (.f (I c)) (.f (I most)) tr k x pr be (.f (I w)) (.f (I (lp c most S).1)) (.f (I (lp c most S).2)) dn one oth wy) = some (.nx (EE sc dr so (.f (I c)) (.f (I most)) tr k x pr be (.f (I w)) (.f (I (lp c most S).1)) (.f (I (lp c most S).2)) dn one oth wy')) := by
  have a1 := C.wayof c most S w r h (by omega) (by omega)
  have a2 := C.pow w w1
  have mo : mulOk most (lp c most S).1 = true := mulOk_l (by have := r.m0; omega) (by have := r.m1; omega)
  have ne : ¬ (("right" : String) : Str) = (("mul" : String) : Str) := by decide
  have n1 : ¬ c = 1 := by omega
  unfold way at a1
  rw [if_neg n1, Int.toNat_natCast] at a1
  generalize (lp c most S).1 = m at *
  generalize (lp c most S).2 = s at *
  by_cases h2 : (2 : Int) ^ c.toNat.log2 = c
  · rw [if_pos h2] at a1
    generalize c.toNat.log2 = n at *
    refine ⟨.f (.tup [.str ("right" : String), I (n : Nat)]), ?_⟩
    refine exs_nx (E' := EE sc dr so (.f (I c)) (.f (I most)) tr k x pr be (.f (I w)) (.f (I m)) (.f (I s)) dn one oth (.f (.tup [.str ("right" : String), I (n : Nat)]))) (by simp [EE, a1]) ?_
    have i0 : atI [D.str ("right" : String), D.int (n : Nat)] 0 = some (.str ("right" : String)) := rfl
    refine exs_nx (E' := EE sc dr so (.f (I c)) (.f (I most)) tr k x pr be (.f (I w)) (.f (I m)) (.f (I s)) dn one oth (.f (.tup [.str ("right" : String), I (n : Nat)]))) (by simp [EE, i0, ne]) ?_
    refine exs_nx (E' := EE sc dr so (.f (I c)) (.f (I most)) tr k x pr be (.f (I w)) (.f (I m)) (.f (I s)) dn one oth (.f (.tup [.str ("right" : String), I (n : Nat)]))) (by simp [EE]) rfl
  · rw [if_neg h2] at a1
    by_cases h3 : most * m < 2 ^ w
    · rw [if_pos h3] at a1
      have h3' : ¬ (2 : Int) ^ w ≤ most * m := by omega
      refine ⟨.f (.tup [.str ("mul" : String), I m, I s]), ?_⟩
      refine exs_nx (E' := EE sc dr so (.f (I c)) (.f (I most)) tr k x pr be (.f (I w)) (.f (I m)) (.f (I s)) dn one oth (.f (.tup [.str ("mul" : String), I m, I s]))) (by simp [EE, a1]) ?_
      have i0 : atI [D.str ("mul" : String), D.int m, D.int s] 0 = some (.str ("mul" : String)) := rfl
      have e9 := eq_mul (m := m) (s := s)
      refine exs_nx (E' := EE sc dr so (.f (I c)) (.f (I most)) tr k x pr be (.f (I w)) (.f (I m)) (.f (I s)) dn one oth (.f (.tup [.str ("mul" : String), I m, I s]))) (by simp [EE, i0, e9, mo, a2, h3']) ?_
      refine exs_nx (E' := EE sc dr so (.f (I c)) (.f (I most)) tr k x pr be (.f (I w)) (.f (I m)) (.f (I s)) dn one oth (.f (.tup [.str ("mul" : String), I m, I s]))) (by simp [EE]) rfl
    · rw [if_neg h3] at a1
      refine ⟨.f .non, ?_⟩
      refine exs_nx (E' := EE sc dr so (.f (I c)) (.f (I most)) tr k x pr be (.f (I w)) (.f (I m)) (.f (I s)) dn one oth (.f .non)) (by simp [EE, a1]) ?_
      refine exs_nx (E' := EE sc dr so (.f (I c)) (.f (I most)) tr k x pr be (.f (I w)) (.f (I m)) (.f (I s)) dn one oth (.f .non)) (by simp [EE]) ?_
      refine exs_nx (E' := EE sc dr so (.f (I c)) (.f (I most)) tr k x pr be (.f (I w)) (.f (I m)) (.f (I s)) dn one oth (.f .non)) (by simp [EE, mo, a2, h3]) rfl
theorem rangeC (ns ms : List Int) (hn : ns.length = 40) (hnr : ∀ n ∈ ns, 0 ≤ n ∧ n < 5040) (hm : ms.length = 12) (hmr : ∀ n ∈ ms, 0 ≤ n ∧ n < 1000003) (C : Calls cf) {sc c3 c4 c5 c6 c7 c8 c9 c10 c11 c12 c13 c14 c15 c16 : Cell} : ∃ c : Int, 2 ≤ c ∧ c ≤ 1099511627775 ∧ c ≤ 1000010000000 ∧
    exs cf prog.gl 1000 (.cons [] (.asg (.nm 3) (.sub (.lis (.lst (.cons (.call 104 (.cons (.int 10) (.cons (.bin .add (.int 1) (.bin .mod (.sub (.loc 1) (.int 0)) (.int 12))) .nil))) (.cons (.bin .add (.int 2) (.sub (.loc 2) (.int 0))) (.cons (.bin .add (.int 2) (.bin .mul (.sub (.loc 2) (.int 1)) (.sub (.loc 2) (.int 2)))) (.cons (.bin .mul (.int 3) (.call 104 (.cons (.int 10) (.cons (.bin .mod (.sub (.loc 1) (.int 0)) (.int 9)) .nil)))) .nil)))))) (.bin .mod (.sub (.loc 1) (.int 1)) (.int 4)))) .nil) (EE sc (.f (.lst (ns.map .int))) (.f (.lst (ms.map .int))) c3 c4 c5 c6 c7 c8 c9 c10 c11 c12 c13 c14 c15 c16)
      = some (.nx (EE sc (.f (.lst (ns.map .int))) (.f (.lst (ms.map .int))) (.f (I c)) c4 c5 c6 c7 c8 c9 c10 c11 c12 c13 c14 c15 c16)) := by
  obtain ⟨q0, d0, q00, q01⟩ := drawn hn hnr (j := 0) (by omega) (by omega)
  obtain ⟨q1, d1, q10, q11⟩ := drawn hn hnr (j := 1) (by omega) (by omega)
  obtain ⟨s0, f0, s00, s01⟩ := drawn hm hmr (j := 0) (by omega) (by omega)
  obtain ⟨s1, f1, s10, s11⟩ := drawn hm hmr (j := 1) (by omega) (by omega)
  obtain ⟨s2, f2, s20, s21⟩ := drawn hm hmr (j := 2) (by omega) (by omega)
  have t1 := C.ten (1 + q0 % 12) (by omega) (by omega)
  have t2 := C.ten (q0 % 9) (by omega) (by omega)
  have p1 : (10 : Int) ≤ 10 ^ (1 + q0 % 12).toNat ∧ (10 : Int) ^ (1 + q0 % 12).toNat ≤ 1000000000000 := by
    have h : (1 + q0 % 12).toNat ≤ 12 ∧ 1 ≤ (1 + q0 % 12).toNat := by omega
    generalize (1 + q0 % 12).toNat = n at *
    have : n = 1 ∨ n = 2 ∨ n = 3 ∨ n = 4 ∨ n = 5 ∨ n = 6 ∨ n = 7 ∨ n = 8 ∨ n = 9 ∨ n = 10 ∨ n = 11 ∨ n = 12 := by omega
    rcases this with rfl | rfl | rfl | rfl | rfl | rfl | rfl | rfl | rfl | rfl | rfl | rfl <;> decide
  have p2 : (1 : Int) ≤ 10 ^ (q0 % 9).toNat ∧ (10 : Int) ^ (q0 % 9).toNat ≤ 100000000 := by
    have h : (q0 % 9).toNat ≤ 8 := by omega
    generalize (q0 % 9).toNat = n at *
    have : n = 0 ∨ n = 1 ∨ n = 2 ∨ n = 3 ∨ n = 4 ∨ n = 5 ∨ n = 6 ∨ n = 7 ∨ n = 8 := by omega
    rcases this with rfl | rfl | rfl | rfl | rfl | rfl | rfl | rfl | rfl <;> decide
  have p3 : 0 ≤ s1 * s2 ∧ s1 * s2 ≤ 1000002 * 1000002 := by
    have h1 : s1 * s2 ≤ 1000002 * s2 := Int.mul_le_mul_of_nonneg_right (by omega) s20
    exact ⟨Int.mul_nonneg s10 s20, by omega⟩
  have m1 : mulOk s1 s2 = true := mulOk_l (by omega) (by omega)
  have m2 : ∀ x : Int, mulOk 3 x = true := fun x => mulOk_l (by omega) (by omega)
  obtain ⟨c, ⟨h1, h2⟩, h3⟩ := atI4 (a := 10 ^ (1 + q0 % 12).toNat) (b := 2 + s0) (c := 2 + s1 * s2) (d := 3 * 10 ^ (q0 % 9).toNat) (j := q1 % 4) (by omega) (by omega) (fun x => 2 ≤ x ∧ x ≤ 1000010000000) ⟨by omega, by omega⟩ ⟨by omega, by omega⟩ ⟨by omega, by omega⟩ ⟨by omega, by omega⟩
  refine ⟨c, h1, by omega, h2, exs_nx (E' := EE sc (.f (.lst (ns.map .int))) (.f (.lst (ms.map .int))) (.f (I c)) c4 c5 c6 c7 c8 c9 c10 c11 c12 c13 c14 c15 c16) ?_ rfl⟩
  generalize (10 : Int) ^ (1 + q0 % 12).toNat = z1 at *
  generalize (10 : Int) ^ (q0 % 9).toNat = z2 at *
  simp [EE, d0, d1, f0, f1, f2, t1, t2, m1, m2, h3]
theorem rangeM (ns ms : List Int) (hn : ns.length = 40) (hnr : ∀ n ∈ ns, 0 ≤ n ∧ n < 5040) (hm : ms.length = 12) (hmr : ∀ n ∈ ms, 0 ≤ n ∧ n < 1000003) (C : Calls cf) {c : Int} (hc : 2 ≤ c) (hc1 : c ≤ 1000010000000) {sc c4 c5 c6 c7 c8 c9 c10 c11 c12 c13 c14 c15 c16 : Cell} : ∃ most : Int, 0 ≤ most ∧ most ≤ 9223372036854775808 ∧
    exs cf prog.gl 1000 (.cons [] (.asg (.nm 4) (.sub (.lis (.lst (.cons (.bin .mul (.bin .mul (.sub (.loc 2) (.int 3)) (.sub (.loc 2) (.int 4))) (.bin .add (.int 1) (.sub (.loc 2) (.int 5)))) (.cons (.bin .add (.bin .mul (.loc 3) (.bin .add (.int 1) (.sub (.loc 1) (.int 2)))) (.sub (.loc 1) (.int 3))) (.cons (.call 104 (.cons (.int 2) (.cons (.bin .add (.int 10) (.bin .mod (.sub (.loc 1) (.int 4)) (.int 54))) .nil))) (.cons (.sub (.loc 2) (.int 6)) .nil)))))) (.bin .mod (.sub (.loc 1) (.int 5)) (.int 4)))) .nil) (EE sc (.f (.lst (ns.map .int))) (.f (.lst (ms.map .int))) (.f (I c)) c4 c5 c6 c7 c8 c9 c10 c11 c12 c13 c14 c15 c16)
      = some (.nx (EE sc (.f (.lst (ns.map .int))) (.f (.lst (ms.map .int))) (.f (I c)) (.f (I most)) c5 c6 c7 c8 c9 c10 c11 c12 c13 c14 c15 c16)) := by
  obtain ⟨q2, d2, q20, q21⟩ := drawn hn hnr (j := 2) (by omega) (by omega)
  obtain ⟨q3, d3, q30, q31⟩ := drawn hn hnr (j := 3) (by omega) (by omega)
  obtain ⟨q4, d4, q40, q41⟩ := drawn hn hnr (j := 4) (by omega) (by omega)
  obtain ⟨q5, d5, q50, q51⟩ := drawn hn hnr (j := 5) (by omega) (by omega)
  obtain ⟨s3, f3, s30, s31⟩ := drawn hm hmr (j := 3) (by omega) (by omega)
  obtain ⟨s4, f4, s40, s41⟩ := drawn hm hmr (j := 4) (by omega) (by omega)
  obtain ⟨s5, f5, s50, s51⟩ := drawn hm hmr (j := 5) (by omega) (by omega)
  obtain ⟨s6, f6, s60, s61⟩ := drawn hm hmr (j := 6) (by omega) (by omega)
  have t1 := C.pow (10 + q4 % 54).toNat (by omega)
  rw [Int.toNat_of_nonneg (by omega)] at t1
  have p1 : (0 : Int) ≤ 2 ^ (10 + q4 % 54).toNat ∧ (2 : Int) ^ (10 + q4 % 54).toNat ≤ 9223372036854775808 := by
    refine ⟨Int.le_of_lt (pos2 _), ?_⟩
    have h : (10 + q4 % 54).toNat ≤ 63 := by omega
    generalize (10 + q4 % 54).toNat = n at *
    have e : (9223372036854775808 : Int) = ((2 ^ 63 : Nat) : Int) := by decide +kernel
    have e2 : (2 : Int) ^ n = ((2 ^ n : Nat) : Int) := by simp
    rw [e, e2]
    exact Int.ofNat_le.mpr (Nat.pow_le_pow_right (by omega) h)
  have p3 : 0 ≤ s3 * s4 ∧ s3 * s4 ≤ 1000002 * 1000002 := by
    have h1 : s3 * s4 ≤ 1000002 * s4 := Int.mul_le_mul_of_nonneg_right (by omega) s40
    exact ⟨Int.mul_nonneg s30 s40, by omega⟩
  have p4 : 0 ≤ s3 * s4 * (1 + s5) ∧ s3 * s4 * (1 + s5) ≤ 1000002 * 1000002 * 1000003 := by
    have h1 : s3 * s4 * (1 + s5) ≤ 1000002 * 1000002 * (1 + s5) := Int.mul_le_mul_of_nonneg_right p3.2 (by omega)
    exact ⟨Int.mul_nonneg p3.1 (by omega), by omega⟩
  have p5 : 0 ≤ c * (1 + q2) ∧ c * (1 + q2) ≤ 1000010000000 * 5040 := by
    have h1 : c * (1 + q2) ≤ 1000010000000 * (1 + q2) := Int.mul_le_mul_of_nonneg_right hc1 (by omega)
    exact ⟨Int.mul_nonneg (by omega) (by omega), by omega⟩
  have m1 : mulOk s3 s4 = true := mulOk_l (by omega) (by omega)
  have m2 : mulOk (s3 * s4) (1 + s5) = true := mulOk_r (by omega) (by omega)
  have m3 : mulOk c (1 + q2) = true := mulOk_r (by omega) (by omega)
  obtain ⟨most, ⟨h1, h2⟩, h3⟩ := atI4 (a := s3 * s4 * (1 + s5)) (b := c * (1 + q2) + q3) (c := 2 ^ (10 + q4 % 54).toNat) (d := s6) (j := q5 % 4) (by omega) (by omega) (fun x => 0 ≤ x ∧ x ≤ 9223372036854775808) ⟨by omega, by omega⟩ ⟨by omega, by omega⟩ p1 ⟨by omega, by omega⟩
  refine ⟨most, h1, h2, exs_nx (E' := EE sc (.f (.lst (ns.map .int))) (.f (.lst (ms.map .int))) (.f (I c)) (.f (I most)) c5 c6 c7 c8 c9 c10 c11 c12 c13 c14 c15 c16) ?_ rfl⟩
  generalize (2 : Int) ^ (10 + q4 % 54).toNat = z1 at *
  simp [EE, d2, d3, d4, d5, f3, f4, f5, f6, t1, m1, m2, m3, h3]
end
end Law86

end

section
set_option Elab.async false
set_option linter.all false
set_option autoImplicit false
set_option maxRecDepth 100000
set_option maxHeartbeats 0
namespace Law86
open Vp L2 PySem
theorem exs_single {cf : Nat → List D → Option D} {s : Sm} {E E' : Env'} (h : exs cf prog.gl 1000 (.cons [] s .nil) E = some (.nx E')) : ex1 cf prog.gl 1000 s E = some (.nx E') := by
  rw [exs_cons, seqF_def, frz_nil] at h
  obtain ⟨fl, h1, h2⟩ := Option.bind_eq_some_iff.mp h
  cases fl with
  | nx E2 =>
    have : E2 = E' := by
      have h3 : some (Fl.nx E2) = some (Fl.nx E') := h2
      injection h3 with h3
      injection h3
    rw [h1, this]
  | _ => cases h2
theorem lp_all {c most : Int} {S : Nat} (r : Rg c most) (h : IsL c most S) : P85.All c most (lp c most S).1 (2 ^ (lp c most S).2.toNat) := by
  unfold lp
  split
  · intro x hx hx'
    have : x / c = 0 := Int.ediv_eq_zero_of_lt hx (by omega)
    unfold P85.ok
    rw [this, Int.mul_zero, Int.mul_zero]
    have := pos2 ((0 : Int).toNat)
    simp only
    omega
  · exact h.ok
section
variable {cf : Nat → List D → Option D}
theorem filter_len {c most m : Int} {s : Int} (p : Int → Bool) (hp : ∀ x ∈ probes c most, p x = !dv c m s x) : (((probes c most).filter p).length = 0) ↔ dvAll c most m s = true := by
  unfold dvAll
  rw [List.length_eq_zero_iff, List.filter_eq_nil_iff, List.all_eq_true]
  constructor
  · intro h x hx
    have := h x hx
    rw [hp x hx] at this
    simpa using this
  · intro h x hx
    rw [hp x hx, h x hx]
    decide
/-- a pair with one shift less -/
theorem down_step (C : Calls cf) {c most : Int} {S : Nat} (r : Rg c most) (h : IsL c most S) {sc dr so tr k x wi dn one oth wy : Cell} {B : List D} (hB : B.length ≤ 20) (hB2 : ∀ d ∈ B, ∃ (a : Int) (b : Nat), d = .tup [I a, I b] ∧ b ≤ 390) (rest : Sms) (out : Option Fl)
    (hr : ∀ (B : List D) (dn : Cell), (∀ d ∈ B, ∃ (a : Int) (b : Nat), d = .tup [I a, I b] ∧ b ≤ 390) → exs cf prog.gl 1000 rest (EE sc dr so (.f (I c)) (.f (I most)) tr k x (.f (.lst ((probes c most).map .int))) (.f (.lst B)) wi (.f (I (lp c most S).1)) (.f (I (lp c most S).2)) dn one oth wy) = out) :
    exs cf prog.gl 1000 (.cons [] (.ife (.bool .And (.cons (.cmp .Gt (.loc 12) (.int 0)) (.cons (.cmp .Gt (.loc 11) (.int 0)) .nil)))
  (.cons [] (.asg (.nm 13) (.bin .sub (.int 0) (.bin .fdiv (.bin .sub (.int 0) (.call 104 (.cons (.int 2) (.cons (.bin .sub (.loc 12) (.int 1)) .nil)))) (.loc 3))))
 (.cons [] (.asg (.nm 9) (.bin .add (.loc 9) (.lis (.lst (.cons (.tup (.cons (.bin .sub (.loc 11) (.int 1)) (.cons (.loc 12) .nil))) (.cons (.tup (.cons (.loc 13) (.cons (.bin .sub (.loc 12) (.int 1)) .nil))) (.cons (.tup (.cons (.loc 11) (.cons (.bin .sub (.loc 12) (.int 1)) .nil))) (.cons (.tup (.cons (.bin .fdiv (.loc 11) (.int 2)) (.cons (.bin .sub (.loc 12) (.int 1)) .nil))) .nil))))))))
 (.cons [] (.ife (.cmp .Eq (.bf .len (.cons (.lis (.comp [7] (.nm 7) (.loc 7) (.yes (.cmp .NotEq (.bin .fdiv (.loc 7) (.loc 3)) (.bin .fdiv (.bin .mul (.loc 7) (.loc 13)) (.call 104 (.cons (.int 2) (.cons (.bin .sub (.loc 12) (.int 1)) .nil)))))) (.ex (.loc 8)))) .nil)) (.int 0))
  (.cons [] (.ret (.bl false))
 .nil)
  .nil)
 .nil)))
  .nil) rest) (EE sc dr so (.f (I c)) (.f (I most)) tr k x (.f (.lst ((probes c most).map .int))) (.f (.lst B)) wi (.f (I (lp c most S).1)) (.f (I (lp c most S).2)) dn one oth wy) = out := by
  obtain ⟨l1, l2, l3, l4, l5⟩ := lp_range r h
  by_cases hb : 0 < (lp c most S).2 ∧ 0 < (lp c most S).1
  · have hc : ¬ most < c := by
      intro z
      have : (lp c most S).2 = 0 := by unfold lp; rw [if_pos z]
      omega
    have e2 : (lp c most S).2 = (S : Int) := by unfold lp; rw [if_neg hc]
    have hS := h.le
    have S1 : 1 ≤ S := by omega
    generalize (lp c most S).1 = m at *
    rw [e2] at hb ⊢
    have hr' := hr
    rw [e2] at hr'
    have e3 : (S : Int) - 1 = ((S - 1 : Nat) : Int) := by omega
    have p1 := C.pow (S - 1) (by omega)
    have d1 : divOk c = true := divOk_small r.c0 (by have := r.c1; omega)
    have d2 := div2 (s := ((S - 1 : Nat) : Int)) (by omega)
    rw [Int.toNat_natCast] at d2
    have dd2 : divOk 2 = true := by decide
    have e4 : 0 - (0 - 2 ^ (S - 1)) / c = P85.up c (2 ^ (S - 1)) := by unfold P85.up; rw [Int.zero_sub, Int.zero_sub]
    have hmin : dvAll c most (P85.up c (2 ^ (S - 1))) ((S - 1 : Nat) : Int) = false := by
      have i7 := dvAll_iff (m := P85.up c (2 ^ (S - 1))) (s := ((S - 1 : Nat) : Int)) r.c0 r.m0 (Int.le_of_lt (P85.up_nonneg r.c0 (pos2 _)))
      rw [Int.toNat_natCast] at i7
      cases z : dvAll c most (P85.up c (2 ^ (S - 1))) ((S - 1 : Nat) : Int) with
      | false => rfl
      | true => exact absurd (i7.mp z) (h.min (S - 1) (by omega))
    have u0 : 0 ≤ P85.up c (2 ^ (S - 1)) := Int.le_of_lt (P85.up_nonneg r.c0 (pos2 _))
    generalize hup : P85.up c (2 ^ (S - 1)) = u at *
    let B2 : List D := B ++ [.tup [I (m - 1), I S], .tup [I u, I ((S - 1 : Nat) : Int)], .tup [I m, I ((S - 1 : Nat) : Int)], .tup [I (m / 2), I ((S - 1 : Nat) : Int)]]
    have hB3 : ∀ d ∈ B2, ∃ (a : Int) (b : Nat), d = .tup [I a, I b] ∧ b ≤ 390 := by
      intro d hd
      rcases List.mem_append.mp hd with hd | hd
      · exact hB2 d hd
      · simp only [List.mem_cons, List.not_mem_nil, or_false] at hd
        rcases hd with rfl | rfl | rfl | rfl
        · exact ⟨_, S, rfl, by omega⟩
        · exact ⟨_, S - 1, rfl, by omega⟩
        · exact ⟨_, S - 1, rfl, by omega⟩
        · exact ⟨_, S - 1, rfl, by omega⟩
    have e1 : compL (.nm 7) (evC cf prog.gl (.yes (.cmp .NotEq (.bin .fdiv (.loc 7) (.loc 3)) (.bin .fdiv (.bin .mul (.loc 7) (.loc 13)) (.call 104 (.cons (.int 2) (.cons (.bin .sub (.loc 12) (.int 1)) .nil))))))) (ev cf prog.gl (.loc 7)) (EE sc dr so (.f (I c)) (.f (I most)) tr k .u (.f (.lst ((probes c most).map .int))) (.f (.lst B2)) wi (.f (I m)) (.f (I S)) (.f (I u)) one oth wy) ((probes c most).map .int)
        = some (((probes c most).filter fun x => !dv c u ((S - 1 : Nat) : Int) x).map .int) := by
      refine compL_filM fun y hy => ⟨_, rfl, ?_, fun _ => by simp [EE]⟩
      have hyr := r.probes y hy
      have mo : mulOk y u = true := mulOk_l (by omega) (by omega)
      simp [EE, d1, d2, mo, p1, dv, e3]
    have e5 : evL cf prog.gl (.comp [7] (.nm 7) (.loc 7) (.yes (.cmp .NotEq (.bin .fdiv (.loc 7) (.loc 3)) (.bin .fdiv (.bin .mul (.loc 7) (.loc 13)) (.call 104 (.cons (.int 2) (.cons (.bin .sub (.loc 12) (.int 1)) .nil)))))) (.ex (.loc 8))) (EE sc dr so (.f (I c)) (.f (I most)) tr k x (.f (.lst ((probes c most).map .int))) (.f (.lst B2)) wi (.f (I m)) (.f (I S)) (.f (I u)) one oth wy)
        = some (((probes c most).filter fun x => !dv c u ((S - 1 : Nat) : Int) x).map .int) := by
      rw [evL_comp, evI_ex]
      have hl : ((probes c most).map D.int).length ≤ lineN := by
        rw [List.length_map]
        exact Nat.le_trans (probes_len _ _) (by decide)
      rw [show ev cf prog.gl (.loc 8) (EE sc dr so (.f (I c)) (.f (I most)) tr k x (.f (.lst ((probes c most).map .int))) (.f (.lst B2)) wi (.f (I m)) (.f (I S)) (.f (I u)) one oth wy) = some (.lst ((probes c most).map .int)) from rfl, Option.bind_some, items_lst, Option.bind_some, if_pos hl]
      exact e1
    have e6 : ¬ (((probes c most).filter fun x => !dv c u ((S - 1 : Nat) : Int) x).length : Int) = 0 := by
      intro z
      have := (filter_len (c := c) (most := most) (m := u) (s := ((S - 1 : Nat) : Int)) (fun x => !dv c u ((S - 1 : Nat) : Int) x) fun _ _ => rfl).mp (by omega)
      rw [hmin] at this
      cases this
    generalize ((probes c most).filter fun x => !dv c u ((S - 1 : Nat) : Int) x) = ff at *
    have b1 : 0 < (S : Int) := hb.1
    have b2 : 0 < m := hb.2
    have s1 : exs cf prog.gl 1000 (.cons [] (.asg (.nm 13) (.bin .sub (.int 0) (.bin .fdiv (.bin .sub (.int 0) (.call 104 (.cons (.int 2) (.cons (.bin .sub (.loc 12) (.int 1)) .nil)))) (.loc 3))))
 (.cons [] (.asg (.nm 9) (.bin .add (.loc 9) (.lis (.lst (.cons (.tup (.cons (.bin .sub (.loc 11) (.int 1)) (.cons (.loc 12) .nil))) (.cons (.tup (.cons (.loc 13) (.cons (.bin .sub (.loc 12) (.int 1)) .nil))) (.cons (.tup (.cons (.loc 11) (.cons (.bin .sub (.loc 12) (.int 1)) .nil))) (.cons (.tup (.cons (.bin .fdiv (.loc 11) (.int 2)) (.cons (.bin .sub (.loc 12) (.int 1)) .nil))) .nil))))))))
 (.cons [] (.ife (.cmp .Eq (.bf .len (.cons (.lis (.comp [7] (.nm 7) (.loc 7) (.yes (.cmp .NotEq (.bin .fdiv (.loc 7) (.loc 3)) (.bin .fdiv (.bin .mul (.loc 7) (.loc 13)) (.call 104 (.cons (.int 2) (.cons (.bin .sub (.loc 12) (.int 1)) .nil)))))) (.ex (.loc 8)))) .nil)) (.int 0))
  (.cons [] (.ret (.bl false))
 .nil)
  .nil)
 .nil))) (EE sc dr so (.f (I c)) (.f (I most)) tr k x (.f (.lst ((probes c most).map .int))) (.f (.lst B)) wi (.f (I m)) (.f (I S)) dn one oth wy) = some (.nx (EE sc dr so (.f (I c)) (.f (I most)) tr k x (.f (.lst ((probes c most).map .int))) (.f (.lst B2)) wi (.f (I m)) (.f (I S)) (.f (I u)) one oth wy)) := by
      refine exs_nx (E' := EE sc dr so (.f (I c)) (.f (I most)) tr k x (.f (.lst ((probes c most).map .int))) (.f (.lst B)) wi (.f (I m)) (.f (I S)) (.f (I u)) one oth wy) ?_ ?_
      · have p1' : cf 104 [D.int 2, D.int ((S - 1 : Nat) : Int)] = some (I (2 ^ (S - 1))) := p1
        rw [← e4]
        simp [EE, e3, p1', d1]
      refine exs_nx (E' := EE sc dr so (.f (I c)) (.f (I most)) tr k x (.f (.lst ((probes c most).map .int))) (.f (.lst B2)) wi (.f (I m)) (.f (I S)) (.f (I u)) one oth wy) ?_ ?_
      · have : B.length + 4 ≤ 16777216 := by omega
        simp [EE, e3, dd2, B2, this]
      refine exs_nx (E' := EE sc dr so (.f (I c)) (.f (I most)) tr k x (.f (.lst ((probes c most).map .int))) (.f (.lst B2)) wi (.f (I m)) (.f (I S)) (.f (I u)) one oth wy) ?_ rfl
      rw [frz_nil, ex1_ife, tev_cmp, ev_bf, evs_cons, ev_lis, e5, evs_nil, Option.map_some, Option.bind_some, Option.map_some, Option.bind_some, len_lst, Option.bind_some, ev_int, Option.bind_some, eq_int, Option.bind_some, List.length_map, decide_eq_false e6]
      rfl
    refine exs_nx (E' := EE sc dr so (.f (I c)) (.f (I most)) tr k x (.f (.lst ((probes c most).map .int))) (.f (.lst B2)) wi (.f (I m)) (.f (I S)) (.f (I u)) one oth wy) ?_ (hr' B2 _ hB3)
    rw [frz_nil, ex1_ife, s1]
    have c1 : tev cf prog.gl (.bool .And (.cons (.cmp .Gt (.loc 12) (.int 0)) (.cons (.cmp .Gt (.loc 11) (.int 0)) .nil))) (EE sc dr so (.f (I c)) (.f (I most)) tr k x (.f (.lst ((probes c most).map .int))) (.f (.lst B)) wi (.f (I m)) (.f (I S)) dn one oth wy) = some true := by
      simp [EE, b1, b2]
      omega
    rw [c1]
    rfl
  · refine exs_nx (E' := EE sc dr so (.f (I c)) (.f (I most)) tr k x (.f (.lst ((probes c most).map .int))) (.f (.lst B)) wi (.f (I (lp c most S).1)) (.f (I (lp c most S).2)) dn one oth wy) ?_ (hr B dn hB2)
    generalize (lp c most S).1 = m at *
    generalize (lp c most S).2 = s at *
    by_cases z : 0 < s
    · have z2 : ¬ 0 < m := fun y => hb ⟨z, y⟩
      simp [EE, z, z2]
    · simp [EE, z]
end
end Law86

end

section
set_option Elab.async false
set_option linter.all false
set_option autoImplicit false
set_option maxRecDepth 100000
set_option maxHeartbeats 0
namespace Law86
open Vp L2 PySem
theorem law_true : ∀ ns : List Int, ns.length ≤ 63 → prog.call 1000 30 109 [.fls (ns.map .int)] = some (.bl true) := by
  intro ss hss
  show callN prog.tab prog.gl 1000 (29 + 1) 109 [.fls (ss.map .int)] = _
  rw [callN_eq (tab := prog.tab) (f := 109) rfl rfl]
  have h1 := Sh.cell (tab := prog.tab) (gl := prog.gl) (wn := 1000) (k := 28) (ns := ss) (i := 0) rfl
  have h1' := Sh.cell (tab := prog.tab) (gl := prog.gl) (wn := 1000) (k := 28) (ns := ss) (i := 1) rfl
  obtain ⟨ns, h2, hn, hnr⟩ := Sh.numbers (tab := prog.tab) (gl := prog.gl) (wn := 1000) (k := 28) (cell := ss[0]?.getD 0) (count := 40) (limit := 5040) rfl (by decide) (by decide) (by decide) (by decide)
  obtain ⟨ms, h3, hm, hmr⟩ := Sh.numbers (tab := prog.tab) (gl := prog.gl) (wn := 1000) (k := 28) (cell := ss[1]?.getD 0) (count := 12) (limit := 1000003) rfl (by decide) (by decide) (by decide) (by decide)
  have C : Calls (callN prog.tab prog.gl 1000 29) := calls (k := 24)
  change callN prog.tab prog.gl 1000 29 83 _ = _ at h1
  change callN prog.tab prog.gl 1000 29 83 _ = _ at h1'
  change callN prog.tab prog.gl 1000 29 84 _ = _ at h2
  change callN prog.tab prog.gl 1000 29 84 _ = _ at h3
  generalize callN prog.tab prog.gl 1000 29 = cf at *
  have hn' : ns.length = 40 := hn
  have hm' : ms.length = 12 := hm
  have k1 : cf 83 [.fls (ss.map .int), .int 0] = some (.int (ss[0]?.getD 0)) := h1
  have k2 : cf 83 [.fls (ss.map .int), .int 1] = some (.int (ss[1]?.getD 0)) := h1'
  suffices hh : exs cf prog.gl 1000 b109 (startE 17 [.fls (ss.map .int)]) = some (.rt (.bl true)) by
    rw [hh]
    rfl
  let sc : Cell := .f (.fls (ss.map .int))
  let dr : Cell := .f (.lst (ns.map .int))
  let so : Cell := .f (.lst (ms.map .int))
  refine exs_nx (E' := EE sc dr .u .u .u .u .u .u .u .u .u .u .u .u .u .u .u) (by simp [startE, EE, sc, dr, k1, h2]) ?_
  refine exs_nx (E' := EE sc dr so .u .u .u .u .u .u .u .u .u .u .u .u .u .u) (by simp [EE, sc, so, k2, h3]) ?_
  obtain ⟨c, c2, c3, c4, hc⟩ := rangeC ns ms hn' hnr hm' hmr C (sc := sc) (c3 := .u) (c4 := .u) (c5 := .u) (c6 := .u) (c7 := .u) (c8 := .u) (c9 := .u) (c10 := .u) (c11 := .u) (c12 := .u) (c13 := .u) (c14 := .u) (c15 := .u) (c16 := .u)
  obtain ⟨most, m0, m1, hmo⟩ := rangeM ns ms hn' hnr hm' hmr C c2 c4 (sc := sc) (c4 := .u) (c5 := .u) (c6 := .u) (c7 := .u) (c8 := .u) (c9 := .u) (c10 := .u) (c11 := .u) (c12 := .u) (c13 := .u) (c14 := .u) (c15 := .u) (c16 := .u)
  have r : Rg c most := ⟨by omega, c3, m0, m1⟩
  obtain ⟨S, hS⟩ := exL r
  obtain ⟨l1, l2, l3, l4, l5⟩ := lp_range r hS
  have hA := lp_all r hS
  have hlp := C.lpair c most S r hS
  have hpf := C.pfor c most r
  have XS := fun {sc dr so tr k pr be wi dn one oth wy : Cell} {x : Int} => x_step C r (m := (lp c most S).1) (s := (lp c most S).2.toNat) hA (by omega) (sc := sc) (dr := dr) (so := so) (tr := tr) (k := k) (pr := pr) (be := be) (wi := wi) (dn := dn) (one := one) (oth := oth) (wy := wy) (x := x)
  rw [Int.toNat_of_nonneg l3] at XS
  have BS := fun {sc dr so tr k x pr be wi dn wy : Cell} {one : Int} {oth : Nat} (ho : oth ≤ 390) => bent_step C r hS (sc := sc) (dr := dr) (so := so) (tr := tr) (k := k) (x := x) (pr := pr) (be := be) (wi := wi) (dn := dn) (wy := wy) (one := one) (oth := oth) ho
  have WS := fun {sc dr so tr k x pr be dn one oth wy : Cell} {w : Nat} (hw : w ≤ 390) => way_step C r hS c2 (sc := sc) (dr := dr) (so := so) (tr := tr) (k := k) (x := x) (pr := pr) (be := be) (dn := dn) (one := one) (oth := oth) (wy := wy) (w := w) hw
  have DS := fun {sc dr so tr k x wi dn one oth wy : Cell} {B : List D} => down_step C r hS (sc := sc) (dr := dr) (so := so) (tr := tr) (k := k) (x := x) (wi := wi) (dn := dn) (one := one) (oth := oth) (wy := wy) (B := B)
  have g1 := C.divides c most (lp c most S).1 (lp c most S).2.toNat r l1 (by omega)
  have g2 : dvAll c most (lp c most S).1 (((lp c most S).2.toNat : Nat) : Int) = true := (dvAll_iff r.c0 r.m0 l1).mpr (by rw [Int.toNat_natCast]; exact hA)
  have g3 := C.judge c most S (lp c most S).1 (lp c most S).2.toNat r hS l1 (by omega)
  rw [g2] at g1
  rw [decide_eq_true (⟨rfl, Int.toNat_of_nonneg l3⟩ : (lp c most S).1 = (lp c most S).1 ∧ (((lp c most S).2.toNat : Nat) : Int) = (lp c most S).2)] at g3
  rw [Int.toNat_of_nonneg l3] at g1 g3
  have g4 : cf 85 [.bl true, .bl true] = some (.bl true) := C.same _ (by simp [Sh.good])
  have g5 : most ≥ c ∨ ((lp c most S).1 = 0 ∧ (lp c most S).2 = 0) := by
    by_cases z : most < c
    · right
      unfold lp
      rw [if_pos z]
      exact ⟨rfl, rfl⟩
    · left
      omega
  generalize (lp c most S).1 = m at *
  generalize (lp c most S).2 = s at *
  have pm : 0 < c := by omega
  have dd2 : divOk 2 = true := by decide
  have mm2 : ∀ x : Int, mulOk 2 x = true := fun x => mulOk_l (by omega) (by omega)
  have mm4 : ∀ x : Int, mulOk 4 x = true := fun x => mulOk_l (by omega) (by omega)
  refine exs_nx (exs_single hc) ?_
  refine exs_nx (exs_single hmo) ?_
  refine exs_nx (E' := EE sc dr so (.f (I c)) (.f (I most)) .u .u .u .u .u .u (.f (I m)) (.f (I s)) .u .u .u .u) (by simp [EE, hlp, dr, so]) ?_
  refine exs_nx (E' := EE sc dr so (.f (I c)) (.f (I most)) (.o ([0, 1, most, most / 2, c, c - 1, c + 1, most - most % c, most - most % c - 1].map .int)) .u .u .u .u .u (.f (I m)) (.f (I s)) .u .u .u .u) (by simp [EE, pm, dd2]) ?_
  obtain ⟨us, kc, hus, hl⟩ := tried_loop (cf := cf) hn' hnr hm' hmr (ts := [0, 1, most, most / 2, c, c - 1, c + 1, most - most % c, most - most % c - 1]) (by simp) (sc := sc) (c4 := .f (I most)) (c6 := .u) (c7 := .u) (c8 := .u) (c9 := .u) (c10 := .u) (c11 := .f (I m)) (c12 := .f (I s)) (c13 := .u) (c14 := .u) (c15 := .u) (c16 := .u) pm c3
  refine exs_nx (E' := EE sc dr so (.f (I c)) (.f (I most)) (.o (us.map .int)) kc .u .u .u .u (.f (I m)) (.f (I s)) .u .u .u .u) ?_ ?_
  · rw [frz_nil, ex1_for]
    exact hl
  obtain ⟨E1, f1, xc, rfl⟩ := forF_inv (t := .nm 7) (b := exs cf prog.gl 1000 b109_2) (us.map .int)
    (fun i E => ∃ xc, E = EE sc dr so (.f (I c)) (.f (I most)) (.f (.lst (us.map .int))) kc xc .u .u .u (.f (I m)) (.f (I s)) .u .u .u .u) (EE sc dr so (.f (I c)) (.f (I most)) (.f (.lst (us.map .int))) kc .u .u .u .u (.f (I m)) (.f (I s)) .u .u .u .u) ⟨_, rfl⟩ (by
      rintro i d E hd ⟨xc, rfl⟩
      rw [List.getElem?_map] at hd
      obtain ⟨u, _, rfl⟩ := Option.map_eq_some_iff.mp hd
      exact ⟨EE sc dr so (.f (I c)) (.f (I most)) (.f (.lst (us.map .int))) kc (.f (I u)) .u .u .u (.f (I m)) (.f (I s)) .u .u .u .u, EE sc dr so (.f (I c)) (.f (I most)) (.f (.lst (us.map .int))) kc (.f (I (u % (most + 1)))) .u .u .u (.f (I m)) (.f (I s)) .u .u .u .u, rfl, .inl XS, _, rfl⟩)
  refine exs_nx (E' := EE sc dr so (.f (I c)) (.f (I most)) (.f (.lst (us.map .int))) kc xc .u .u .u (.f (I m)) (.f (I s)) .u .u .u .u) ?_ ?_
  · show ex1 cf prog.gl 1000 _ (EE sc dr so (.f (I c)) (.f (I most)) (.f (.lst (us.map .int))) kc .u .u .u .u (.f (I m)) (.f (I s)) .u .u .u .u) = _
    rw [ex1_for]
    exact f1
  refine exs_nx (E' := EE sc dr so (.f (I c)) (.f (I most)) (.f (.lst (us.map .int))) kc xc (.f (.lst ((probes c most).map .int))) .u .u (.f (I m)) (.f (I s)) .u .u .u .u) (by simp [EE, hpf]) ?_
  refine exs_nx (E' := EE sc dr so (.f (I c)) (.f (I most)) (.f (.lst (us.map .int))) kc xc (.f (.lst ((probes c most).map .int))) .u .u (.f (I m)) (.f (I s)) .u .u .u .u) ?_ ?_
  · have e1 : compL (.nm 7) (evC cf prog.gl (.yes (.bool .Or (.cons (.cmp .Lt (.loc 7) (.int 0)) (.cons (.cmp .Gt (.loc 7) (.loc 4)) .nil))))) (ev cf prog.gl (.loc 7)) (EE sc dr so (.f (I c)) (.f (I most)) (.f (.lst (us.map .int))) kc .u (.f (.lst ((probes c most).map .int))) .u .u (.f (I m)) (.f (I s)) .u .u .u .u) ((probes c most).map .int)
        = some (((probes c most).filter fun x => decide (x < 0 ∨ most < x)).map .int) := by
      refine compL_filM fun y hy => ⟨_, rfl, ?_, fun _ => by simp [EE]⟩
      by_cases z : y < 0 <;> simp [EE, z]
    have e2 : evL cf prog.gl (.comp [7] (.nm 7) (.loc 7) (.yes (.bool .Or (.cons (.cmp .Lt (.loc 7) (.int 0)) (.cons (.cmp .Gt (.loc 7) (.loc 4)) .nil)))) (.ex (.loc 8))) (EE sc dr so (.f (I c)) (.f (I most)) (.f (.lst (us.map .int))) kc xc (.f (.lst ((probes c most).map .int))) .u .u (.f (I m)) (.f (I s)) .u .u .u .u)
        = some [] := by
      rw [evL_comp, evI_ex]
      have hl : ((probes c most).map D.int).length ≤ lineN := by
        rw [List.length_map]
        exact Nat.le_trans (probes_len _ _) (by decide)
      rw [show ev cf prog.gl (.loc 8) (EE sc dr so (.f (I c)) (.f (I most)) (.f (.lst (us.map .int))) kc xc (.f (.lst ((probes c most).map .int))) .u .u (.f (I m)) (.f (I s)) .u .u .u .u) = some (.lst ((probes c most).map .int)) from rfl, Option.bind_some, items_lst, Option.bind_some, if_pos hl]
      refine Eq.trans e1 ?_
      have e3 : ((probes c most).filter fun x => decide (x < 0 ∨ most < x)) = [] := by
        refine List.filter_eq_nil_iff.mpr fun x hx => ?_
        have hlr := P85.last_range r.c0 r.m0
        have : ¬ (x < 0 ∨ most < x) := by
          rcases probes_mem.mp hx with ⟨a, rfl⟩ | rfl
          · omega
          · have e9 : last c most = P85.last c most := rfl
            rw [e9]
            omega
        rw [decide_eq_false this]
        decide
      rw [e3]
      rfl
    have c1 : tev cf prog.gl (.cmp .Gt (.bf .len (.cons (.lis (.comp [7] (.nm 7) (.loc 7) (.yes (.bool .Or (.cons (.cmp .Lt (.loc 7) (.int 0)) (.cons (.cmp .Gt (.loc 7) (.loc 4)) .nil)))) (.ex (.loc 8)))) .nil)) (.int 0)) (EE sc dr so (.f (I c)) (.f (I most)) (.f (.lst (us.map .int))) kc xc (.f (.lst ((probes c most).map .int))) .u .u (.f (I m)) (.f (I s)) .u .u .u .u) = some false := by
      rw [tev_cmp, ev_bf, evs_cons, ev_lis, e2]
      rfl
    have c2 : tev cf prog.gl (.nott (.call 85 (.cons (.call 97 (.cons (.loc 3) (.cons (.loc 4) (.cons (.loc 11) (.cons (.loc 12) .nil))))) (.cons (.bl true) .nil)))) (EE sc dr so (.f (I c)) (.f (I most)) (.f (.lst (us.map .int))) kc xc (.f (.lst ((probes c most).map .int))) .u .u (.f (I m)) (.f (I s)) .u .u .u .u) = some false := by
      simp [EE, g1, g4]
    have c3 : tev cf prog.gl (.nott (.call 85 (.cons (.call 100 (.cons (.loc 3) (.cons (.loc 4) (.cons (.loc 11) (.cons (.loc 12) .nil))))) (.cons (.bl true) .nil)))) (EE sc dr so (.f (I c)) (.f (I most)) (.f (.lst (us.map .int))) kc xc (.f (.lst ((probes c most).map .int))) .u .u (.f (I m)) (.f (I s)) .u .u .u .u) = some false := by
      simp [EE, g3, g4]
    rw [frz_nil, ex1_ife, tev_or, c1, Option.bind_some, if_neg (by decide), tev_or, c2, Option.bind_some, if_neg (by decide), tev_one, c3]
    rfl
  let B : List D := [.tup [I (m + 1), I s], .tup [I (2 * m), I (s + 1)], .tup [I (2 * m - 1), I (s + 1)], .tup [I (m + c), I s], .tup [I m, I (s + 1)], .tup [I (4 * m), I (s + 2)]]
  refine exs_nx (E' := EE sc dr so (.f (I c)) (.f (I most)) (.f (.lst (us.map .int))) kc xc (.f (.lst ((probes c most).map .int))) (.f (.lst B)) .u (.f (I m)) (.f (I s)) .u .u .u .u) (by simp [EE, B, mm2, mm4]) ?_
  refine DS (B := B) (by simp [B]) ?_ _ _ ?_
  · have key : ∀ (one o : Int), 0 ≤ o → o ≤ 390 → ∃ (a : Int) (b : Nat), D.tup [I one, I o] = .tup [I a, I b] ∧ b ≤ 390 := fun one o h2 h3 => ⟨one, o.toNat, by rw [Int.toNat_of_nonneg h2], by omega⟩
    intro d hd
    simp only [B, List.mem_cons, List.not_mem_nil, or_false] at hd
    rcases hd with rfl | rfl | rfl | rfl | rfl | rfl <;> exact key _ _ (by omega) (by omega)
  intro B2 dn hB2
  obtain ⟨E2, f2, o1, o2, rfl⟩ := forF_inv (t := .tp [.nm 14, .nm 15]) (b := exs cf prog.gl 1000 b109_3) B2
    (fun i E => ∃ o1 o2, E = EE sc dr so (.f (I c)) (.f (I most)) (.f (.lst (us.map .int))) kc xc (.f (.lst ((probes c most).map .int))) (.f (.lst B2)) .u (.f (I m)) (.f (I s)) dn o1 o2 .u) (EE sc dr so (.f (I c)) (.f (I most)) (.f (.lst (us.map .int))) kc xc (.f (.lst ((probes c most).map .int))) (.f (.lst B2)) .u (.f (I m)) (.f (I s)) dn .u .u .u) ⟨_, _, rfl⟩ (by
      rintro i d E hd ⟨o1, o2, rfl⟩
      obtain ⟨one, oth, rfl, ho⟩ := hB2 d (List.mem_of_getElem? hd)
      exact ⟨EE sc dr so (.f (I c)) (.f (I most)) (.f (.lst (us.map .int))) kc xc (.f (.lst ((probes c most).map .int))) (.f (.lst B2)) .u (.f (I m)) (.f (I s)) dn (.f (I one)) (.f (I oth)) .u, EE sc dr so (.f (I c)) (.f (I most)) (.f (.lst (us.map .int))) kc xc (.f (.lst ((probes c most).map .int))) (.f (.lst B2)) .u (.f (I m)) (.f (I s)) dn (.f (I one)) (.f (I oth)) .u, rfl, .inl (BS ho), _, _, rfl⟩)
  refine exs_nx (E' := EE sc dr so (.f (I c)) (.f (I most)) (.f (.lst (us.map .int))) kc xc (.f (.lst ((probes c most).map .int))) (.f (.lst B2)) .u (.f (I m)) (.f (I s)) dn o1 o2 .u) (by rw [frz_nil, ex1_for]; exact f2) ?_
  let WL : List D := [I 16, I 64, I 128, I 256]
  have hWL : ∀ d ∈ WL, ∃ w : Nat, d = I w ∧ w ≤ 390 := by
    intro d hd
    simp only [WL, List.mem_cons, List.not_mem_nil, or_false] at hd
    rcases hd with rfl | rfl | rfl | rfl
    · exact ⟨16, rfl, by omega⟩
    · exact ⟨64, rfl, by omega⟩
    · exact ⟨128, rfl, by omega⟩
    · exact ⟨256, rfl, by omega⟩
  obtain ⟨E3, f3, w1, w2, rfl⟩ := forF_inv (t := .nm 10) (b := exs cf prog.gl 1000 b109_4) WL
    (fun i E => ∃ w1 w2, E = EE sc dr so (.f (I c)) (.f (I most)) (.f (.lst (us.map .int))) kc xc (.f (.lst ((probes c most).map .int))) (.f (.lst B2)) w1 (.f (I m)) (.f (I s)) dn o1 o2 w2) (EE sc dr so (.f (I c)) (.f (I most)) (.f (.lst (us.map .int))) kc xc (.f (.lst ((probes c most).map .int))) (.f (.lst B2)) .u (.f (I m)) (.f (I s)) dn o1 o2 .u) ⟨_, _, rfl⟩ (by
      rintro i d E hd ⟨w1, w2, rfl⟩
      obtain ⟨w, rfl, hw⟩ := hWL d (List.mem_of_getElem? hd)
      obtain ⟨wy, hE⟩ := WS (sc := sc) (dr := dr) (so := so) (tr := .f (.lst (us.map .int))) (k := kc) (x := xc) (pr := .f (.lst ((probes c most).map .int))) (be := .f (.lst B2)) (dn := dn) (one := o1) (oth := o2) (wy := w2) hw
      exact ⟨EE sc dr so (.f (I c)) (.f (I most)) (.f (.lst (us.map .int))) kc xc (.f (.lst ((probes c most).map .int))) (.f (.lst B2)) (.f (I w)) (.f (I m)) (.f (I s)) dn o1 o2 w2, EE sc dr so (.f (I c)) (.f (I most)) (.f (.lst (us.map .int))) kc xc (.f (.lst ((probes c most).map .int))) (.f (.lst B2)) (.f (I w)) (.f (I m)) (.f (I s)) dn o1 o2 wy, rfl, .inl hE, _, _, rfl⟩)
  refine exs_nx (E' := EE sc dr so (.f (I c)) (.f (I most)) (.f (.lst (us.map .int))) kc xc (.f (.lst ((probes c most).map .int))) (.f (.lst B2)) w1 (.f (I m)) (.f (I s)) dn o1 o2 w2) (by rw [frz_nil, ex1_for]; exact f3) ?_
  refine exs_rt ?_
  by_cases z : c ≤ most
  · simp [EE, z]
  · obtain ⟨z1, z2⟩ := g5.resolve_left z
    simp [EE, z, eq_pair, z1, z2]
end Law86

end

section
set_option Elab.async false
set_option linter.all false
set_option autoImplicit false
set_option maxRecDepth 100000
set_option maxHeartbeats 0
namespace Law86
open PySem PySem.Spec PyProof.Rows L2 Vp
theorem k9 : e9.id = 9 ∧ prog.entB PySem.Challenge.rw_fewestfigures_k86_least_pairs_of_great_n.prog e9 = true := ⟨rfl, by decide +kernel⟩
theorem k95 : e95.id = 95 ∧ prog.entB PySem.Challenge.rw_fewestfigures_k86_least_pairs_of_great_n.prog e95 = true := ⟨rfl, by decide +kernel⟩
theorem k96 : e96.id = 96 ∧ prog.entB PySem.Challenge.rw_fewestfigures_k86_least_pairs_of_great_n.prog e96 = true := ⟨rfl, by decide +kernel⟩
theorem k97 : e97.id = 97 ∧ prog.entB PySem.Challenge.rw_fewestfigures_k86_least_pairs_of_great_n.prog e97 = true := ⟨rfl, by decide +kernel⟩
theorem k98 : e98.id = 98 ∧ prog.entB PySem.Challenge.rw_fewestfigures_k86_least_pairs_of_great_n.prog e98 = true := ⟨rfl, by decide +kernel⟩
theorem k99 : e99.id = 99 ∧ prog.entB PySem.Challenge.rw_fewestfigures_k86_least_pairs_of_great_n.prog e99 = true := ⟨rfl, by decide +kernel⟩
theorem k100 : e100.id = 100 ∧ prog.entB PySem.Challenge.rw_fewestfigures_k86_least_pairs_of_great_n.prog e100 = true := ⟨rfl, by decide +kernel⟩
theorem k101 : e101.id = 101 ∧ prog.entB PySem.Challenge.rw_fewestfigures_k86_least_pairs_of_great_n.prog e101 = true := ⟨rfl, by decide +kernel⟩
theorem k102 : e102.id = 102 ∧ prog.entB PySem.Challenge.rw_fewestfigures_k86_least_pairs_of_great_n.prog e102 = true := ⟨rfl, by decide +kernel⟩
theorem k83 : e83.id = 83 ∧ prog.entB PySem.Challenge.rw_fewestfigures_k86_least_pairs_of_great_n.prog e83 = true := ⟨rfl, by decide +kernel⟩
theorem k84 : e84.id = 84 ∧ prog.entB PySem.Challenge.rw_fewestfigures_k86_least_pairs_of_great_n.prog e84 = true := ⟨rfl, by decide +kernel⟩
theorem k85 : e85.id = 85 ∧ prog.entB PySem.Challenge.rw_fewestfigures_k86_least_pairs_of_great_n.prog e85 = true := ⟨rfl, by decide +kernel⟩
theorem k104 : e104.id = 104 ∧ prog.entB PySem.Challenge.rw_fewestfigures_k86_least_pairs_of_great_n.prog e104 = true := ⟨rfl, by decide +kernel⟩
theorem k109 : e109.id = 109 ∧ prog.entB PySem.Challenge.rw_fewestfigures_k86_least_pairs_of_great_n.prog e109 = true := ⟨rfl, by decide +kernel⟩
theorem checks : ∀ e ∈ prog.ents, prog.entB PySem.Challenge.rw_fewestfigures_k86_least_pairs_of_great_n.prog e = true := by
  intro e he
  simp only [prog, List.mem_cons, List.not_mem_nil, or_false] at he
  rcases he with rfl | rfl | rfl | rfl | rfl | rfl | rfl | rfl | rfl | rfl | rfl | rfl | rfl | rfl
  · exact k9.2
  · exact k95.2
  · exact k96.2
  · exact k97.2
  · exact k98.2
  · exact k99.2
  · exact k100.2
  · exact k101.2
  · exact k102.2
  · exact k83.2
  · exact k84.2
  · exact k85.2
  · exact k104.2
  · exact k109.2
abbrev R : PySem.W.OpenRow := PySem.W.OpenLaw.row PySem.Challenge.rw_fewestfigures_k86_least_pairs_of_great_n
abbrev hk : PySem.W.Hook := hookP 18 prog PySem.Challenge.rw_fewestfigures_k86_least_pairs_of_great_n.prog
abbrev ob (s : PySem.W.SharedT) : He.AlD × Bool := obT 18 prog PySem.Challenge.rw_fewestfigures_k86_least_pairs_of_great_n.prog s
theorem run (w : World) : HandSHeadRun.RunEq R (PySem.W.view R.prog [17]) hk ob 4000 (["MOST_SHIFT", "_law_cell", "_law_numbers", "_law_power", "_law_same", "divides", "divides_at", "judge_pair", "least_factor", "least_pair", "power_in", "probes_for", "raised", "way_of"]) w := by
  intro os
  kernel_rfl
end Law86
open PySem PySem.W PySem.Calls PyProof.Rows
theorem PySem.Challenge.cw_fewestfigures_k86_least_pairs_of_great_n_holds : PySem.Challenge.rw_fewestfigures_k86_least_pairs_of_great_n.Holds := by
  w_on; o_law
  refine HandSHeadRun.head_any (r := OpenLaw.row PySem.Challenge.rw_fewestfigures_k86_least_pairs_of_great_n) (q := view (OpenLaw.row PySem.Challenge.rw_fewestfigures_k86_least_pairs_of_great_n).prog [17]) (H := Law86.hk) (ob := Law86.ob) (M := 4000) (loose := (["MOST_SHIFT", "_law_cell", "_law_numbers", "_law_power", "_law_same", "divides", "divides_at", "judge_pair", "least_factor", "least_pair", "power_in", "probes_for", "raised", "way_of"])) (d := HandSHeadRun.topDef (OpenLaw.row PySem.Challenge.rw_fewestfigures_k86_least_pairs_of_great_n).prog 17) (kwd := []) (Vp.obT_eq _ _ _)
    (by kernel_rfl) (fun s => by kernel_rfl) Law86.run (by kernel_rfl) (by kernel_rfl) (by kernel_rfl) (by rfl) (by first | assumption | decide +kernel) (by decide +kernel) ⟨rfl, rfl, rfl, rfl, rfl, by decide +kernel⟩ ?hw ?hc
  case hw => w_witness2
  case hc =>
    exact Vp.walkP (l := PySem.Challenge.rw_fewestfigures_k86_least_pairs_of_great_n) (k := 30) Law86.prog Law86.e109 rfl (by kernel_rfl) ⟨rfl, by decide, by decide⟩ Law86.checks (by simp [Law86.prog]) rfl (by kernel_rfl) (by kernel_rfl) Law86.law_true

end
