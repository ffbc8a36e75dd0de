import PyProof.Rows.All
import Wide.All
import OpenK.AllK
import Wide.FinOn
import HandS.ForMost
import HandS.More
import HandS.Wide
import HandS.WideBits
import HandS.Deep
import HandS.Style
import HandS.IsInst
import HandS.Gcd
import HandS.SortInts
import HandS.Zip
import HandS.Defaults
import HandS.Rev
import HandS.Conv
import HandS.ListItems
import KE.KDictZip
import KE.KItemsList
import HandS.Text
import HandS.FStr
import HandS.Replace
import HandS.Head0
import HandS.Head1
import HandS.Head2
import HandS.HeadEnd
import HandS.HeadHook1
import HandS.HeadHook2
import KE.KStateDown
import Lean
import HandS.Base
import HandS.Call
import HandS.Ends
import HandS.Words
import HandS.WordsExc
import HandS.Head3
import PySem.Challenge.RW_fewestfigures_k92_whole_totals_kept_exac

section
set_option Elab.async false
set_option linter.all false
set_option autoImplicit false
set_option maxRecDepth 100000
/-! Vp1: plain data trees D for Python values, how they lie in the abstract heap (Rep), and the frame's cells (ER). -/
namespace Vp
open PySem PySem.Spec PyProof.Rows L2

/-- a value without addresses; fls: a list that is read only (the script) -/
inductive D where
  | non | bl (b : Bool) | int (i : Int) | str (x : Str) | lst (xs : List D) | tup (xs : List D) | fls (xs : List D) | dic (kvs : List (Key × D))

mutual
def D.py : D → PyData
  | .non => .none
  | .bl b => .bool b
  | .int i => .int i
  | .str x => .str x
  | .lst xs => .list (D.pys xs)
  | .tup xs => .tuple (D.pys xs)
  | .fls xs => .list (D.pys xs)
  | .dic _ => .dict []
def D.pys : List D → List PyData
  | [] => []
  | x :: xs => x.py :: D.pys xs
end

mutual
inductive Rep (K : PySem.W.Frag) (H : Hp) : V → D → Prop
  | non : Rep K H .non .non
  | bl (b : Bool) : Rep K H (.bl b) (.bl b)
  | int (i : Int) : Rep K H (.int i) (.int i)
  | str (x : Str) : Rep K H (.str x) (.str x)
  | lst {a : Addr} {xs : List V} {ds : List D} : H a = some (.lst xs) → RepA K H xs ds → Rep K H (.ref a) (.lst ds)
  | tup {a : Addr} {xs : List V} {ds : List D} : SqT K H a xs → RepA K H xs ds → Rep K H (.ref a) (.tup ds)
  | fls {a : Addr} {xs : List V} {ds : List D} : SqL K H a xs → RepA K H xs ds → Rep K H (.ref a) (.fls ds)
  | dic {a : Addr} {kv : List (Key × V)} {kd : List (Key × D)} : Rd H a (.dK kv) → RepK K H kv kd → Rep K H (.ref a) (.dic kd)
inductive RepA (K : PySem.W.Frag) (H : Hp) : List V → List D → Prop
  | nil : RepA K H [] []
  | cons {v : V} {vs : List V} {d : D} {ds : List D} : Rep K H v d → RepA K H vs ds → RepA K H (v :: vs) (d :: ds)
inductive RepK (K : PySem.W.Frag) (H : Hp) : List (Key × V) → List (Key × D) → Prop
  | nil : RepK K H [] []
  | cons {k : Key} {v : V} {kv : List (Key × V)} {d : D} {kd : List (Key × D)} : Rep K H v d → RepK K H kv kd → RepK K H ((k, v) :: kv) ((k, d) :: kd)
end

theorem same_seqT {K : PySem.W.Frag} {H H' : Hp} {a : Addr} {xs : List V} (e : Same H H') (h : SqT K H a xs) : SqT K H' a xs := by
  rcases h with (h | ⟨o, h⟩) | h
  · exact .inl (.inl (e _ _ h))
  · exact .inl (.inr ⟨o, e _ _ h⟩)
  · exact .inr h

theorem rd_same {H H' : Hp} {a : Addr} {u : HO} (s : Same H H') (h : Rd H a u) : Rd H' a u := h.elim (fun h => .inl (s _ _ h)) fun ⟨o, h⟩ => .inr ⟨o, s _ _ h⟩
section
variable {K : PySem.W.Frag} {H H' : Hp}
mutual
theorem Rep.mono (s : Same H H') : ∀ {v : V} {d : D}, Rep K H v d → Rep K H' v d
  | _, _, .non => .non
  | _, _, .bl b => .bl b
  | _, _, .int i => .int i
  | _, _, .str x => .str x
  | _, _, .lst h r => .lst (s _ _ h) (RepA.mono s r)
  | _, _, .tup h r => .tup (same_seqT s h) (RepA.mono s r)
  | _, _, .fls h r => .fls (s.seq h) (RepA.mono s r)
  | _, _, .dic h r => .dic (rd_same s h) (RepK.mono s r)
theorem RepA.mono (s : Same H H') : ∀ {vs : List V} {ds : List D}, RepA K H vs ds → RepA K H' vs ds
  | _, _, .nil => .nil
  | _, _, .cons h r => .cons (Rep.mono s h) (RepA.mono s r)
theorem RepK.mono (s : Same H H') : ∀ {vs : List (Key × V)} {ds : List (Key × D)}, RepK K H vs ds → RepK K H' vs ds
  | _, _, .nil => .nil
  | _, _, .cons h r => .cons (Rep.mono s h) (RepK.mono s r)
end
theorem RepA.length : ∀ {vs : List V} {ds : List D}, RepA K H vs ds → vs.length = ds.length
  | _, _, .nil => rfl
  | _, _, .cons _ r => congrArg (· + 1) (RepA.length r)
theorem RepA.get : ∀ {vs : List V} {ds : List D} {i : Nat} {d : D}, RepA K H vs ds → ds[i]? = some d → ∃ v, vs[i]? = some v ∧ Rep K H v d
  | _, _, _, _, .nil, e => by simp at e
  | _, _, 0, _, .cons h _, e => by
    simp only [List.getElem?_cons_zero, Option.some.injEq] at e
    subst e
    exact ⟨_, rfl, h⟩
  | _, _, i + 1, _, .cons _ r, e => by
    simp only [List.getElem?_cons_succ] at e ⊢
    exact RepA.get r e
theorem RepA.append : ∀ {vs ws : List V} {ds es : List D}, RepA K H vs ds → RepA K H ws es → RepA K H (vs ++ ws) (ds ++ es)
  | _, _, _, _, .nil, q => q
  | _, _, _, _, .cons h r, q => .cons h (RepA.append r q)
theorem RepA.one {v : V} {d : D} (h : Rep K H v d) : RepA K H [v] [d] := .cons h .nil
theorem RepA.take : ∀ {vs : List V} {ds : List D} (n : Nat), RepA K H vs ds → RepA K H (vs.take n) (ds.take n)
  | _, _, 0, _ => .nil
  | _, _, _ + 1, .nil => .nil
  | _, _, n + 1, .cons h r => .cons h (RepA.take n r)
theorem RepA.drop : ∀ {vs : List V} {ds : List D} (n : Nat), RepA K H vs ds → RepA K H (vs.drop n) (ds.drop n)
  | _, _, 0, r => r
  | _, _, _ + 1, .nil => .nil
  | _, _, n + 1, .cons _ r => RepA.drop n r
theorem RepA.set {v : V} {d : D} (h : Rep K H v d) : ∀ {vs : List V} {ds : List D} (i : Nat), RepA K H vs ds → RepA K H (vs.set i v) (ds.set i d)
  | _, _, _, .nil => .nil
  | _, _, 0, .cons _ r => .cons h r
  | _, _, i + 1, .cons q r => .cons q (RepA.set h i r)
theorem RepA.rep {vs : List V} {ds : List D} (r : RepA K H vs ds) : ∀ k : Nat, RepA K H (List.replicate k vs).flatten (List.replicate k ds).flatten
  | 0 => .nil
  | k + 1 => by
    rw [List.replicate_succ, List.replicate_succ, List.flatten_cons, List.flatten_cons]
    exact r.append (RepA.rep r k)
theorem RepA.reverse : ∀ {vs : List V} {ds : List D}, RepA K H vs ds → RepA K H vs.reverse ds.reverse
  | _, _, .nil => .nil
  | _, _, .cons h r => by
    rw [List.reverse_cons, List.reverse_cons]
    exact (RepA.reverse r).append (.one h)
theorem RepA.ints : ∀ {ns : List Int} {vs : List V}, RepA K H vs (ns.map D.int) → vs = ns.map V.int
  | [], _, .nil => rfl
  | n :: ns, _, r => by
    cases r with
    | cons h r =>
      cases h
      rw [RepA.ints r]
      rfl
theorem RepA.of_ints : ∀ (ns : List Int), RepA K H (ns.map V.int) (ns.map D.int)
  | [] => .nil
  | n :: ns => .cons (.int n) (RepA.of_ints ns)
theorem RepA.strs : ∀ {ns : List Str} {vs : List V}, RepA K H vs (ns.map D.str) → vs = ns.map V.str
  | [], _, .nil => rfl
  | n :: ns, _, r => by
    cases r with
    | cons h r =>
      cases h
      rw [RepA.strs r]
      rfl
theorem RepA.of_strs : ∀ (ns : List Str), RepA K H (ns.map V.str) (ns.map D.str)
  | [] => .nil
  | n :: ns => .cons (.str n) (RepA.of_strs ns)
theorem RepA.bls : ∀ {ns : List Bool} {vs : List V}, RepA K H vs (ns.map D.bl) → vs = ns.map V.bl
  | [], _, .nil => rfl
  | n :: ns, _, r => by
    cases r with
    | cons h r =>
      cases h
      rw [RepA.bls r]
      rfl
mutual
theorem Rep.dp : ∀ {v : V} {d : D}, Rep K H v d → d.py.canLay0 = true → Dp K H v d.py
  | _, _, .non, _ => .non
  | _, _, .bl b, _ => .bl b
  | _, _, .int i, _ => .int i
  | _, _, .str x, _ => .str x
  | _, _, .lst h r, c => .lst (.inl (.inl h)) (RepA.dp r (by simpa only [D.py, PyData.canLay0] using c))
  | _, _, .tup h r, c => .tup h (RepA.dp r (by simpa only [D.py, PyData.canLay0] using c))
  | _, _, .fls h r, c => .lst h (RepA.dp r (by simpa only [D.py, PyData.canLay0] using c))
  | _, _, .dic h r, c => by simp only [D.py, PyData.canLay0] at c; cases c
theorem RepA.dp : ∀ {vs : List V} {ds : List D}, RepA K H vs ds → PyData.canLayAll0 (D.pys ds) = true → DpAll K H vs (D.pys ds)
  | _, _, .nil, _ => .nil
  | _, _, .cons h r, c => by
    simp only [D.pys, PyData.canLayAll0, Bool.and_eq_true] at c
    exact .cons (Rep.dp h c.1) (RepA.dp r c.2)
end
end

/-- the heap without the addresses A -/
def mask (A : List Addr) (H : Hp) : Hp := fun a => if a ∈ A then none else H a
theorem mask_some {A : List Addr} {H : Hp} {a : Addr} {o : HO} : mask A H a = some o ↔ a ∉ A ∧ H a = some o := by
  unfold mask
  split <;> simp_all
theorem mask_same {A : List Addr} {H H' : Hp} (s : Same H H') : Same (mask A H) (mask A H') := fun a o e => by
  rw [mask_some] at e ⊢
  exact ⟨e.1, s _ _ e.2⟩
theorem mask_le (A : List Addr) (H : Hp) : Same (mask A H) H := fun a o e => (mask_some.mp e).2
theorem mask_sub {A B : List Addr} (h : ∀ a ∈ B, a ∈ A) (H : Hp) : Same (mask A H) (mask B H) := fun a o e => by
  rw [mask_some] at e ⊢
  exact ⟨fun z => e.1 (h a z), e.2⟩
theorem mask_nil (H : Hp) : mask [] H = H := by
  funext a
  simp [mask]
theorem mask_upd {A : List Addr} {H : Hp} {p : Addr} {o : HO} (h : p ∈ A) : mask A (upd H p o) = mask A H := by
  funext a
  unfold mask
  split
  · rfl
  · rename_i hn
    rw [upd_ne (by rintro rfl; exact hn h)]
theorem mask_new {A : List Addr} {H H' : Hp} {p : Addr} (s : Same H H') (h : H p = none) : Same (mask A H) (mask (p :: A) H') := fun a o e => by
  rw [mask_some] at e ⊢
  refine ⟨fun z => ?_, s _ _ e.2⟩
  rcases List.mem_cons.mp z with rfl | z
  · rw [h] at e
    cases e.2
  · exact e.1 z
theorem same_upd {H : Hp} {p : Addr} {o : HO} (h : H p = none) : Same H (upd H p o) := fun b x e => by
  rw [upd_ne (ne_of_none e h)]
  exact e

/-- a slot: not set; a value; a list of the def's own that nobody else holds -/
inductive Cell where
  | u | f (d : D) | o (ds : List D)

abbrev Env' := List Cell

/-- the frame: L the addresses of the lists that are its own, A all addresses that values must not reach -/
structure ER (K : PySem.W.Frag) (L A : List Addr) (σ : L2.St) (H : Hp) (E : Env') : Prop where
  len : σ.length = E.length
  dom : ∀ a ∈ A, H a ≠ none
  sub : ∀ a ∈ L, a ∈ A
  val : ∀ (i : Nat) (d : D), E[i]? = some (.f d) → ∃ v, σ[i]? = some (some v) ∧ Rep K (mask A H) v d
  own : ∀ (i : Nat) (ds : List D), E[i]? = some (.o ds) → ∃ p vs, σ[i]? = some (some (.ref p)) ∧ p ∈ L ∧ H p = some (.lst vs) ∧ RepA K (mask A H) vs ds
  sep : ∀ (i j : Nat) (ds es : List D) (p : Addr), E[i]? = some (.o ds) → E[j]? = some (.o es) → σ[i]? = some (some (.ref p)) → σ[j]? = some (some (.ref p)) → i = j

section
variable {K : PySem.W.Frag} {L A : List Addr} {σ : L2.St} {H H' : Hp} {E : Env'}
theorem ER.mono (r : ER K L A σ H E) (s : Same H H') : ER K L A σ H' E where
  len := r.len
  dom := fun a ha z => r.dom a ha (s.free z)
  sub := r.sub
  val := fun i d e => by
    obtain ⟨v, h1, h2⟩ := r.val i d e
    exact ⟨v, h1, h2.mono (mask_same s)⟩
  own := fun i ds e => by
    obtain ⟨p, vs, h1, h2, h3, h4⟩ := r.own i ds e
    exact ⟨p, vs, h1, h2, s _ _ h3, h4.mono (mask_same s)⟩
  sep := r.sep
theorem ER.set (r : ER K L A σ H E) {i : Nat} {v : V} {d : D} (h : Rep K (mask A H) v d) : ER K L A (σ.set i (some v)) H (E.set i (.f d)) where
  len := by rw [List.length_set, List.length_set, r.len]
  dom := r.dom
  sub := r.sub
  val := fun j d' e => by
    by_cases hj : i = j
    · subst hj
      by_cases hi : i < E.length
      · rw [List.getElem?_set_self hi] at e
        cases e
        exact ⟨v, List.getElem?_set_self (by rw [r.len]; exact hi), h⟩
      · rw [List.getElem?_eq_none (by rw [List.length_set]; omega)] at e
        cases e
    · rw [List.getElem?_set_ne hj] at e ⊢
      exact r.val j d' e
  own := fun j ds e => by
    by_cases hj : i = j
    · subst hj
      by_cases hi : i < E.length
      · rw [List.getElem?_set_self hi] at e
        cases e
      · rw [List.getElem?_eq_none (by rw [List.length_set]; omega)] at e
        cases e
    · rw [List.getElem?_set_ne hj] at e ⊢
      exact r.own j ds e
  sep := fun j k ds es p e1 e2 => by
    have nj : ∀ {j : Nat} {ds : List D}, (E.set i (.f d))[j]? = some (.o ds) → i ≠ j := fun {j ds} e z => by
      subst z
      by_cases hi : i < E.length
      · rw [List.getElem?_set_self hi] at e
        cases e
      · rw [List.getElem?_eq_none (by rw [List.length_set]; omega)] at e
        cases e
    have hj := nj e1
    have hk := nj e2
    rw [List.getElem?_set_ne hj] at e1 ⊢
    rw [List.getElem?_set_ne hk] at e2 ⊢
    exact r.sep j k ds es p e1 e2
/-- a new list of one's own -/
theorem ER.setO (r : ER K L A σ H E) (s : Same H H') {i : Nat} {p : Addr} {vs : List V} {ds : List D} (hp : H p = none) (hp' : H' p = some (.lst vs)) (h : RepA K (mask (p :: A) H') vs ds) :
    ER K (p :: L) (p :: A) (σ.set i (some (.ref p))) H' (E.set i (.o ds)) where
  len := by rw [List.length_set, List.length_set, r.len]
  dom := fun a ha => by
    rcases List.mem_cons.mp ha with rfl | ha
    · rw [hp']
      simp
    · exact fun z => r.dom a ha (s.free z)
  sub := fun a ha => by
    rcases List.mem_cons.mp ha with rfl | ha
    · exact List.mem_cons_self
    · exact List.mem_cons_of_mem _ (r.sub a ha)
  val := fun j d' e => by
    by_cases hj : i = j
    · subst hj
      by_cases hi : i < E.length
      · rw [List.getElem?_set_self hi] at e
        cases e
      · rw [List.getElem?_eq_none (by rw [List.length_set]; omega)] at e
        cases e
    · rw [List.getElem?_set_ne hj] at e ⊢
      obtain ⟨v, h1, h2⟩ := r.val j d' e
      exact ⟨v, h1, h2.mono (mask_new s hp)⟩
  own := fun j ds' e => by
    by_cases hj : i = j
    · subst hj
      by_cases hi : i < E.length
      · rw [List.getElem?_set_self hi] at e
        cases e
        exact ⟨p, vs, List.getElem?_set_self (by rw [r.len]; exact hi), List.mem_cons_self, hp', h⟩
      · rw [List.getElem?_eq_none (by rw [List.length_set]; omega)] at e
        cases e
    · rw [List.getElem?_set_ne hj] at e ⊢
      obtain ⟨q, ws, h1, h2, h3, h4⟩ := r.own j ds' e
      exact ⟨q, ws, h1, List.mem_cons_of_mem _ h2, s _ _ h3, h4.mono (mask_new s hp)⟩
  sep := fun j k ds1 es q e1 e2 f1 f2 => by
    have old : ∀ {j : Nat} {ds1 : List D}, i ≠ j → (E.set i (.o ds))[j]? = some (.o ds1) → (σ.set i (some (.ref p)))[j]? = some (some (.ref q)) → q ≠ p := fun {j ds1} hj e f z => by
      rw [List.getElem?_set_ne hj] at e f
      obtain ⟨q', ws, h1, _, h3, _⟩ := r.own j ds1 e
      rw [f] at h1
      cases h1
      rw [z, hp] at h3
      cases h3
    have new : ∀ {j : Nat} {ds1 : List D}, i = j → (E.set i (.o ds))[j]? = some (.o ds1) → (σ.set i (some (.ref p)))[j]? = some (some (.ref q)) → q = p := fun {j ds1} hj e f => by
      subst hj
      by_cases hi : i < E.length
      · rw [List.getElem?_set_self (by rw [r.len]; exact hi)] at f
        cases f
        rfl
      · rw [List.getElem?_eq_none (by rw [List.length_set]; omega)] at e
        cases e
    by_cases hj : i = j
    · by_cases hk : i = k
      · omega
      · exact absurd (new hj e1 f1) (old hk e2 f2)
    · by_cases hk : i = k
      · exact absurd (new hk e2 f2) (old hj e1 f1)
      · rw [List.getElem?_set_ne hj] at e1 f1
        rw [List.getElem?_set_ne hk] at e2 f2
        exact r.sep j k ds1 es q e1 e2 f1 f2
/-- a list of one's own is changed -/
theorem ER.upd (r : ER K L A σ H E) {i : Nat} {p : Addr} {vs : List V} {ds ds' : List D} (he : E[i]? = some (.o ds)) (hs : σ[i]? = some (some (.ref p))) (hp : p ∈ L) (h : RepA K (mask A H) vs ds') :
    ER K L A σ (L2.upd H p (.lst vs)) (E.set i (.o ds')) := by
  have em : mask A (L2.upd H p (.lst vs)) = mask A H := mask_upd (r.sub p hp)
  have hi : i < E.length := (List.getElem?_eq_some_iff.mp he).1
  refine ⟨by rw [List.length_set]; exact r.len, fun a ha => ?_, r.sub, fun j d' e => ?_, fun j ds1 e => ?_, fun j k ds1 es q e1 e2 f1 f2 => ?_⟩
  · by_cases hap : a = p
    · subst hap
      rw [upd_same]
      simp
    · rw [upd_ne hap]
      exact r.dom a ha
  · by_cases hj : i = j
    · subst hj
      rw [List.getElem?_set_self hi] at e
      cases e
    · rw [List.getElem?_set_ne hj] at e
      rw [em]
      exact r.val j d' e
  · rw [em]
    by_cases hj : i = j
    · subst hj
      rw [List.getElem?_set_self hi] at e
      cases e
      exact ⟨p, vs, hs, hp, upd_same, h⟩
    · rw [List.getElem?_set_ne hj] at e
      obtain ⟨q, ws, h1, h2, h3, h4⟩ := r.own j ds1 e
      have hq : q ≠ p := by
        rintro rfl
        exact hj (r.sep i j ds ds1 q he e hs h1)
      exact ⟨q, ws, h1, h2, by rw [upd_ne hq]; exact h3, h4⟩
  · have old : ∀ {j : Nat} {ds1 : List D}, (E.set i (.o ds'))[j]? = some (.o ds1) → ∃ ds2, E[j]? = some (.o ds2) := fun {j ds1} e => by
      by_cases hj : i = j
      · subst hj
        exact ⟨_, he⟩
      · rw [List.getElem?_set_ne hj] at e
        exact ⟨_, e⟩
    obtain ⟨_, g1⟩ := old e1
    obtain ⟨_, g2⟩ := old e2
    exact r.sep j k _ _ q g1 g2 f1 f2
/-- a list of one's own becomes a value -/
theorem ER.freeze (r : ER K L A σ H E) {i : Nat} {ds : List D} (he : E[i]? = some (.o ds)) :
    ∃ p, p ∈ L ∧ ER K (L.filter (· ≠ p)) (A.filter (· ≠ p)) σ H (E.set i (.f (.lst ds))) := by
  obtain ⟨p, vs, hs, hp, hH, hr⟩ := r.own i ds he
  have hi : i < E.length := (List.getElem?_eq_some_iff.mp he).1
  have mA : ∀ {a : Addr}, a ∈ A.filter (· ≠ p) ↔ a ∈ A ∧ a ≠ p := fun {a} => by simp [List.mem_filter]
  have mL : ∀ {a : Addr}, a ∈ L.filter (· ≠ p) ↔ a ∈ L ∧ a ≠ p := fun {a} => by simp [List.mem_filter]
  have hs' : Same (mask A H) (mask (A.filter (· ≠ p)) H) := mask_sub (fun a ha => (mA.mp ha).1) H
  refine ⟨p, hp, by rw [List.length_set]; exact r.len, fun a ha => r.dom a (mA.mp ha).1, fun a ha => mA.mpr ⟨r.sub a (mL.mp ha).1, (mL.mp ha).2⟩, fun j d' e => ?_, fun j ds1 e => ?_, fun j k ds1 es q e1 e2 f1 f2 => ?_⟩
  · by_cases hj : i = j
    · subst hj
      rw [List.getElem?_set_self hi] at e
      cases e
      refine ⟨_, hs, .lst (mask_some.mpr ⟨fun z => (mA.mp z).2 rfl, hH⟩) (hr.mono hs')⟩
    · rw [List.getElem?_set_ne hj] at e
      obtain ⟨v, h1, h2⟩ := r.val j d' e
      exact ⟨v, h1, h2.mono hs'⟩
  · by_cases hj : i = j
    · subst hj
      rw [List.getElem?_set_self hi] at e
      cases e
    · rw [List.getElem?_set_ne hj] at e
      obtain ⟨q, ws, h1, h2, h3, h4⟩ := r.own j ds1 e
      refine ⟨q, ws, h1, mL.mpr ⟨h2, ?_⟩, h3, h4.mono hs'⟩
      rintro rfl
      exact hj (r.sep i j ds ds1 q he e hs h1)
  · have old : ∀ {j : Nat} {ds1 : List D}, (E.set i (.f (.lst ds)))[j]? = some (.o ds1) → E[j]? = some (.o ds1) := fun {j ds1} e => by
      by_cases hj : i = j
      · subst hj
        rw [List.getElem?_set_self hi] at e
        cases e
      · rw [List.getElem?_set_ne hj] at e
        exact e
    exact r.sep j k _ _ q (old e1) (old e2) f1 f2
/-- slots forgotten -/
def wipeE (E : Env') : List Nat → Env'
  | [] => E
  | v :: vs => (wipeE E vs).set v .u
theorem ER.wipe (r : ER K L A σ H E) : ∀ vs : List Nat, ER K L A (L2.wipe σ vs) H (wipeE E vs)
  | [] => r
  | v :: vs => by
    have q := ER.wipe r vs
    unfold L2.wipe wipeE
    have other : ∀ {j : Nat} {c : Cell}, c ≠ .u → ((wipeE E vs).set v .u)[j]? = some c → v ≠ j ∧ (wipeE E vs)[j]? = some c := fun {j c} hc e => by
      by_cases hj : v = j
      · subst hj
        by_cases hi : v < (wipeE E vs).length
        · rw [List.getElem?_set_self hi] at e
          exact absurd (Option.some.inj e).symm hc
        · rw [List.getElem?_eq_none (by rw [List.length_set]; omega)] at e
          cases e
      · rw [List.getElem?_set_ne hj] at e
        exact ⟨hj, e⟩
    refine ⟨by rw [List.length_set, List.length_set]; exact q.len, q.dom, q.sub, fun j d e => ?_, fun j ds e => ?_, fun j k ds es p e1 e2 f1 f2 => ?_⟩
    · obtain ⟨hj, e⟩ := other (by simp) e
      rw [List.getElem?_set_ne hj]
      exact q.val j d e
    · obtain ⟨hj, e⟩ := other (by simp) e
      rw [List.getElem?_set_ne hj]
      exact q.own j ds e
    · obtain ⟨hj, e1⟩ := other (by simp) e1
      obtain ⟨hk, e2⟩ := other (by simp) e2
      rw [List.getElem?_set_ne hj] at f1
      rw [List.getElem?_set_ne hk] at f2
      exact q.sep j k ds es p e1 e2 f1 f2
/-- another address is masked that no value reaches: a new one -/
theorem ER.more (r : ER K L A σ H E) (s : Same H H') {p : Addr} (hp : H p = none) (hp' : H' p ≠ none) : ER K L (p :: A) σ H' E where
  len := r.len
  dom := fun a ha => by
    rcases List.mem_cons.mp ha with rfl | ha
    · exact hp'
    · exact fun z => r.dom a ha (s.free z)
  sub := fun a ha => List.mem_cons_of_mem _ (r.sub a ha)
  val := fun i d e => by
    obtain ⟨v, h1, h2⟩ := r.val i d e
    exact ⟨v, h1, h2.mono (mask_new s hp)⟩
  own := fun i ds e => by
    obtain ⟨p, vs, h1, h2, h3, h4⟩ := r.own i ds e
    exact ⟨p, vs, h1, h2, s _ _ h3, h4.mono (mask_new s hp)⟩
  sep := r.sep
end
end Vp

end

section
set_option Elab.async false
set_option linter.all false
set_option autoImplicit false
set_option maxRecDepth 100000
/-! Vp2: readings by data, operators. -/
namespace Vp
open PySem PySem.Spec PyProof.Rows L2

abbrev lineN : Nat := 16777216
theorem le_line {n : Nat} (h : n ≤ lineN) : n ≤ sizeLine := by rw [sizeLine_eq]; exact h

/-- what follows a value d that lies apart from A -/
def Post (K : PySem.W.Frag) (A : List Addr) (H : Hp) (d : D) (Q : VK) : Prop := ∀ v H', Same H H' → Rep K (mask A H') v d → Q v H'
/-- .. a new list, its items apart from A and from itself -/
def PostO (K : PySem.W.Frag) (A : List Addr) (H : Hp) (ds : List D) (Q : VK) : Prop := ∀ p vs H', Same H H' → H p = none → H' p = some (.lst vs) → RepA K (mask (p :: A) H') vs ds → Q (.ref p) H'
def Dom (A : List Addr) (H : Hp) : Prop := ∀ a ∈ A, H a ≠ none
theorem Dom.mono {A : List Addr} {H H' : Hp} (h : Dom A H) (s : Same H H') : Dom A H' := fun a ha z => h a ha (s.free z)
theorem Dom.new {A : List Addr} {H : Hp} {p : Addr} (h : Dom A H) (hp : H p = none) : p ∉ A := fun z => h p z hp

def rdE (K : PySem.W.Frag) (f : Env' → Option D) : TE := fun σ H Q => ∃ L A E d, ER K L A σ H E ∧ f E = some d ∧ Post K A H d Q
def rdO (K : PySem.W.Frag) (f : Env' → Option (List D)) : TE := fun σ H Q => ∃ L A E ds, ER K L A σ H E ∧ f E = some ds ∧ PostO K A H ds Q
def rdT (K : PySem.W.Frag) (f : Env' → Option Bool) : TT := fun σ H Q => ∃ L A E b, ER K L A σ H E ∧ f E = some b ∧ ∀ H', Same H H' → Q b H'
def rdA (K : PySem.W.Frag) (f : Env' → Option (List D)) : TA := fun σ H Q => ∃ L A E ds, ER K L A σ H E ∧ f E = some ds ∧ ∀ vs H', Same H H' → RepA K (mask A H') vs ds → Q vs H'

section
variable {K : PySem.W.Frag} {A : List Addr} {H H' : Hp} {Q : VK} {d : D} {ds : List D}
theorem Post.mono (h : Post K A H d Q) (s : Same H H') : Post K A H' d Q := fun v H2 s2 r => h v H2 (s.trans s2) r
theorem PostO.mono (h : PostO K A H ds Q) (s : Same H H') : PostO K A H' ds Q := fun p vs H2 s2 e1 e2 r => h p vs H2 (s.trans s2) (s.free e1) e2 r
theorem Post.now (h : Post K A H d Q) {v : V} (r : Rep K (mask A H) v d) : Q v H := h v H (Same.refl H) r
/-- a new list is a value -/
theorem Post.ofO (h : Post K A H (.lst ds) Q) (hd : Dom A H) : PostO K A H ds Q := fun p vs H2 s e1 e2 r =>
  h _ H2 s (.lst (mask_some.mpr ⟨hd.new e1, e2⟩) (r.mono (mask_sub (fun a ha => List.mem_cons_of_mem _ ha) H2)))
theorem PostO.now (h : PostO K A H ds Q) {vs : List V} (r : RepA K (mask A H) vs ds) {p : Addr} (hp : H p = none) : Q (.ref p) (upd H p (.lst vs)) :=
  h p vs _ (same_upd hp) hp upd_same (r.mono (mask_new (same_upd hp) hp))
theorem Post.newT (h : Post K A H (.tup ds) Q) (hd : Dom A H) {vs : List V} (r : RepA K (mask A H) vs ds) {p : Addr} (hp : H p = none) : Q (.ref p) (upd H p (.tup vs)) :=
  h _ _ (same_upd hp) (.tup (.inl (.inl (mask_some.mpr ⟨hd.new hp, upd_same⟩))) (r.mono (mask_same (same_upd hp))))
theorem RepA.o (r : RepA K (mask A H) [] ds) : ds = [] := by
  cases r
  rfl
end

section
variable {X : Cx} {e a b c : Expr} {pos : Pos}
theorem pe_imp {t t' : TE} (h : PE X e t) (i : ∀ σ H Q, t' σ H Q → t σ H Q) : PE X e t' := ⟨fun pins s σ H Q I w => h.run pins s σ H Q I (i _ _ _ w)⟩
theorem pt_imp {t t' : TT} (h : PT X e t) (i : ∀ σ H Q, t' σ H Q → t σ H Q) : PT X e t' := ⟨fun pins s σ H Q I w => h.run pins s σ H Q I (i _ _ _ w)⟩
theorem pw_imp {t t' : TT} (h : PW X e t) (i : ∀ σ H Q, t' σ H Q → t σ H Q) : PW X e t' := ⟨fun wh pins s σ H Q I w => h.run wh pins s σ H Q I (i _ _ _ w)⟩
theorem pa_imp {es : List Expr} {t t' : TA} (h : PA X es t) (i : ∀ σ H Q, t' σ H Q → t σ H Q) : PA X es t' := ⟨fun ps pins s σ H Q I w => h.run ps pins s σ H Q I (i _ _ _ w)⟩
theorem ps_imp {st : Stmt} {t t' : TS} (h : PS X st t) (i : ∀ D σ H, t' D σ H → t D σ H) : PS X st t' := ⟨fun pins s σ H D I w => h.run pins s σ H D I (i _ _ _ w)⟩
theorem pss_imp {st : List Stmt} {t t' : TS} (h : PSs X st t) (i : ∀ D σ H, t' D σ H → t D σ H) : PSs X st t' := ⟨fun pins s σ H D I w => h.run pins s σ H D I (i _ _ _ w)⟩

/-- what a rule for two values is to give -/
def rD2 (K : PySem.W.Frag) (g : D → D → Option D) : R2 := fun x y H Q => ∃ A a b d, Dom A H ∧ Rep K (mask A H) x a ∧ Rep K (mask A H) y b ∧ g a b = some d ∧ Post K A H d Q
def rD2o (K : PySem.W.Frag) (g : D → D → Option (List D)) : R2 := fun x y H Q => ∃ A a b ds, Dom A H ∧ Rep K (mask A H) x a ∧ Rep K (mask A H) y b ∧ g a b = some ds ∧ PostO K A H ds Q
def rD1 (K : PySem.W.Frag) (g : D → Option D) : V → Hp → VK → Prop := fun x H Q => ∃ A a d, Dom A H ∧ Rep K (mask A H) x a ∧ g a = some d ∧ Post K A H d Q
def rDA (K : PySem.W.Frag) (g : List D → Option D) : List V → Hp → VK → Prop := fun vs H Q => ∃ A ds d, Dom A H ∧ RepA K (mask A H) vs ds ∧ g ds = some d ∧ Post K A H d Q
def rDAo (K : PySem.W.Frag) (g : List D → Option (List D)) : List V → Hp → VK → Prop := fun vs H Q => ∃ A ds d, Dom A H ∧ RepA K (mask A H) vs ds ∧ g ds = some d ∧ PostO K A H d Q
theorem OpR.imp {f : Value → Value → Sem Value} {r r' : R2} (h : OpR X f r) (i : ∀ x y H Q, r' x y H Q → r x y H Q) : OpR X f r' := fun pins s σ H x y v u Q I rx ry w => h pins s σ H x y v u Q I rx ry (i _ _ _ _ w)

def ap2 (g : D → D → Option D) (fa fb : Env' → Option D) (E : Env') : Option D := (fa E).bind fun x => (fb E).bind fun y => g x y
def ap2o (g : D → D → Option (List D)) (fa fb : Env' → Option D) (E : Env') : Option (List D) := (fa E).bind fun x => (fb E).bind fun y => g x y
def ap1 (g : D → Option D) (fa : Env' → Option D) (E : Env') : Option D := (fa E).bind g
theorem rd_op {g : D → D → Option D} {fa fb : Env' → Option D} : ∀ σ H Q, rdE X.K (ap2 g fa fb) σ H Q → tOp (rD2 X.K g) (rdE X.K fa) (rdE X.K fb) σ H Q := by
  rintro σ H Q ⟨L, A, E, d, er, h, k⟩
  obtain ⟨x, hx, h⟩ := Option.bind_eq_some_iff.mp h
  obtain ⟨y, hy, h⟩ := Option.bind_eq_some_iff.mp h
  refine ⟨L, A, E, x, er, hx, fun v H1 s1 r1 => ⟨L, A, E, y, er.mono s1, hy, fun w H2 s2 r2 => ?_⟩⟩
  exact ⟨A, x, y, d, ((er.mono s1).mono s2).dom, r1.mono (mask_same s2), r2, h, (k.mono s1).mono s2⟩
theorem rd_opo {g : D → D → Option (List D)} {fa fb : Env' → Option D} : ∀ σ H Q, rdO X.K (ap2o g fa fb) σ H Q → tOp (rD2o X.K g) (rdE X.K fa) (rdE X.K fb) σ H Q := by
  rintro σ H Q ⟨L, A, E, d, er, h, k⟩
  obtain ⟨x, hx, h⟩ := Option.bind_eq_some_iff.mp h
  obtain ⟨y, hy, h⟩ := Option.bind_eq_some_iff.mp h
  refine ⟨L, A, E, x, er, hx, fun v H1 s1 r1 => ⟨L, A, E, y, er.mono s1, hy, fun w H2 s2 r2 => ?_⟩⟩
  exact ⟨A, x, y, d, ((er.mono s1).mono s2).dom, r1.mono (mask_same s2), r2, h, (k.mono s1).mono s2⟩
theorem vp_op {op : Operator} {g : D → D → Option D} {fa fb : Env' → Option D} (ho : OpR X (binaryOp op) (rD2 X.K g)) (ha : PE X a (rdE X.K fa)) (hb : PE X b (rdE X.K fb)) : PE X (.BinOp a op b pos) (rdE X.K (ap2 g fa fb)) := pe_imp (pe_op ho ha hb) rd_op
theorem vp_opo {op : Operator} {g : D → D → Option (List D)} {fa fb : Env' → Option D} (ho : OpR X (binaryOp op) (rD2o X.K g)) (ha : PE X a (rdE X.K fa)) (hb : PE X b (rdE X.K fb)) : PE X (.BinOp a op b pos) (rdO X.K (ap2o g fa fb)) := pe_imp (pe_op ho ha hb) rd_opo
theorem vp_cmp {op : CmpOp} {g : D → D → Option D} {fa fb : Env' → Option D} (ho : OpR X (compareOp op) (rD2 X.K g)) (ha : PE X a (rdE X.K fa)) (hb : PE X b (rdE X.K fb)) (hm : behindInMarks op b = false) : PE X (.Compare a [op] [b] pos) (rdE X.K (ap2 g fa fb)) := pe_imp (pe_cmpR ho ha hb hm) rd_op
def toB : D → Option Bool
  | .bl b => some b
  | _ => none
theorem toB_eq {d : D} {b : Bool} (h : toB d = some b) : d = .bl b := by
  cases d <;> simp [toB] at h
  rw [h]
theorem vp_cmpT {op : CmpOp} {g : D → D → Option D} {fa fb : Env' → Option D} (ho : OpR X (compareOp op) (rD2 X.K g)) (ha : PE X a (rdE X.K fa)) (hb : PE X b (rdE X.K fb)) (hm : behindInMarks op b = false) :
    PT X (.Compare a [op] [b] pos) (rdT X.K fun E => (ap2 g fa fb E).bind toB) := by
  refine pt_imp (pt_cmpR ho ha hb hm) ?_
  rintro σ H Q ⟨L, A, E, d, er, h, k⟩
  obtain ⟨x, hx, h⟩ := Option.bind_eq_some_iff.mp h
  cases toB_eq h
  refine rd_op σ H _ ⟨L, A, E, .bl d, er, hx, fun v H1 s1 r1 => ?_⟩
  cases r1
  exact ⟨d, rfl, k H1 s1⟩
/-- a new list as a value -/
theorem vp_ofO {f : Env' → Option (List D)} (h : PE X e (rdO X.K f)) : PE X e (rdE X.K fun E => (f E).map .lst) := by
  refine pe_imp h ?_
  rintro σ H Q ⟨L, A, E, d, er, h, k⟩
  obtain ⟨ds, h1, h2⟩ := Option.map_eq_some_iff.mp h
  subst h2
  exact ⟨L, A, E, ds, er, h1, k.ofO er.dom⟩

/-! ### constants, names -/
theorem vp_const {v : V} {d : D} (h : PE X e (tC v)) (r : ∀ K H, Rep K H v d) : PE X e (rdE X.K fun _ => some d) := by
  refine pe_imp h ?_
  rintro σ H Q ⟨L, A, E, d', er, h, k⟩
  cases h
  exact k.now (r _ _)
def look (i : Nat) (E : Env') : Option D := match E[i]? with
  | some (.f d) => some d
  | _ => none
theorem vp_loc {i : Nat} {x : Str} (hN : X.N[i]? = some x) (hv : Vis X.env.scope x) (hd : (x == ("__debug__" : Str)) = false) (hcd : (x == ("__classdict__" : Str)) = false) : PE X (.Name x pos) (rdE X.K (look i)) := by
  refine pe_imp (pe_var hN hv hd hcd) ?_
  rintro σ H Q ⟨L, A, E, d, er, h, k⟩
  unfold look at h
  split at h
  · rename_i d' e
    cases h
    obtain ⟨v, h1, h2⟩ := er.val i d e
    exact ⟨v, h1, k.now h2⟩
  · cases h

/-! ### and, or, not, if -/
def andB (fa fb : Env' → Option Bool) (E : Env') : Option Bool := (fa E).bind fun c => if c = true then fb E else some false
def orB (fa fb : Env' → Option Bool) (E : Env') : Option Bool := (fa E).bind fun c => if c = true then some true else fb E
def notB (fa : Env' → Option Bool) (E : Env') : Option Bool := (fa E).map (!·)
variable {fa fb fc : Env' → Option D} {ta tb : Env' → Option Bool} {rest : List Expr}
theorem vw_and1 (ha : PT X a (rdT X.K ta)) : PW X (.BoolOp .And [a] pos) (rdT X.K ta) := pw_and1 ha
theorem vw_or1 (ha : PT X a (rdT X.K ta)) : PW X (.BoolOp .Or [a] pos) (rdT X.K ta) := pw_or1 ha
theorem vw_and (ha : PT X a (rdT X.K ta)) (hb : PW X (.BoolOp .And (b :: rest) pos) (rdT X.K tb)) : PW X (.BoolOp .And (a :: b :: rest) pos) (rdT X.K (andB ta tb)) := by
  refine pw_imp (pw_and ha hb) ?_
  rintro σ H Q ⟨L, A, E, d, er, h, k⟩
  obtain ⟨c, hc, h⟩ := Option.bind_eq_some_iff.mp h
  refine ⟨L, A, E, c, er, hc, fun H1 s1 => ?_⟩
  cases c with
  | true => exact ⟨L, A, E, d, er.mono s1, by simpa using h, fun H2 s2 => k H2 (s1.trans s2)⟩
  | false =>
    have h : false = d := by simpa using h
    subst h
    exact k H1 s1
theorem vw_or (ha : PT X a (rdT X.K ta)) (hb : PW X (.BoolOp .Or (b :: rest) pos) (rdT X.K tb)) : PW X (.BoolOp .Or (a :: b :: rest) pos) (rdT X.K (orB ta tb)) := by
  refine pw_imp (pw_or ha hb) ?_
  rintro σ H Q ⟨L, A, E, d, er, h, k⟩
  obtain ⟨c, hc, h⟩ := Option.bind_eq_some_iff.mp h
  refine ⟨L, A, E, c, er, hc, fun H1 s1 => ?_⟩
  cases c with
  | false => exact ⟨L, A, E, d, er.mono s1, by simpa using h, fun H2 s2 => k H2 (s1.trans s2)⟩
  | true =>
    have h : true = d := by simpa using h
    subst h
    exact k H1 s1
theorem vt_not (ha : PT X a (rdT X.K ta)) : PT X (.UnaryOp .Not a pos) (rdT X.K (notB ta)) := by
  refine pt_imp (pt_not ha) ?_
  rintro σ H Q ⟨L, A, E, d, er, h, k⟩
  obtain ⟨c, hc, h⟩ := Option.map_eq_some_iff.mp h
  subst h
  exact ⟨L, A, E, c, er, hc, k⟩
/-- as values: of truth values -/
def andV (fa fb : Env' → Option D) (E : Env') : Option D := ((fa E).bind toB).bind fun c => if c = true then fb E else some (.bl false)
def orV (fa fb : Env' → Option D) (E : Env') : Option D := ((fa E).bind toB).bind fun c => if c = true then some (.bl true) else fb E
def notV (fa : Env' → Option D) (E : Env') : Option D := ((fa E).bind toB).map fun c => .bl (!c)
theorem vp_one {op : BoolOp} (ha : PE X a (rdE X.K fa)) : PE X (.BoolOp op [a] pos) (rdE X.K fa) := pe_one ha
theorem vp_and (ha : PE X a (rdE X.K fa)) (hb : PE X (.BoolOp .And (b :: rest) pos) (rdE X.K fb)) : PE X (.BoolOp .And (a :: b :: rest) pos) (rdE X.K (andV fa fb)) := by
  refine pe_imp (pe_and ha hb) ?_
  rintro σ H Q ⟨L, A, E, d, er, h, k⟩
  obtain ⟨c, hc, h⟩ := Option.bind_eq_some_iff.mp h
  obtain ⟨x, hx, hc⟩ := Option.bind_eq_some_iff.mp hc
  cases toB_eq hc
  refine ⟨L, A, E, _, er, hx, fun v H1 s1 r1 => ?_⟩
  cases r1
  refine ⟨c, rfl, ?_⟩
  cases c with
  | true => exact ⟨L, A, E, d, er.mono s1, by simpa using h, k.mono s1⟩
  | false =>
    have h : D.bl false = d := by simpa using h
    subst h
    exact (k.mono s1).now (.bl false)
theorem vp_or (ha : PE X a (rdE X.K fa)) (hb : PE X (.BoolOp .Or (b :: rest) pos) (rdE X.K fb)) : PE X (.BoolOp .Or (a :: b :: rest) pos) (rdE X.K (orV fa fb)) := by
  refine pe_imp (pe_or ha hb) ?_
  rintro σ H Q ⟨L, A, E, d, er, h, k⟩
  obtain ⟨c, hc, h⟩ := Option.bind_eq_some_iff.mp h
  obtain ⟨x, hx, hc⟩ := Option.bind_eq_some_iff.mp hc
  cases toB_eq hc
  refine ⟨L, A, E, _, er, hx, fun v H1 s1 r1 => ?_⟩
  cases r1
  refine ⟨c, rfl, ?_⟩
  cases c with
  | false => exact ⟨L, A, E, d, er.mono s1, by simpa using h, k.mono s1⟩
  | true =>
    have h : D.bl true = d := by simpa using h
    subst h
    exact (k.mono s1).now (.bl true)
theorem vp_not (ha : PE X a (rdE X.K fa)) : PE X (.UnaryOp .Not a pos) (rdE X.K (notV fa)) := by
  refine pe_imp (pe_not ha) ?_
  rintro σ H Q ⟨L, A, E, d, er, h, k⟩
  obtain ⟨c, hc, h⟩ := Option.map_eq_some_iff.mp h
  obtain ⟨x, hx, hc⟩ := Option.bind_eq_some_iff.mp hc
  cases toB_eq hc
  subst h
  refine ⟨L, A, E, _, er, hx, fun v H1 s1 r1 => ?_⟩
  cases r1
  exact ⟨c, rfl, (k.mono s1).now (.bl _)⟩
def ifV (ta : Env' → Option Bool) (fa fb : Env' → Option D) (E : Env') : Option D := (ta E).bind fun c => if c = true then fa E else fb E
theorem vp_if (hc : PT X c (rdT X.K ta)) (ha : PE X a (rdE X.K fa)) (hb : PE X b (rdE X.K fb)) : PE X (.IfExp c a b pos) (rdE X.K (ifV ta fa fb)) := by
  refine pe_imp (pe_ifExp hc ha hb) ?_
  rintro σ H Q ⟨L, A, E, d, er, h, k⟩
  obtain ⟨c, hc, h⟩ := Option.bind_eq_some_iff.mp h
  refine ⟨L, A, E, c, er, hc, fun H1 s1 => ?_⟩
  cases c with
  | true => exact ⟨L, A, E, d, er.mono s1, by simpa using h, k.mono s1⟩
  | false => exact ⟨L, A, E, d, er.mono s1, by simpa using h, k.mono s1⟩

/-! ### truth -/
def truD : D → Option Bool
  | .non => some false
  | .bl b => some b
  | .int i => some (i != 0)
  | .str x => if x.length ≤ lineN then some ((x.length : Int) != 0) else none
  | .lst ds => some !ds.isEmpty
  | .tup ds => some !ds.isEmpty
  | .fls ds => some !ds.isEmpty
  | .dic _ => none
theorem RepA.empty {K : PySem.W.Frag} {H : Hp} {vs : List V} {ds : List D} (r : RepA K H vs ds) : ds.isEmpty = vs.isEmpty := by
  cases r <;> rfl
theorem RepK.empty {K : PySem.W.Frag} {H : Hp} {vs : List (Key × V)} {ds : List (Key × D)} (r : RepK K H vs ds) : ds.isEmpty = vs.isEmpty := by
  cases r <;> rfl
theorem tru_rep {K : PySem.W.Frag} {A : List Addr} {H : Hp} {x : V} {d : D} {b : Bool} (r : Rep K (mask A H) x d) (h : truD d = some b) : TruV K x H b := by
  cases r with
  | non => cases h; rfl
  | bl b => cases h; rfl
  | int i => cases h; rfl
  | str x =>
    simp only [truD] at h
    split at h
    · rename_i hx
      cases h
      exact ⟨le_line hx, rfl⟩
    · cases h
  | lst h1 r => cases h; exact .inl ⟨_, .inl (.inl (mask_some.mp h1).2), by rw [r.empty]⟩
  | tup h1 r => cases h; exact .inr (.inl ⟨_, same_seqT (mask_le _ _) h1, by rw [r.empty]⟩)
  | fls h1 r => cases h; exact .inl ⟨_, (mask_le _ _).seq h1, by rw [r.empty]⟩
  | dic h1 r => cases h
theorem vt_truth (ha : PE X a (rdE X.K fa)) (he : ∀ whole, isTrue a X.env whole = (do let v ← whole; standAt a.pos; holding [v] (truthy v))) : PT X a (rdT X.K fun E => (fa E).bind truD) := by
  refine pt_imp (pt_truth ha he) ?_
  rintro σ H Q ⟨L, A, E, d, er, h, k⟩
  obtain ⟨x, hx, h⟩ := Option.bind_eq_some_iff.mp h
  exact ⟨L, A, E, x, er, hx, fun v H1 s1 r1 => ⟨d, tru_rep r1 h, k H1 s1⟩⟩

/-! ### arguments, displays -/
theorem va_nil : PA X [] (rdA X.K fun _ => some []) := by
  refine pa_imp pa_nil ?_
  rintro σ H Q ⟨L, A, E, d, er, h, k⟩
  cases h
  exact k [] H (Same.refl H) .nil
def consA (fa : Env' → Option D) (fr : Env' → Option (List D)) (E : Env') : Option (List D) := (fa E).bind fun x => (fr E).map fun r => x :: r
theorem va_cons {es : List Expr} {fr : Env' → Option (List D)} (ha : PE X a (rdE X.K fa)) (hr : PA X es (rdA X.K fr)) (hs : starEach (a :: es) X.env = (false, eval a X.env) :: starEach es X.env) : PA X (a :: es) (rdA X.K (consA fa fr)) := by
  refine pa_imp (pa_cons ha hr hs) ?_
  rintro σ H Q ⟨L, A, E, d, er, h, k⟩
  obtain ⟨x, hx, h⟩ := Option.bind_eq_some_iff.mp h
  obtain ⟨xs, hxs, h⟩ := Option.map_eq_some_iff.mp h
  subst h
  refine ⟨L, A, E, x, er, hx, fun v H1 s1 r1 => ⟨L, A, E, xs, er.mono s1, hxs, fun vs H2 s2 r2 => ?_⟩⟩
  exact k _ H2 (s1.trans s2) (.cons (r1.mono (mask_same s2)) r2)
def short (ds : List D) : Option (List D) := if ds.length ≤ lineN then some ds else none
theorem vp_tup {es : List Expr} {k : Nat} {f : Env' → Option (List D)} (h : PA X es (rdA X.K f)) : PE X (.Tuple es k pos) (rdE X.K fun E => ((f E).bind short).map .tup) := by
  refine pe_imp (pe_tup h) ?_
  rintro σ H Q ⟨L, A, E, d, er, h, k⟩
  obtain ⟨ds, h1, h2⟩ := Option.map_eq_some_iff.mp h
  obtain ⟨ds', h0, h3⟩ := Option.bind_eq_some_iff.mp h1
  unfold short at h3
  split at h3
  · rename_i hl
    cases h3
    subst h2
    refine ⟨L, A, E, ds, er, h0, fun vs H1 s1 r1 => ⟨?_, fun p hp => (k.mono s1).newT (er.mono s1).dom r1 hp⟩⟩
    rw [r1.length]
    exact le_line hl
  · cases h3
theorem vp_lst {es : List Expr} {f : Env' → Option (List D)} (h : PA X es (rdA X.K f)) : PE X (.List es pos) (rdO X.K fun E => (f E).bind short) := by
  refine pe_imp (pe_lst h) ?_
  rintro σ H Q ⟨L, A, E, d, er, h, k⟩
  obtain ⟨ds', h, h3⟩ := Option.bind_eq_some_iff.mp h
  unfold short at h3
  split at h3
  · rename_i hl
    cases h3
    refine ⟨L, A, E, d, er, h, fun vs H1 s1 r1 => ⟨?_, fun p hp => (k.mono s1).now r1 hp⟩⟩
    rw [r1.length]
    exact le_line hl
  · cases h3
end

/-! ### operators -/
def mulOk (i j : Int) : Bool := decide (i.natAbs.log2 + j.natAbs.log2 < 1000000) || (decide (i.natAbs < 18446744073709551616) || decide (j.natAbs < 18446744073709551616))
theorem mulOk_ok {i j : Int} (h : mulOk i j = true) : IntMulOk i j := by
  unfold mulOk at h
  simp only [Bool.or_eq_true, decide_eq_true_eq] at h
  rcases h with h | h | h
  · exact CMulW.ok h
  · exact CMul.ok (.inl ⟨by omega, by omega⟩)
  · exact CMul.ok (.inr ⟨by omega, by omega⟩)
def divOk (j : Int) : Bool := decide (0 < j) && decide (j.natAbs.log2 < 9000)

def addD : D → D → Option D
  | .int i, .int j => some (.int (i + j))
  | .str x, .str y => if x.length + y.length ≤ lineN then some (.str (x ++ y)) else none
  | .tup (x :: xs), .tup ys => if (x :: xs).length + ys.length ≤ lineN then some (.tup (x :: xs ++ ys)) else none
  | .lst xs, .lst ys => if xs.length + ys.length ≤ lineN then some (.lst (xs ++ ys)) else none
  | _, _ => none
def addO : D → D → Option (List D)
  | .lst xs, .lst ys => if xs.length + ys.length ≤ lineN then some (xs ++ ys) else none
  | _, _ => none
def subD : D → D → Option D
  | .int i, .int j => some (.int (i - j))
  | _, _ => none
def strTimes (x : Str) (k : Nat) : Str := ⟨(List.replicate k x.cps.toList).flatten.toArray⟩
def mulD : D → D → Option D
  | .int i, .int j => if mulOk i j then some (.int (i * j)) else none
  | .str x, .int k => if k ≤ 1000000 ∧ -1000000 ≤ k ∧ x.length * k.toNat ≤ 1000000 then some (.str (strTimes x k.toNat)) else none
  | .lst xs, .int k => if -9223372036854775808 ≤ k ∧ k < 9223372036854775808 ∧ xs.length * k.toNat ≤ lineN then some (.lst (List.replicate k.toNat xs).flatten) else none
  | _, _ => none
def mulO : D → D → Option (List D)
  | .lst xs, .int k => if -9223372036854775808 ≤ k ∧ k < 9223372036854775808 ∧ xs.length * k.toNat ≤ lineN then some (List.replicate k.toNat xs).flatten else none
  | _, _ => none
def fdivD : D → D → Option D
  | .int i, .int j => if divOk j then some (.int (i / j)) else none
  | _, _ => none
def modD : D → D → Option D
  | .int i, .int j => if 0 < j then some (.int (i % j)) else none
  | _, _ => none
def powD : D → D → Option D
  | .int i, .int j => if 0 ≤ j ∧ j ≤ 1000000 ∧ i.natAbs < 18446744073709551616 then some (.int (i ^ j.toNat)) else none
  | _, _ => none
def xorD : D → D → Option D
  | .int i, .int j => some (.int (Builtin.bitXor i j))
  | _, _ => none
inductive BOp where
  | add | sub | mul | fdiv | mod | pow | xor
  deriving DecidableEq
def BOp.op : BOp → Operator
  | .add => .Add | .sub => .Sub | .mul => .Mult | .fdiv => .FloorDiv | .mod => .Mod | .pow => .Pow | .xor => .BitXor
def binD : BOp → D → D → Option D
  | .add => addD | .sub => subD | .mul => mulD | .fdiv => fdivD | .mod => modD | .pow => powD | .xor => xorD
def binO : BOp → D → D → Option (List D)
  | .add => addO | .mul => mulO | _ => fun _ _ => none

section
variable {X : Cx}
theorem op_mulD : OpR X (binaryOp .Mult) (rI (fun i j => mulOk i j = true) fun i j => .int (i * j)) := opI fun _ _ _ _ _ _ _ hc q => mul_int q (mulOk_ok hc)
theorem cps_foldl (x : Array Nat) : ∀ (n : Nat) (acc : Array Nat), ((List.replicate n x).foldl (· ++ ·) acc) = (acc.toList ++ (List.replicate n x.toList).flatten).toArray
  | 0, acc => by simp
  | n + 1, acc => by
    rw [List.replicate_succ, List.foldl_cons, cps_foldl x n, List.replicate_succ, List.flatten_cons]
    simp
theorem op_mulS : OpR X (binaryOp .Mult) (fun x y H Q => ∃ z k, x = .str z ∧ y = .int k ∧ (k ≤ 1000000 ∧ -1000000 ≤ k ∧ z.length * k.toNat ≤ 1000000) ∧ Q (.str (strTimes z k.toNat)) H) := by
  intro pins s σ H x y v u Q I rx ry h
  obtain ⟨z, k, rfl, rfl, ⟨h1, h2, h3⟩, q⟩ := h
  obtain ⟨t, rfl⟩ := rx
  obtain ⟨t', rfl⟩ := ry
  refine PySem.P.mul_str ?_ (fun a b => ?_) (fun a b => ?_) ?_
  · have e1 : ¬ k < -(9223372036854775808 : Int) := by omega
    have e2 : ¬ k ≥ (9223372036854775808 : Int) := by omega
    exact Bool.or_eq_false_iff.mpr ⟨decide_eq_false e1, decide_eq_false e2⟩
  · have h4 : ((z.length * k.toNat : Nat) : Int) ≤ 1000000 := Int.ofNat_le.mpr h3
    rw [Int.natCast_mul, show ((k.toNat : Nat) : Int) = k by omega] at h4
    have h5 : (z.length : Int) ≤ 1000000 := by
      have : (z.length : Int) * 1 ≤ (z.length : Int) * k := Int.mul_le_mul_of_nonneg_left (by omega) (by omega)
      omega
    have h6 : (9223372036854775807 : Int) / k ≥ 1000000 := by
      apply Int.le_ediv_of_mul_le (by omega)
      have : 1000000 * k ≤ 1000000 * 1000000 := Int.mul_le_mul_of_nonneg_left h1 (by omega)
      omega
    show ¬ ((z.length : Int) > (9223372036854775807 : Int) / k)
    omega
  · have e : Builtin.Str.tooLong (z.length * k.toNat) = decide (z.length * k.toNat > sizeLine) := rfl
    rw [e, sizeLine_eq]
    exact decide_eq_false (by omega)
  · split
    · rename_i hk
      have e : k.toNat = 0 := by omega
      rw [e] at q
      exact ⟨by decide, ⟨.str _, H, I.tok _, ⟨_, rfl⟩, q⟩⟩
    · rename_i hk
      split
      · rename_i h0
        have e : strTimes z k.toNat = z := by
          rw [Bool.or_eq_true] at h0
          unfold strTimes
          rcases h0 with h0 | h0
          · rw [show k.toNat = 1 by have := eq_of_beq h0; omega]
            simp
          · have h0 : z.cps.size = 0 := eq_of_beq h0
            have : z.cps = #[] := Array.eq_empty_of_size_eq_zero h0
            obtain ⟨c⟩ := z
            subst this
            simp
        rw [e] at q
        exact ⟨.str _, H, I, ⟨_, rfl⟩, q⟩
      · have e : (⟨(List.replicate k.toNat z.cps).foldl (· ++ ·) #[]⟩ : Str) = strTimes z k.toNat := by
          rw [cps_foldl]
          rfl
        rw [e]
        refine ⟨?_, ⟨.str _, H, I.tok _, ⟨_, rfl⟩, q⟩⟩
        have hl : (strTimes z k.toNat).length = k.toNat * z.length := by
          simp [strTimes, Str.length]
        rw [hl, Nat.mul_comm, sizeLine_eq]
        omega
theorem rd2_cases {f : Value → Value → Sem Value} {K : PySem.W.Frag} {g : D → D → Option D} {r : R2} (h : OpR X f r) (i : ∀ A x y H Q a b d, Dom A H → Rep K (mask A H) x a → Rep K (mask A H) y b → g a b = some d → Post K A H d Q → r x y H Q) : OpR X f (rD2 K g) :=
  OpR.imp h fun x y H Q ⟨A, a, b, d, h1, h2, h3, h4, h5⟩ => i A x y H Q a b d h1 h2 h3 h4 h5
theorem if_some {α : Type} {p : Prop} [Decidable p] {a b : α} (h : (if p then some a else none) = some b) : p ∧ a = b := by
  split at h
  · exact ⟨by assumption, Option.some.inj h⟩
  · cases h
theorem tup_ne {K : PySem.W.Frag} {H : Hp} {vs : List V} {ds : List D} (r : RepA K H vs ds) : vs = [] ↔ ds = [] := by
  cases r <;> simp
theorem bin_ok (o : BOp) : OpR X (binaryOp o.op) (rD2 X.K (binD o)) := by
  intro pins s σ H x y v u Q I rx ry h
  obtain ⟨A, a, b, d, hd, ra, rb, e, k⟩ := h
  cases o with
  | add =>
    cases ra with
    | int i =>
      cases rb <;> simp only [binD, addD] at e <;> cases e
      exact op_add pins s σ H _ _ v u Q I rx ry ⟨_, _, rfl, rfl, k.now (.int _)⟩
    | str z =>
      cases rb <;> simp only [binD, addD] at e <;> try (cases e; done)
      obtain ⟨h1, rfl⟩ := if_some e
      exact op_add_str pins s σ H _ _ v u Q I rx ry ⟨_, _, rfl, rfl, le_line h1, k.now (.str _)⟩
    | tup ha ra =>
      cases rb with
      | tup hb rb =>
        rename_i a' xs ds b' ys es
        have key : ds ≠ [] ∧ ds.length + es.length ≤ lineN ∧ D.tup (ds ++ es) = d := by
          cases ds with
          | nil => simp only [binD, addD] at e; cases e
          | cons z zs =>
            simp only [binD, addD] at e
            obtain ⟨h1, h2⟩ := if_some e
            exact ⟨by simp, h1, h2⟩
        obtain ⟨h0, h1, rfl⟩ := key
        have sa := same_seqT (mask_le _ _) ha
        have sb := same_seqT (mask_le _ _) hb
        refine op_catT pins s σ H _ _ v u Q I rx ry ⟨_, _, xs, ys, rfl, rfl, sa, sb, fun z => h0 ((tup_ne ra).mp z), ?_, fun z => ?_, fun z p hp => ?_⟩
        · rw [ra.length, rb.length]
          exact le_line h1
        · have e0 : es = [] := (tup_ne rb).mp z
          subst e0
          rw [List.append_nil] at k
          exact k.now (.tup ha ra)
        · exact k.newT hd (ra.append rb) hp
      | _ => (rename_i ds _ _; cases ds <;> simp only [binD, addD] at e <;> cases e)
    | lst ha ra =>
      cases rb <;> simp only [binD, addD] at e <;> try (cases e; done)
      rename_i hb rb
      obtain ⟨h1, rfl⟩ := if_some e
      refine op_cat pins s σ H _ _ v u Q I rx ry ⟨_, _, _, _, rfl, rfl, (mask_some.mp ha).2, (mask_some.mp hb).2, ?_, fun p hp => (k.ofO hd).now (ra.append rb) hp⟩
      rw [ra.length, rb.length]
      exact le_line h1
    | _ => cases rb <;> simp only [binD, addD] at e <;> cases e
  | sub =>
    cases ra <;> cases rb <;> simp only [binD, subD] at e <;> try (cases e; done)
    cases e
    exact op_sub pins s σ H _ _ v u Q I rx ry ⟨_, _, rfl, rfl, k.now (.int _)⟩
  | mul =>
    cases ra with
    | int i =>
      cases rb <;> simp only [binD, mulD] at e <;> try (cases e; done)
      obtain ⟨h1, rfl⟩ := if_some e
      exact op_mulD pins s σ H _ _ v u Q I rx ry ⟨_, _, rfl, rfl, h1, k.now (.int _)⟩
    | str z =>
      cases rb <;> simp only [binD, mulD] at e <;> try (cases e; done)
      obtain ⟨h1, rfl⟩ := if_some e
      exact op_mulS pins s σ H _ _ v u Q I rx ry ⟨_, _, rfl, rfl, h1, k.now (.str _)⟩
    | lst ha ra =>
      cases rb <;> simp only [binD, mulD] at e <;> try (cases e; done)
      obtain ⟨h1, rfl⟩ := if_some e
      refine op_rep pins s σ H _ _ v u Q I rx ry ⟨_, _, _, rfl, rfl, (mask_some.mp ha).2, by have := h1.1; omega, by have := h1.2.1; omega, ?_, fun p hp => (k.ofO hd).now (ra.rep _) hp⟩
      rw [ra.length]
      exact le_line h1.2.2
    | _ => cases rb <;> simp only [binD, mulD] at e <;> cases e
  | fdiv =>
    cases ra <;> cases rb <;> simp only [binD, fdivD] at e <;> try (cases e; done)
    obtain ⟨h1, rfl⟩ := if_some e
    simp only [divOk, Bool.and_eq_true, decide_eq_true_eq] at h1
    exact op_fdivW pins s σ H _ _ v u Q I rx ry ⟨_, _, rfl, rfl, h1, k.now (.int _)⟩
  | mod =>
    cases ra <;> cases rb <;> simp only [binD, modD] at e <;> try (cases e; done)
    obtain ⟨h1, rfl⟩ := if_some e
    exact op_mod pins s σ H _ _ v u Q I rx ry ⟨_, _, rfl, rfl, h1, k.now (.int _)⟩
  | pow =>
    cases ra <;> cases rb <;> simp only [binD, powD] at e <;> try (cases e; done)
    obtain ⟨h1, rfl⟩ := if_some e
    exact op_pow pins s σ H _ _ v u Q I rx ry ⟨_, _, rfl, rfl, ⟨h1.1, h1.2.1, by have := h1.2.2; omega⟩, k.now (.int _)⟩
  | xor =>
    cases ra <;> cases rb <;> simp only [binD, xorD] at e <;> try (cases e; done)
    cases e
    exact op_xor pins s σ H _ _ v u Q I rx ry ⟨_, _, rfl, rfl, k.now (.int _)⟩
theorem binO_ok (o : BOp) : OpR X (binaryOp o.op) (rD2o X.K (binO o)) := by
  intro pins s σ H x y v u Q I rx ry h
  obtain ⟨A, a, b, d, hd, ra, rb, e, k⟩ := h
  cases o with
  | add =>
    cases ra <;> cases rb <;> simp only [binO, addO] at e <;> try (cases e; done)
    rename_i ha ra _ _ _ hb rb
    obtain ⟨h1, rfl⟩ := if_some e
    refine op_cat pins s σ H _ _ v u Q I rx ry ⟨_, _, _, _, rfl, rfl, (mask_some.mp ha).2, (mask_some.mp hb).2, ?_, fun p hp => k.now (ra.append rb) hp⟩
    rw [ra.length, rb.length]
    exact le_line h1
  | mul =>
    cases ra <;> cases rb <;> simp only [binO, mulO] at e <;> try (cases e; done)
    rename_i ha ra _
    obtain ⟨h1, rfl⟩ := if_some e
    refine op_rep pins s σ H _ _ v u Q I rx ry ⟨_, _, _, rfl, rfl, (mask_some.mp ha).2, by have := h1.1; omega, by have := h1.2.1; omega, ?_, fun p hp => k.now (ra.rep _) hp⟩
    rw [ra.length]
    exact le_line h1.2.2
  | _ => simp only [binO] at e; cases e

/-! ### comparisons -/
def eqD (a b : D) : Option Bool := match a, b with
  | .int i, .int j => some (decide (i = j))
  | .str x, .str y => some (decide (x = y))
  | _, _ => if SeqAt.shaped a.py = true ∧ SeqAt.shaped b.py = true then some (PyData.eqv a.py b.py) else none
def ordD (p : Int → Int → Bool) : D → D → Option Bool
  | .int i, .int j => some (p i j)
  | _, _ => none
def isD (a b : D) : Option Bool := match b with
  | .non => some (match a with
    | .non => true
    | _ => false)
  | .bl y => (match a with
    | .bl x => some (decide (x = y))
    | _ => none)
  | _ => none
def flatD : D → Bool
  | .non => true | .bl _ => true | .int _ => true | .str _ => true
  | _ => false
def eqF : D → D → Bool
  | .non, .non => true
  | .bl a, .bl b => a == b
  | .bl a, .int b => (if a then 1 else 0) == b
  | .int a, .bl b => a == (if b then 1 else 0)
  | .int a, .int b => a == b
  | .str a, .str b => a == b
  | _, _ => false
/-- x in a list, a tuple, a text -/
def inD (a b : D) : Option Bool := match b with
  | .lst ds => if flatD a = true ∧ ds.all flatD = true then some (ds.any fun y => eqF y a)
      else if SeqAt.shaped a.py = true ∧ SeqAt.shaped (PyData.list (D.pys ds)) = true then some ((D.pys ds).any fun z => PyData.eqv z a.py) else none
  | .tup ds => if flatD a = true ∧ ds.all flatD = true then some (ds.any fun y => eqF y a) else none
  | .str z => (match a with
    | .str x => (match x.cps.toList with
      | [c] => some (decide (c ∈ z.cps.toList))
      | _ => none)
    | _ => none)
  | _ => none
def cmpD : CmpOp → D → D → Option Bool
  | .Eq, a, b => eqD a b
  | .NotEq, a, b => (eqD a b).map (!·)
  | .Lt, a, b => ordD (fun i j => decide (i < j)) a b
  | .LtE, a, b => ordD (fun i j => decide (i ≤ j)) a b
  | .Gt, a, b => ordD (fun i j => decide (j < i)) a b
  | .GtE, a, b => ordD (fun i j => decide (j ≤ i)) a b
  | .Is, a, b => isD a b
  | .IsNot, a, b => (isD a b).map (!·)
  | .In, a, b => inD a b
  | .NotIn, a, b => (inD a b).map (!·)
theorem Rep.flat {K : PySem.W.Frag} {H : Hp} {v : V} {d : D} (r : Rep K H v d) (h : flatD d = true) : flatV v = true := by
  cases r <;> first | rfl | cases h
theorem RepA.flat {K : PySem.W.Frag} {H : Hp} : ∀ {vs : List V} {ds : List D}, RepA K H vs ds → ds.all flatD = true → vs.all flatV = true
  | _, _, .nil, _ => rfl
  | _, _, .cons h r, e => by
    rw [List.all_cons, Bool.and_eq_true] at e ⊢
    exact ⟨h.flat e.1, r.flat e.2⟩
theorem Rep.eqF {K : PySem.W.Frag} {H : Hp} {v w : V} {d e : D} (r : Rep K H v d) (q : Rep K H w e) (h : flatD d = true) (h' : flatD e = true) : eqV v w = Vp.eqF d e := by
  cases r <;> first | (cases h; done) | (cases q <;> first | rfl | (cases h'; done))
theorem RepA.anyF {K : PySem.W.Frag} {H : Hp} {w : V} {e : D} (q : Rep K H w e) (h' : flatD e = true) : ∀ {vs : List V} {ds : List D}, RepA K H vs ds → ds.all flatD = true → (ds.any fun y => Vp.eqF y e) = inV w vs
  | _, _, .nil, _ => rfl
  | _, _, .cons h r, e => by
    rw [List.all_cons, Bool.and_eq_true] at e
    unfold inV
    rw [List.any_cons, List.any_cons, h.eqF q e.1 h', r.anyF q h' e.2]
    rfl
def blD (b : Option Bool) : Option D := b.map .bl
theorem blD_some {b : Option Bool} {d : D} (h : blD b = some d) : ∃ c, b = some c ∧ d = .bl c := by
  obtain ⟨c, h1, h2⟩ := Option.map_eq_some_iff.mp h
  exact ⟨c, h1, h2.symm⟩
theorem int_pair {K : PySem.W.Frag} {H : Hp} {x y : V} {a b : D} {p : Int → Int → Bool} {c : Bool} (ra : Rep K H x a) (rb : Rep K H y b) (e : ordD p a b = some c) : ∃ i j, x = .int i ∧ y = .int j ∧ p i j = c := by
  cases ra <;> cases rb <;> simp only [ordD] at e <;> try (cases e; done)
  exact ⟨_, _, rfl, rfl, Option.some.inj e⟩
theorem eqD_ok {K : PySem.W.Frag} {H H' : Hp} {x y : V} {a b : D} {c : Bool} (s : Same H' H) (ra : Rep K H' x a) (rb : Rep K H' y b) (e : eqD a b = some c) :
    (∃ i j, x = .int i ∧ y = .int j ∧ decide (i = j) = c) ∨ (∃ i j, x = .str i ∧ y = .str j ∧ decide (i = j) = c) ∨
      (Dp K H x a.py ∧ Dp K H y b.py ∧ SeqAt.shaped a.py = true ∧ SeqAt.shaped b.py = true ∧ PyData.eqv a.py b.py = c) := by
  have gen : (if SeqAt.shaped a.py = true ∧ SeqAt.shaped b.py = true then some (PyData.eqv a.py b.py) else none) = some c →
      Dp K H x a.py ∧ Dp K H y b.py ∧ SeqAt.shaped a.py = true ∧ SeqAt.shaped b.py = true ∧ PyData.eqv a.py b.py = c := fun h => by
    obtain ⟨⟨h1, h2⟩, h3⟩ := if_some h
    exact ⟨(ra.mono s).dp (SeqAt.canLay_of_shaped h1), (rb.mono s).dp (SeqAt.canLay_of_shaped h2), h1, h2, h3⟩
  cases ra with
  | int i =>
    cases rb with
    | int j => exact .inl ⟨i, j, rfl, rfl, Option.some.inj e⟩
    | _ => exact .inr (.inr (gen e))
  | str i =>
    cases rb with
    | str j => exact .inr (.inl ⟨i, j, rfl, rfl, Option.some.inj e⟩)
    | _ => exact .inr (.inr (gen e))
  | _ => exact .inr (.inr (gen e))
theorem cmp_ok (hu : X.A.units + 65 < cLine) (o : CmpOp) : OpR X (compareOp o) (rD2 X.K fun a b => blD (cmpD o a b)) := by
  intro pins s σ H x y v u Q I rx ry h
  obtain ⟨A, a, b, d, hd, ra, rb, e, k⟩ := h
  obtain ⟨c, e1, rfl⟩ := blD_some e
  clear e
  have e := e1
  clear e1
  have q : ∀ {c' : Bool}, c' = c → Q (.bl c') H := fun {c'} z => by
    subst z
    exact k.now (.bl _)
  cases o with
  | Lt =>
    obtain ⟨i, j, rfl, rfl, z⟩ := int_pair ra rb e
    exact op_lt pins s σ H _ _ v u Q I rx ry ⟨_, _, rfl, rfl, q z⟩
  | LtE =>
    obtain ⟨i, j, rfl, rfl, z⟩ := int_pair ra rb e
    exact op_le pins s σ H _ _ v u Q I rx ry ⟨_, _, rfl, rfl, q z⟩
  | Gt =>
    obtain ⟨i, j, rfl, rfl, z⟩ := int_pair ra rb e
    exact op_gt pins s σ H _ _ v u Q I rx ry ⟨_, _, rfl, rfl, q z⟩
  | GtE =>
    obtain ⟨i, j, rfl, rfl, z⟩ := int_pair ra rb e
    exact op_ge pins s σ H _ _ v u Q I rx ry ⟨_, _, rfl, rfl, q z⟩
  | Eq =>
    rcases eqD_ok (mask_le A H) ra rb e with ⟨i, j, rfl, rfl, z⟩ | ⟨i, j, rfl, rfl, z⟩ | ⟨h1, h2, h3, h4, z⟩
    · exact op_eq pins s σ H _ _ v u Q I rx ry ⟨rfl, q (by rw [← z]; simp)⟩
    · exact op_eq pins s σ H _ _ v u Q I rx ry ⟨rfl, q (by rw [← z]; simp)⟩
    · exact op_eqD (by omega) pins s σ H _ _ v u Q I rx ry ⟨_, _, h1, h2, h3, h4, q z⟩
  | NotEq =>
    obtain ⟨c', e', rfl⟩ := Option.map_eq_some_iff.mp e
    rcases eqD_ok (mask_le A H) ra rb e' with ⟨i, j, rfl, rfl, z⟩ | ⟨i, j, rfl, rfl, z⟩ | ⟨h1, h2, h3, h4, z⟩
    · exact op_ne pins s σ H _ _ v u Q I rx ry ⟨rfl, q (by rw [← z]; simp)⟩
    · exact op_ne pins s σ H _ _ v u Q I rx ry ⟨rfl, q (by rw [← z]; simp)⟩
    · exact op_neD (by omega) pins s σ H _ _ v u Q I rx ry ⟨_, _, h1, h2, h3, h4, q (by rw [z])⟩
  | Is =>
    cases rb <;> simp only [cmpD, isD] at e <;> try (cases e; done)
    · refine op_isN pins s σ H _ _ v u Q I rx ry ⟨rfl, q ?_⟩
      cases ra <;> (rw [← Option.some.inj e]; simp)
    · cases ra <;> try (cases e; done)
      exact op_isBl pins s σ H _ _ v u Q I rx ry ⟨_, _, rfl, rfl, q (Option.some.inj e)⟩
  | IsNot =>
    obtain ⟨c', e', rfl⟩ := Option.map_eq_some_iff.mp e
    cases rb <;> simp only [isD] at e' <;> try (cases e'; done)
    · refine op_notN pins s σ H _ _ v u Q I rx ry ⟨rfl, q ?_⟩
      cases ra <;> (rw [← Option.some.inj e']; simp)
    · cases ra <;> try (cases e'; done)
      exact op_notBl pins s σ H _ _ v u Q I rx ry ⟨_, _, rfl, rfl, q (by rw [Option.some.inj e'])⟩
  | In =>
    have rbm := rb.mono (mask_le A H)
    have ram := ra.mono (mask_le A H)
    cases rb with
    | lst hb rb =>
      simp only [cmpD, inD] at e
      split at e
      · rename_i h1
        exact op_in_seq pins s σ H _ _ v u Q I rx ry ⟨_, _, rfl, .inl (.inl (.inl (mask_some.mp hb).2)), ra.flat h1.1, rb.flat h1.2, q (by rw [← Option.some.inj e, rb.anyF ra h1.1 h1.2]; rfl)⟩
      · obtain ⟨⟨h1, h2⟩, h3⟩ := if_some e
        exact op_inD hu pins s σ H _ _ v u Q I rx ry ⟨_, _, ram.dp (SeqAt.canLay_of_shaped h1), rbm.dp (SeqAt.canLay_of_shaped h2), h1, h2, q h3⟩
    | tup hb rb =>
      simp only [cmpD, inD] at e
      obtain ⟨h1, h3⟩ := if_some e
      exact op_in_seq pins s σ H _ _ v u Q I rx ry ⟨_, _, rfl, .inr (same_seqT (mask_le A H) hb), ra.flat h1.1, rb.flat h1.2, q (by rw [← h3, rb.anyF ra h1.1 h1.2]; rfl)⟩
    | str z =>
      cases ra <;> simp only [cmpD, inD] at e <;> try (cases e; done)
      rename_i w
      split at e
      · rename_i c1 hc
        have ew : w = ⟨#[c1]⟩ := by
          obtain ⟨arr⟩ := w
          have : arr = [c1].toArray := by
            rw [← hc]
          rw [this]
        subst ew
        exact op_in_sign pins s σ H _ _ v u Q I rx ry ⟨_, _, rfl, rfl, q (Option.some.inj e)⟩
      · cases e
    | _ => simp only [cmpD, inD] at e; cases e
  | NotIn =>
    obtain ⟨c', e', rfl⟩ := Option.map_eq_some_iff.mp e
    have rbm := rb.mono (mask_le A H)
    have ram := ra.mono (mask_le A H)
    cases rb with
    | lst hb rb =>
      simp only [inD] at e'
      split at e'
      · rename_i h1
        exact op_notIn_seq pins s σ H _ _ v u Q I rx ry ⟨_, _, rfl, .inl (.inl (.inl (mask_some.mp hb).2)), ra.flat h1.1, rb.flat h1.2, q (by rw [← Option.some.inj e', rb.anyF ra h1.1 h1.2]; rfl)⟩
      · obtain ⟨⟨h1, h2⟩, h3⟩ := if_some e'
        exact op_notInD hu pins s σ H _ _ v u Q I rx ry ⟨_, _, ram.dp (SeqAt.canLay_of_shaped h1), rbm.dp (SeqAt.canLay_of_shaped h2), h1, h2, q (by rw [h3])⟩
    | tup hb rb =>
      simp only [inD] at e'
      obtain ⟨h1, h3⟩ := if_some e'
      exact op_notIn_seq pins s σ H _ _ v u Q I rx ry ⟨_, _, rfl, .inr (same_seqT (mask_le A H) hb), ra.flat h1.1, rb.flat h1.2, q (by rw [← h3, rb.anyF ra h1.1 h1.2]; rfl)⟩
    | str z =>
      cases ra <;> simp only [inD] at e' <;> try (cases e'; done)
      rename_i w
      split at e'
      · rename_i c1 hc
        have ew : w = ⟨#[c1]⟩ := by
          obtain ⟨arr⟩ := w
          have : arr = [c1].toArray := by
            rw [← hc]
          rw [this]
        subst ew
        exact op_notIn_sign pins s σ H _ _ v u Q I rx ry ⟨_, _, rfl, rfl, q (by rw [Option.some.inj e'])⟩
      · cases e'
    | _ => simp only [inD] at e'; cases e'
end
end Vp

end

section
set_option Elab.async false
set_option linter.all false
set_option autoImplicit false
set_option maxRecDepth 100000
/-! Vp3: built-in calls, subscripts, slices. -/
namespace Vp
open PySem PySem.Spec PyProof.Rows L2

/-! ### argument lists without stars -/
def notStar : Expr → Bool
  | .Starred _ _ => false
  | _ => true
theorem star_cons {e : Expr} {es : List Expr} {env : Env} (h : notStar e = true) : starEach (e :: es) env = (false, eval e env) :: starEach es env := by
  cases e <;> first | rfl | cases h
theorem star_map {env : Env} : ∀ {es : List Expr}, es.all notStar = true → starEach es env = es.map fun e => (false, eval e env)
  | [], _ => rfl
  | e :: es, h => by
    rw [List.all_cons, Bool.and_eq_true] at h
    rw [star_cons h.1, star_map h.2]
    rfl
theorem back_plain {pos : Pos} {env : Env} : ∀ {es : List Expr}, es.all notStar = true → (backTo pos (starEach es env)).any (·.1) = false := by
  intro es h
  rw [star_map h]
  unfold backTo
  rw [List.map_map, List.any_map, List.any_eq_false]
  intro x hx
  simp

/-! ### built-in functions -/
def intsOf : List D → Option (List Int)
  | [] => some []
  | .int i :: r => (intsOf r).map (i :: ·)
  | _ => none
theorem intsOf_eq : ∀ {ds : List D} {ns : List Int}, intsOf ds = some ns → ds = ns.map .int
  | [], ns, h => by cases h; rfl
  | .int i :: r, ns, h => by
    obtain ⟨ms, h1, rfl⟩ := Option.map_eq_some_iff.mp h
    rw [intsOf_eq h1]
    rfl
  | .non :: r, ns, h => by cases h
  | .bl _ :: r, ns, h => by cases h
  | .str _ :: r, ns, h => by cases h
  | .lst _ :: r, ns, h => by cases h
  | .tup _ :: r, ns, h => by cases h
  | .fls _ :: r, ns, h => by cases h
  | .dic _ :: r, ns, h => by cases h
def blsOf : List D → Option (List Bool)
  | [] => some []
  | .bl i :: r => (blsOf r).map (i :: ·)
  | _ => none
theorem blsOf_eq : ∀ {ds : List D} {ns : List Bool}, blsOf ds = some ns → ds = ns.map .bl
  | [], ns, h => by cases h; rfl
  | .bl i :: r, ns, h => by
    obtain ⟨ms, h1, rfl⟩ := Option.map_eq_some_iff.mp h
    rw [blsOf_eq h1]
    rfl
  | .non :: r, ns, h => by cases h
  | .int _ :: r, ns, h => by cases h
  | .str _ :: r, ns, h => by cases h
  | .lst _ :: r, ns, h => by cases h
  | .tup _ :: r, ns, h => by cases h
  | .fls _ :: r, ns, h => by cases h
  | .dic _ :: r, ns, h => by cases h
def ins (i : Int) : List Int → List Int
  | [] => [i]
  | j :: r => if i ≤ j then i :: j :: r else j :: ins i r
def isort : List Int → List Int
  | [] => []
  | i :: r => ins i (isort r)
theorem ins_perm (i : Int) : ∀ r : List Int, (ins i r).Perm (i :: r)
  | [] => .refl _
  | j :: r => by
    unfold ins
    split
    · exact .refl _
    · exact ((ins_perm i r).cons j).trans (.swap _ _ _)
theorem isort_perm : ∀ r : List Int, (isort r).Perm r
  | [] => .refl _
  | i :: r => (ins_perm i _).trans ((isort_perm r).cons i)
theorem ins_sorted (i : Int) : ∀ r : List Int, r.Pairwise (· ≤ ·) → (ins i r).Pairwise (· ≤ ·)
  | [], _ => by simp [ins]
  | j :: r, h => by
    rw [List.pairwise_cons] at h
    unfold ins
    split
    · rename_i hij
      rw [List.pairwise_cons, List.pairwise_cons]
      refine ⟨fun a ha => ?_, h⟩
      rcases List.mem_cons.mp ha with rfl | ha
      · exact hij
      · exact Int.le_trans hij (h.1 a ha)
    · rename_i hij
      rw [List.pairwise_cons]
      refine ⟨fun a ha => ?_, ins_sorted i r h.2⟩
      rcases List.mem_cons.mp ((ins_perm i r).mem_iff.mp ha) with rfl | ha
      · omega
      · exact h.1 a ha
theorem isort_sorted : ∀ r : List Int, (isort r).Pairwise (· ≤ ·)
  | [] => .nil
  | i :: r => ins_sorted i _ (isort_sorted r)
theorem sorted_one : ∀ {xs ys : List Int}, xs.Perm ys → xs.Pairwise (· ≤ ·) → ys.Pairwise (· ≤ ·) → xs = ys := fun h h1 h2 =>
  h.eq_of_pairwise (fun a b _ _ x y => Int.le_antisymm x y) h1 h2

inductive BF where
  | len | abs | max2 | min2 | maxl | minl | suml | alll | anyl | int | bool | str | tupof
  deriving DecidableEq
inductive BO where
  | listof | sorted
  deriving DecidableEq
def BF.name : BF → Str
  | .len => "len" | .abs => "abs" | .max2 => "max" | .min2 => "min" | .maxl => "max" | .minl => "min" | .suml => "sum" | .alll => "all" | .anyl => "any" | .int => "int" | .bool => "bool" | .str => "str" | .tupof => "tuple"
def BO.name : BO → Str
  | .listof => "list" | .sorted => "sorted"
def seqOf : D → Option (List D)
  | .lst ds => some ds
  | .tup ds => some ds
  | .fls ds => some ds
  | _ => none
def lisOf : D → Option (List D)
  | .lst ds => some ds
  | .fls ds => some ds
  | _ => none
def maxI (i : Int) (r : List Int) : Int := r.foldl max i
def minI (i : Int) (r : List Int) : Int := r.foldl min i
def lenD : D → Option D
  | .str x => if x.length ≤ lineN then some (.int (x.length : Nat)) else none
  | d => (seqOf d).map fun ds => .int (ds.length : Nat)
def bfD : BF → List D → Option D
  | .len, [d] => lenD d
  | .abs, [.int i] => some (.int (if i < 0 then -i else i))
  | .max2, [.int i, .int j] => some (.int (if j > i then j else i))
  | .min2, [.int i, .int j] => some (.int (if j < i then j else i))
  | .maxl, [d] => ((lisOf d).bind intsOf).bind fun | [] => none | i :: r => some (.int (maxI i r))
  | .minl, [d] => ((lisOf d).bind intsOf).bind fun | [] => none | i :: r => some (.int (minI i r))
  | .suml, [d] => ((lisOf d).bind intsOf).map fun ns => .int ns.sum
  | .alll, [d] => ((lisOf d).bind blsOf).map fun ns => .bl (ns.all id)
  | .anyl, [d] => ((lisOf d).bind blsOf).map fun ns => .bl (ns.any id)
  | .int, [.int i] => some (.int i)
  | .int, [.bl b] => some (.int (if b then 1 else 0))
  | .bool, [.int i] => some (.bl (i != 0))
  | .bool, [.bl b] => some (.bl b)
  | .str, [.int i] => if i.natAbs.log2 < 1920 then some (.str (toString i)) else none
  | .tupof, [.lst ds] => some (.tup ds)
  | .tupof, [.tup ds] => some (.tup ds)
  | _, _ => none
def keysI : List (Key × D) → Option (List Int)
  | [] => some []
  | (.inl i, _) :: r => (keysI r).map (i :: ·)
  | _ => none
def bfO : BO → List D → Option (List D)
  | .listof, [d] => seqOf d
  | .sorted, [.dic kd] => (keysI kd).bind fun ns => if ns.length < 64 then some ((isort ns).map .int) else none
  | .sorted, [d] => ((lisOf d).bind intsOf).map fun ns => (isort ns).map .int
  | _, _ => none

section
variable {X : Cx}
theorem lis_rep {K : PySem.W.Frag} {A : List Addr} {H : Hp} {x : V} {d : D} {ds : List D} (r : Rep K (mask A H) x d) (h : lisOf d = some ds) : ∃ a vs, x = .ref a ∧ SqL K H a vs ∧ RepA K (mask A H) vs ds := by
  cases r <;> simp only [lisOf] at h <;> try (cases h; done)
  · rename_i h1 r
    cases h
    exact ⟨_, _, rfl, .inl (.inl (mask_some.mp h1).2), r⟩
  · rename_i h1 r
    cases h
    exact ⟨_, _, rfl, (mask_le _ _).seq h1, r⟩
theorem seq_rep {K : PySem.W.Frag} {A : List Addr} {H : Hp} {x : V} {d : D} {ds : List D} (r : Rep K (mask A H) x d) (h : seqOf d = some ds) : ∃ a vs, x = .ref a ∧ (SqL K H a vs ∨ SqT K H a vs) ∧ RepA K (mask A H) vs ds := by
  cases r <;> simp only [seqOf] at h <;> try (cases h; done)
  · rename_i h1 r
    cases h
    exact ⟨_, _, rfl, .inl (.inl (.inl (mask_some.mp h1).2)), r⟩
  · rename_i h1 r
    cases h
    exact ⟨_, _, rfl, .inr (same_seqT (mask_le _ _) h1), r⟩
  · rename_i h1 r
    cases h
    exact ⟨_, _, rfl, .inl ((mask_le _ _).seq h1), r⟩
theorem ints_rep {K : PySem.W.Frag} {A : List Addr} {H : Hp} {x : V} {d : D} {ns : List Int} (r : Rep K (mask A H) x d) (h : (lisOf d).bind intsOf = some ns) : ∃ a, x = .ref a ∧ SqL K H a (ns.map V.int) := by
  obtain ⟨ds, h1, h2⟩ := Option.bind_eq_some_iff.mp h
  obtain ⟨a, vs, rfl, h3, h4⟩ := lis_rep r h1
  rw [intsOf_eq h2] at h4
  rw [← h4.ints]
  exact ⟨a, rfl, h3⟩
theorem bls_rep {K : PySem.W.Frag} {A : List Addr} {H : Hp} {x : V} {d : D} {ns : List Bool} (r : Rep K (mask A H) x d) (h : (lisOf d).bind blsOf = some ns) : ∃ a, x = .ref a ∧ SqL K H a (ns.map V.bl) := by
  obtain ⟨ds, h1, h2⟩ := Option.bind_eq_some_iff.mp h
  obtain ⟨a, vs, rfl, h3, h4⟩ := lis_rep r h1
  rw [blsOf_eq h2] at h4
  rw [← h4.bls]
  exact ⟨a, rfl, h3⟩
theorem len_rep {K : PySem.W.Frag} {A : List Addr} {H : Hp} {x : V} {d e : D} (r : Rep K (mask A H) x d) (h : lenD d = some e) : ∃ n : Nat, LenV K x H n ∧ e = .int n := by
  have go : (seqOf d).map (fun ds => D.int (ds.length : Nat)) = some e → ∃ n : Nat, LenV K x H n ∧ e = .int n := fun h => by
    obtain ⟨ds, h1, rfl⟩ := Option.map_eq_some_iff.mp h
    obtain ⟨a, vs, rfl, h3, h4⟩ := seq_rep r h1
    rcases h3 with h3 | h3
    · exact ⟨ds.length, .inl ⟨vs, h3, h4.length.symm⟩, rfl⟩
    · exact ⟨ds.length, .inr ⟨vs, h3, h4.length.symm⟩, rfl⟩
  cases r with
  | str z =>
    simp only [lenD] at h
    obtain ⟨h1, rfl⟩ := if_some h
    exact ⟨_, ⟨le_line h1, rfl⟩, rfl⟩
  | lst h1 r => exact go h
  | tup h1 r => exact go h
  | fls h1 r => exact go h
  | _ => simp only [lenD, seqOf] at h; cases h
theorem RepA.inv1 {K : PySem.W.Frag} {H : Hp} {vs : List V} {d : D} (r : RepA K H vs [d]) : ∃ v, vs = [v] ∧ Rep K H v d := by
  cases r with
  | cons h r =>
    cases r
    exact ⟨_, rfl, h⟩
theorem RepA.inv2 {K : PySem.W.Frag} {H : Hp} {vs : List V} {d e : D} (r : RepA K H vs [d, e]) : ∃ v w, vs = [v, w] ∧ Rep K H v d ∧ Rep K H w e := by
  cases r with
  | cons h r =>
    obtain ⟨w, rfl, h2⟩ := r.inv1
    exact ⟨_, _, rfl, h, h2⟩
theorem maxI_ge : ∀ (r : List Int) (i : Int), i ≤ maxI i r ∧ ∀ y ∈ r, y ≤ maxI i r
  | [], i => ⟨Int.le_refl _, fun _ h => by cases h⟩
  | j :: r, i => by
    obtain ⟨h1, h2⟩ := maxI_ge r (max i j)
    refine ⟨Int.le_trans (Int.le_max_left _ _) h1, fun y hy => ?_⟩
    rcases List.mem_cons.mp hy with rfl | hy
    · exact Int.le_trans (Int.le_max_right _ _) h1
    · exact h2 y hy
theorem minI_le : ∀ (r : List Int) (i : Int), minI i r ≤ i ∧ ∀ y ∈ r, minI i r ≤ y
  | [], i => ⟨Int.le_refl _, fun _ h => by cases h⟩
  | j :: r, i => by
    obtain ⟨h1, h2⟩ := minI_le r (min i j)
    refine ⟨Int.le_trans h1 (Int.min_le_left _ _), fun y hy => ?_⟩
    rcases List.mem_cons.mp hy with rfl | hy
    · exact Int.le_trans h1 (Int.min_le_right _ _)
    · exact h2 y hy
theorem maxI_mem : ∀ (r : List Int) (i : Int), maxI i r ∈ i :: r
  | [], i => List.mem_cons_self
  | j :: r, i => by
    have h := maxI_mem r (max i j)
    show maxI (max i j) r ∈ i :: j :: r
    rcases List.mem_cons.mp h with h | h
    · rw [h]
      rcases Int.le_total i j with q | q
      · rw [Int.max_eq_right q]
        simp
      · rw [Int.max_eq_left q]
        simp
    · simp [h]
theorem minI_mem : ∀ (r : List Int) (i : Int), minI i r ∈ i :: r
  | [], i => List.mem_cons_self
  | j :: r, i => by
    have h := minI_mem r (min i j)
    show minI (min i j) r ∈ i :: j :: r
    rcases List.mem_cons.mp h with h | h
    · rw [h]
      rcases Int.le_total i j with q | q
      · rw [Int.min_eq_left q]
        simp
      · rw [Int.min_eq_right q]
        simp
    · simp [h]
theorem RepK.keysI {K : PySem.W.Frag} {H : Hp} : ∀ {kv : List (Key × V)} {kd : List (Key × D)} {ns : List Int}, RepK K H kv kd → Vp.keysI kd = some ns → kv.map (·.1) = ns.map Sum.inl
  | _, _, _, .nil, h => by
    cases h
    rfl
  | _, _, ns, .cons (k := k) h r, e => by
    cases k with
    | inl i =>
      simp only [Vp.keysI] at e
      obtain ⟨ms, h1, rfl⟩ := Option.map_eq_some_iff.mp e
      rw [List.map_cons, r.keysI h1]
      rfl
    | inr x => cases e
def BF.val : BF → Value
  | .len => .builtin "len" | .abs => .builtin "abs" | .max2 => .builtin "max" | .min2 => .builtin "min" | .maxl => .builtin "max" | .minl => .builtin "min" | .suml => .builtin "sum" | .alll => .builtin "all" | .anyl => .builtin "any"
  | .int => .type "int" | .bool => .type "bool" | .str => .type "str" | .tupof => .type "tuple"
def BO.val : BO → Value
  | .listof => .type "list" | .sorted => .builtin "sorted"
theorem bfD_one {b : BF} {ds : List D} {d : D} (h : bfD b ds = some d) : (∃ e, ds = [e]) ∨ ∃ e f, ds = [e, f] := by
  match ds, h with
  | [e], _ => exact .inl ⟨e, rfl⟩
  | [e, f], _ => exact .inr ⟨e, f, rfl⟩
  | [], h => cases b <;> cases h
  | _ :: _ :: _ :: _, h => cases b <;> simp [bfD] at h
theorem bf_ok (hc : X.calm = true) (b : BF) : CallR X b.val (rDA X.K (bfD b)) := by
  intro pins s σ H vs us Q I r h
  obtain ⟨A, ds, d, hd, ra, e, k⟩ := h
  rcases bfD_one e with ⟨d1, rfl⟩ | ⟨d1, d2, rfl⟩
  · obtain ⟨v, rfl, rv⟩ := ra.inv1
    cases b with
    | len =>
      obtain ⟨n, h1, rfl⟩ := len_rep rv e
      exact call_len pins s σ H _ us Q I r ⟨_, n, rfl, h1, k.now (.int _)⟩
    | abs =>
      cases rv <;> simp only [bfD] at e <;> cases e
      exact call_abs pins s σ H _ us Q I r ⟨_, rfl, k.now (.int _)⟩
    | maxl =>
      obtain ⟨ns, h1, h2⟩ := Option.bind_eq_some_iff.mp e
      obtain ⟨a, rfl, h3⟩ := ints_rep rv h1
      cases ns with
      | nil => cases h2
      | cons i ns =>
        cases h2
        refine cr_max hc pins s σ H _ us Q I r ⟨_, _, rfl, h3, Nat.succ_pos _, fun m hm hle => ?_⟩
        have e1 : m = maxI i ns := Int.le_antisymm (by
          rcases List.mem_cons.mp hm with rfl | hm
          · exact (maxI_ge ns _).1
          · exact (maxI_ge ns i).2 m hm) (hle _ (maxI_mem ns i))
        rw [e1]
        exact k.now (.int _)
    | minl =>
      obtain ⟨ns, h1, h2⟩ := Option.bind_eq_some_iff.mp e
      obtain ⟨a, rfl, h3⟩ := ints_rep rv h1
      cases ns with
      | nil => cases h2
      | cons i ns =>
        cases h2
        refine cr_min hc pins s σ H _ us Q I r ⟨_, _, rfl, h3, Nat.succ_pos _, fun m hm hle => ?_⟩
        have e1 : m = minI i ns := Int.le_antisymm (hle _ (minI_mem ns i)) (by
          rcases List.mem_cons.mp hm with rfl | hm
          · exact (minI_le ns _).1
          · exact (minI_le ns i).2 m hm)
        rw [e1]
        exact k.now (.int _)
    | suml =>
      obtain ⟨ns, h1, rfl⟩ := Option.map_eq_some_iff.mp e
      obtain ⟨a, rfl, h3⟩ := ints_rep rv h1
      exact cr_sum hc pins s σ H _ us Q I r ⟨_, _, rfl, h3, k.now (.int _)⟩
    | alll =>
      obtain ⟨ns, h1, rfl⟩ := Option.map_eq_some_iff.mp e
      obtain ⟨a, rfl, h3⟩ := bls_rep rv h1
      exact cr_all hc pins s σ H _ us Q I r ⟨_, _, rfl, h3, k.now (.bl _)⟩
    | anyl =>
      obtain ⟨ns, h1, rfl⟩ := Option.map_eq_some_iff.mp e
      obtain ⟨a, rfl, h3⟩ := bls_rep rv h1
      exact cr_any hc pins s σ H _ us Q I r ⟨_, _, rfl, h3, k.now (.bl _)⟩
    | int =>
      cases rv <;> simp only [bfD] at e <;> cases e
      · exact call_int1 pins s σ H _ us Q I r (.inr ⟨_, rfl, k.now (.int _)⟩)
      · exact call_int1 pins s σ H _ us Q I r (.inl ⟨_, rfl, k.now (.int _)⟩)
    | bool =>
      cases rv <;> simp only [bfD] at e <;> cases e
      · exact call_bool1 pins s σ H _ us Q I r (.inr ⟨_, rfl, k.now (.bl _)⟩)
      · exact call_bool1 pins s σ H _ us Q I r (.inl ⟨_, rfl, k.now (.bl _)⟩)
    | str =>
      cases rv <;> simp only [bfD] at e <;> try (cases e; done)
      obtain ⟨h1, rfl⟩ := if_some e
      exact call_str_int pins s σ H _ us Q I r ⟨_, rfl, h1, k.now (.str _)⟩
    | tupof =>
      cases rv <;> simp only [bfD] at e <;> cases e
      · rename_i h1 r1
        exact call_tuple_of pins s σ H _ us Q I r ⟨_, _, rfl, .inl ⟨.inl (.inl (mask_some.mp h1).2), fun l hl => k.newT hd r1 hl⟩⟩
      · rename_i h1 r1
        exact call_tuple_of pins s σ H _ us Q I r ⟨_, _, rfl, .inr ⟨same_seqT (mask_le _ _) h1, k.now (.tup h1 r1)⟩⟩
    | max2 => cases rv <;> simp only [bfD] at e <;> cases e
    | min2 => cases rv <;> simp only [bfD] at e <;> cases e
  · obtain ⟨v, w, rfl, rv, rw'⟩ := ra.inv2
    cases b with
    | max2 =>
      cases rv <;> cases rw' <;> simp only [bfD] at e <;> cases e
      exact call_max2 hc pins s σ H _ us Q I r ⟨_, _, rfl, k.now (.int _)⟩
    | min2 =>
      cases rv <;> cases rw' <;> simp only [bfD] at e <;> cases e
      exact call_min2 hc pins s σ H _ us Q I r ⟨_, _, rfl, k.now (.int _)⟩
    | _ => simp only [bfD] at e; cases e
theorem bo_ok (hc : X.calm = true) (b : BO) : CallR X b.val (rDAo X.K (bfO b)) := by
  intro pins s σ H vs us Q I r h
  obtain ⟨A, ds, d, hd, ra, e, k⟩ := h
  obtain ⟨d1, rfl⟩ : ∃ d1, ds = [d1] := by
    match ds, e with
    | [e], _ => exact ⟨e, rfl⟩
    | [], h => cases b <;> cases h
    | _ :: _ :: _, h => cases b <;> simp [bfO] at h
  obtain ⟨v, rfl, rv⟩ := ra.inv1
  cases b with
  | listof =>
    obtain ⟨a, ws, rfl, h3, h4⟩ := seq_rep rv e
    exact call_list_of pins s σ H _ us Q I r ⟨_, _, rfl, h3, fun l hl => k.now h4 hl⟩
  | sorted =>
    by_cases hd1 : ∃ kd, d1 = .dic kd
    · obtain ⟨kd, rfl⟩ := hd1
      simp only [bfO] at e
      obtain ⟨ns, h1, h2⟩ := Option.bind_eq_some_iff.mp e
      obtain ⟨h3, rfl⟩ := if_some h2
      cases rv with
      | dic g1 g2 =>
        refine call_sortedDI hc pins s σ H _ us Q I r ⟨_, _, ns, rfl, rd_same (mask_le _ _) g1, g2.keysI h1, h3, fun ns' p hp hs hn => ?_⟩
        have e1 : ns' = isort ns := sorted_one (hp.trans (isort_perm ns).symm) hs (isort_sorted ns)
        subst e1
        exact k.now (RepA.of_ints _) hn
    have e : ((lisOf d1).bind intsOf).map (fun ns => (isort ns).map D.int) = some d := by
      cases d1 <;> first | exact e | exact absurd ⟨_, rfl⟩ hd1
    obtain ⟨ns, h1, rfl⟩ := Option.map_eq_some_iff.mp e
    obtain ⟨a, rfl, h3⟩ := ints_rep rv h1
    refine cr_sortedI pins s σ H _ us Q I r ⟨_, _, rfl, h3, fun ns' p hp hs hn => ?_⟩
    have e1 : ns' = isort ns := sorted_one (hp.trans (isort_perm ns).symm) hs (isort_sorted ns)
    subst e1
    exact k.now (RepA.of_ints _) hn
end
end Vp

end

section
set_option Elab.async false
set_option linter.all false
set_option autoImplicit false
set_option maxRecDepth 100000
/-! Vp4: subscripts, slices, calls, what is walked, comprehensions. -/
namespace Vp
open PySem PySem.Spec PyProof.Rows L2
section
variable {X : Cx} {e a b c : Expr} {pos : Pos} {fa fb fc : Env' → Option D}
/-! ### subscripts -/
def getK (kd : List (Key × D)) (k : Key) : Option D := match kd with
  | [] => none
  | (k', d) :: r => if k' = k then some d else getK r k
def ixD (x i : D) : Option D := match i with
  | .int i => (match x with
    | .str z => if z.length ≤ lineN then (atI z.cps.toList i).map fun c => .str ⟨#[c]⟩ else none
    | x => (seqOf x).bind fun ds => atI ds i)
  | .str y => (match x with
    | .dic kd => getK kd (.inr y)
    | _ => none)
  | _ => none
theorem getK_rep {K : PySem.W.Frag} {H : Hp} {k : Key} : ∀ {kv : List (Key × V)} {kd : List (Key × D)} {d : D}, RepK K H kv kd → getK kd k = some d → ∃ v, valV kv k = some v ∧ Rep K H v d
  | _, _, d, .nil, h => by cases h
  | _, _, d, .cons (k := k') (v := v) (kv := kv) (kd := kd) r1 r2, h => by
    simp only [getK] at h
    by_cases e : k' = k
    · rw [if_pos e] at h
      cases h
      exact ⟨v, by simp [valV, e], r1⟩
    · rw [if_neg e] at h
      obtain ⟨u, h1, h2⟩ := getK_rep r2 h
      refine ⟨u, ?_, h2⟩
      rw [← h1]
      simp [valV, e]
def rIxDk : R2 := fun x y H Q => ∃ p kvs k v, x = .ref p ∧ y = kV k ∧ Rd H p (.dK kvs) ∧ valV kvs k = some v ∧ Q v H
theorem ix_dk : IxR X rIxDk := by
  intro value slice pins s σ H x y v u Q I rx ry h hs
  obtain ⟨p, kvs, k, r, rfl, rfl, e, l, q⟩ := h
  obtain rfl : v = Value.ref p := rx
  obtain ⟨z, hd, vs, rel, dd⟩ := dk_rd I.hok e
  obtain ⟨w', hw, rw'⟩ := RelO.some_of (v := r) (o := valueAt vs k) (by rw [← l]; exact rel.val k)
  exact tail_any dd.mapOf.typeIs slot_dict_getitem.lookup (wpAny_getItem_of (kV_is ry) dd.mapOf hw ⟨r, H, I.tok _, rw', q⟩) hs
theorem atI_rep {K : PySem.W.Frag} {H : Hp} {vs : List V} {ds : List D} {i : Int} {d : D} (r : RepA K H vs ds) (h : atI ds i = some d) : ∃ v, atI vs i = some v ∧ Rep K H v d := by
  unfold atI at h ⊢
  obtain ⟨j, h1, h2⟩ := Option.bind_eq_some_iff.mp h
  obtain ⟨v, h3, h4⟩ := r.get h2
  rw [r.length, h1]
  exact ⟨v, h3, h4⟩
theorem ix_ok : IxR X (rD2 X.K ixD) := by
  intro value slice pins s σ H x y v u Q I rx ry h hsub
  obtain ⟨A, a, b, d, hd, ra, rb, e, k⟩ := h
  cases rb with
  | int i =>
    have go : (seqOf a).bind (fun ds => atI ds i) = some d → rIx X.K x (.int i) H Q := fun h => by
      obtain ⟨ds, h1, h2⟩ := Option.bind_eq_some_iff.mp h
      obtain ⟨p, vs, rfl, h3, h4⟩ := seq_rep ra h1
      obtain ⟨w, h5, h6⟩ := atI_rep h4 h2
      rcases h3 with h3 | h3
      · exact .inl ⟨p, vs, i, w, rfl, rfl, h3, h5, k.now h6⟩
      · exact .inr (.inl ⟨p, vs, i, w, rfl, rfl, h3, h5, k.now h6⟩)
    refine ix_seq value slice pins s σ H x _ v u Q I rx ry ?_ hsub
    cases ra with
    | str z =>
      simp only [ixD] at e
      split at e
      · rename_i hz
        obtain ⟨c, h1, rfl⟩ := Option.map_eq_some_iff.mp e
        exact .inr (.inr ⟨z, i, c, rfl, rfl, le_line hz, h1, k.now (.str _)⟩)
      · cases e
    | non => exact go e
    | bl _ => exact go e
    | int _ => exact go e
    | lst h1 r => exact go e
    | tup h1 r => exact go e
    | fls h1 r => exact go e
    | dic h1 r => exact go e
  | str y =>
    cases ra with
    | dic h1 r =>
      obtain ⟨w, h5, h6⟩ := getK_rep r e
      exact ix_dk value slice pins s σ H _ _ v u Q I rx ry ⟨_, _, .inr y, w, rfl, rfl, rd_same (mask_le A H) h1, h5, k.now h6⟩ hsub
    | _ => cases e
  | _ => cases e
theorem vp_ix (ha : PE X a (rdE X.K fa)) (hb : PE X b (rdE X.K fb)) (hs : PlainIx b) : PE X (.Subscript a b pos) (rdE X.K (ap2 ixD fa fb)) := pe_imp (pe_ix ix_ok ha hb hs) rd_op
/-- an item of a list of the def's own, by the list's place -/
def ixOwn (i : Nat) (fb : Env' → Option D) (E : Env') : Option D := match E[i]? with
  | some (.o ds) => (fb E).bind fun
    | .int j => atI ds j
    | _ => none
  | _ => none
theorem vp_ixOwn {i : Nat} {x : Str} {p : Pos} (hN : X.N[i]? = some x) (hv : Vis X.env.scope x) (hd : (x == ("__debug__" : Str)) = false) (hcd : (x == ("__classdict__" : Str)) = false) (hb : PE X b (rdE X.K fb)) (hs : PlainIx b) :
    PE X (.Subscript (.Name x p) b pos) (rdE X.K (ixOwn i fb)) := by
  refine pe_imp (pe_ix ix_list (pe_var hN hv hd hcd) hb hs) ?_
  rintro σ H Q ⟨L, A, E, d, er, h, k⟩
  unfold ixOwn at h
  split at h
  · rename_i ds e
    obtain ⟨q, vs, h1, h2, h3, h4⟩ := er.own i ds e
    obtain ⟨y, h5, h6⟩ := Option.bind_eq_some_iff.mp h
    refine ⟨_, h1, L, A, E, y, er, h5, fun w H1 s1 r1 => ?_⟩
    cases y with
    | int j =>
      cases r1
      obtain ⟨z, h7, h8⟩ := atI_rep h4 h6
      exact ⟨q, vs, j, z, rfl, rfl, .inl (.inl (s1 _ _ h3)), h7, k _ H1 s1 (h8.mono (mask_same s1))⟩
    | _ => cases h6
  · cases h
/-- its length -/
def lenOwn (i : Nat) (E : Env') : Option D := match E[i]? with
  | some (.o ds) => some (.int (ds.length : Nat))
  | _ => none
theorem vp_lenOwn {i : Nat} {x : Str} {p q : Pos} (hN : X.N[i]? = some x) (hv : Vis X.env.scope x) (hd : (x == ("__debug__" : Str)) = false) (hcd : (x == ("__classdict__" : Str)) = false) (hg : Gl X "len") (hm : X.mg "len" = none) :
    PE X (.Call (.Name "len" q) [.Name x p] [] pos) (rdE X.K (lenOwn i)) := by
  refine pe_imp (pe_callB call_len hg hm PySem.boot_len (pa_cons (pe_var hN hv hd hcd) pa_nil)) ?_
  rintro σ H Q ⟨L, A, E, d, er, h, k⟩
  unfold lenOwn at h
  split at h
  · rename_i ds e
    cases h
    obtain ⟨q, vs, h1, h2, h3, h4⟩ := er.own i ds e
    exact ⟨_, h1, _, _, rfl, .inl ⟨vs, .inl (.inl h3), rfl⟩, by rw [h4.length]; exact k.now (.int _)⟩
  · cases h

/-- x in, not in a list of the def's own -/
def inOwn (neg : Bool) (i : Nat) (fa : Env' → Option D) (E : Env') : Option D := match E[i]? with
  | some (.o ds) => (fa E).bind fun a => if flatD a = true ∧ ds.all flatD = true then some (.bl (if neg then !(ds.any fun y => eqF y a) else ds.any fun y => eqF y a)) else none
  | _ => none
theorem vp_inOwn {neg : Bool} {i : Nat} {x : Str} {p : Pos} (hN : X.N[i]? = some x) (hv : Vis X.env.scope x) (hd : (x == ("__debug__" : Str)) = false) (hcd : (x == ("__classdict__" : Str)) = false) (ha : PE X a (rdE X.K fa)) :
    PE X (.Compare a [if neg = true then .NotIn else .In] [.Name x p] pos) (rdE X.K (inOwn neg i fa)) := by
  have key : PE X (.Compare a [if neg = true then .NotIn else .In] [.Name x p] pos) (tOp (rIn X.K neg) (rdE X.K fa) (tVar i)) := by
    cases neg with
    | true => exact pe_cmpR op_notIn_seq ha (pe_var hN hv hd hcd) rfl
    | false => exact pe_cmpR op_in_seq ha (pe_var hN hv hd hcd) rfl
  refine pe_imp key ?_
  rintro σ H Q ⟨L, A, E, d, er, h, k⟩
  unfold inOwn at h
  split at h
  · rename_i ds e
    obtain ⟨q, vs, h1, h2, h3, h4⟩ := er.own i ds e
    obtain ⟨y, h5, h6⟩ := Option.bind_eq_some_iff.mp h
    obtain ⟨h7, rfl⟩ := if_some h6
    refine ⟨L, A, E, y, er, h5, fun w H1 s1 r1 => ⟨_, h1, q, vs, rfl, .inl (.inl (.inl (s1 _ _ h3))), r1.flat h7.1, (h4.mono (mask_same s1)).flat h7.2, ?_⟩⟩
    rw [← (h4.mono (mask_same s1)).anyF r1 h7.1 h7.2]
    exact k _ H1 s1 (by cases neg <;> exact .bl _)
  · cases h
theorem vt_inOwn {neg : Bool} {i : Nat} {x : Str} {p : Pos} (hN : X.N[i]? = some x) (hv : Vis X.env.scope x) (hd : (x == ("__debug__" : Str)) = false) (hcd : (x == ("__classdict__" : Str)) = false) (ha : PE X a (rdE X.K fa)) :
    PT X (.Compare a [if neg = true then .NotIn else .In] [.Name x p] pos) (rdT X.K fun E => (inOwn neg i fa E).bind toB) := by
  have key : PT X (.Compare a [if neg = true then .NotIn else .In] [.Name x p] pos) (tTest (tOp (rIn X.K neg) (rdE X.K fa) (tVar i))) := by
    cases neg with
    | true => exact pt_cmpR op_notIn_seq ha (pe_var hN hv hd hcd) rfl
    | false => exact pt_cmpR op_in_seq ha (pe_var hN hv hd hcd) rfl
  refine pt_imp key ?_
  rintro σ H Q ⟨L, A, E, d, er, h, k⟩
  obtain ⟨x, hx, h⟩ := Option.bind_eq_some_iff.mp h
  cases toB_eq h
  unfold inOwn at hx
  split at hx
  · rename_i ds e
    obtain ⟨q, vs, h1, h2, h3, h4⟩ := er.own i ds e
    obtain ⟨y, h5, h6⟩ := Option.bind_eq_some_iff.mp hx
    obtain ⟨h7, h8⟩ := if_some h6
    refine ⟨L, A, E, y, er, h5, fun w H1 s1 r1 => ⟨_, h1, q, vs, rfl, .inl (.inl (.inl (s1 _ _ h3))), r1.flat h7.1, (h4.mono (mask_same s1)).flat h7.2, ?_⟩⟩
    rw [← (h4.mono (mask_same s1)).anyF r1 h7.1 h7.2]
    refine ⟨d, ?_, k H1 s1⟩
    injection h8 with h8
    rw [← h8]
  · cases hx
/-! ### slices -/
/-- xs[::-1] -/
def revD (fa : Env' → Option D) (E : Env') : Option (List D) := (fa E).bind fun d => (lisOf d).map List.reverse
theorem vp_rev {k : Nat} {p1 p2 p3 : Pos} (ha : PE X e (rdE X.K fa)) : PE X (.Subscript e (.Slice none none (some (.UnaryOp .USub (.Constant (.int 1) k p1) p2)) p3) pos) (rdO X.K (revD fa)) := by
  refine pe_imp (pe_revL ha) ?_
  rintro σ H Q ⟨L, A, E, d, er, h, k⟩
  obtain ⟨x, hx, h⟩ := Option.bind_eq_some_iff.mp h
  obtain ⟨ds, h1, rfl⟩ := Option.map_eq_some_iff.mp h
  refine ⟨L, A, E, x, er, hx, fun v H1 s1 r1 => ?_⟩
  obtain ⟨a, vs, rfl, h3, h4⟩ := lis_rep r1 h1
  exact ⟨a, vs, rfl, h3, fun p hp => (k.mono s1).now h4.reverse hp⟩
def optI : Option (Option D) → Option (Option Int)
  | some none => some none
  | some (some (.int i)) => some (some i)
  | _ => none
def partD (f : Option (Env' → Option D)) (E : Env') : Option (Option Int) := match f with
  | none => some none
  | some f => (f E).bind fun
    | .int i => some (some i)
    | _ => none
def rdP (K : PySem.W.Frag) (f : Env' → Option (Option Int)) : TO := fun σ H Q => ∃ L A E i, ER K L A σ H E ∧ f E = some i ∧ ∀ H', Same H H' → Q i H'
theorem po_imp {o : Option Expr} {t t' : TO} (h : PO X o t) (i : ∀ σ H Q, t' σ H Q → t σ H Q) : PO X o t' := ⟨fun pins s σ H Q I w => h.run pins s σ H Q I (i _ _ _ w)⟩
theorem vo_none : PO X none (rdP X.K (partD none)) := by
  refine po_imp po_none ?_
  rintro σ H Q ⟨L, A, E, d, er, h, k⟩
  cases h
  exact k H (Same.refl H)
theorem vo_some (h : PE X e (rdE X.K fa)) : PO X (some e) (rdP X.K (partD (some fa))) := by
  refine po_imp (po_some h) ?_
  rintro σ H Q ⟨L, A, E, d, er, h, k⟩
  obtain ⟨x, h1, h2⟩ := Option.bind_eq_some_iff.mp h
  refine ⟨L, A, E, x, er, h1, fun v H1 s1 r1 => ?_⟩
  cases x with
  | int i =>
    cases h2
    cases r1
    exact ⟨i, rfl, k H1 s1⟩
  | _ => cases h2
def cutD {α : Type} (xs : List α) (lo hi : Option Int) : List α := (xs.drop (HT.sIx xs.length 0 lo)).take (HT.sIx xs.length xs.length hi - HT.sIx xs.length 0 lo)
theorem cut_rep {K : PySem.W.Frag} {H : Hp} {vs : List V} {ds : List D} (r : RepA K H vs ds) (lo hi : Option Int) : RepA K H (cutV vs lo hi) (cutD ds lo hi) := by
  unfold cutV cutD
  rw [r.length]
  exact (r.drop _).take _
def slD (x : D) (lo hi : Option Int) : Option D := match x with
  | .str z => if z.length ≤ lineN then some (.str (cutS z lo hi)) else none
  | .tup ds => if HT.sIx ds.length 0 lo = 0 ∧ HT.sIx ds.length ds.length hi = ds.length then none else some (.tup (cutD ds lo hi))
  | .lst ds => some (.lst (cutD ds lo hi))
  | .fls ds => some (.lst (cutD ds lo hi))
  | _ => none
def slO (x : D) (lo hi : Option Int) : Option (List D) := (lisOf x).map fun ds => cutD ds lo hi
def ap3 {α : Type} (g : D → Option Int → Option Int → Option α) (fa : Env' → Option D) (fl fu : Env' → Option (Option Int)) (E : Env') : Option α := (fa E).bind fun x => (fl E).bind fun l => (fu E).bind fun u => g x l u
variable {lo hi : Option Expr} {fl fu : Env' → Option (Option Int)} {p2 : Pos}
theorem vp_slO (ha : PE X e (rdE X.K fa)) (hl : PO X lo (rdP X.K fl)) (hu : PO X hi (rdP X.K fu)) : PE X (.Subscript e (.Slice lo hi none p2) pos) (rdO X.K (ap3 slO fa fl fu)) := by
  refine pe_imp (pe_slice sl_list ha hl hu) ?_
  rintro σ H Q ⟨L, A, E, d, er, h, k⟩
  obtain ⟨x, hx, h⟩ := Option.bind_eq_some_iff.mp h
  obtain ⟨l, hl, h⟩ := Option.bind_eq_some_iff.mp h
  obtain ⟨u, hu, h⟩ := Option.bind_eq_some_iff.mp h
  refine ⟨L, A, E, x, er, hx, fun v H1 s1 r1 => ⟨L, A, E, l, er.mono s1, hl, fun H2 s2 => ⟨L, A, E, u, (er.mono s1).mono s2, hu, fun H3 s3 => ?_⟩⟩⟩
  obtain ⟨ds, h1, rfl⟩ := Option.map_eq_some_iff.mp h
  obtain ⟨a, vs, rfl, h3, h4⟩ := lis_rep (r1.mono (mask_same (s2.trans s3))) h1
  exact ⟨a, vs, rfl, h3, fun p hp => (k.mono ((s1.trans s2).trans s3)).now (cut_rep h4 l u) hp⟩
theorem sl_ok : SlR X (fun x l u H Q => ∃ A a d, Dom A H ∧ Rep X.K (mask A H) x a ∧ slD a l u = some d ∧ Post X.K A H d Q) := by
  refine fun pins s σ H x v vl vu lo hi sl Q I rx hs pl pu h => (sl_list.or (sl_tup.or sl_str)) pins s σ H x v vl vu lo hi sl Q I rx hs pl pu ?_
  obtain ⟨A, a, d, hd, ra, e, k⟩ := h
  cases ra <;> simp only [slD] at e <;> try (cases e; done)
  · obtain ⟨h1, rfl⟩ := if_some e
    exact .inr (.inr ⟨_, rfl, le_line h1, k.now (.str _)⟩)
  · rename_i h1 r
    cases e
    exact .inl ⟨_, _, rfl, .inl (.inl (mask_some.mp h1).2), fun p hp => (k.ofO hd).now (cut_rep r lo hi) hp⟩
  · rename_i h1 r
    split at e
    · cases e
    · rename_i hn
      cases e
      refine .inr (.inl ⟨_, _, rfl, same_seqT (mask_le _ _) h1, ?_, fun p hp => k.newT hd (cut_rep r lo hi) hp⟩)
      rw [r.length]
      exact hn
  · rename_i h1 r
    cases e
    exact .inl ⟨_, _, rfl, (mask_le _ _).seq h1, fun p hp => (k.ofO hd).now (cut_rep r lo hi) hp⟩
theorem vp_sl (ha : PE X e (rdE X.K fa)) (hl : PO X lo (rdP X.K fl)) (hu : PO X hi (rdP X.K fu)) : PE X (.Subscript e (.Slice lo hi none p2) pos) (rdE X.K (ap3 slD fa fl fu)) := by
  refine pe_imp (pe_slice sl_ok ha hl hu) ?_
  rintro σ H Q ⟨L, A, E, d, er, h, k⟩
  obtain ⟨x, hx, h⟩ := Option.bind_eq_some_iff.mp h
  obtain ⟨l, hl, h⟩ := Option.bind_eq_some_iff.mp h
  obtain ⟨u, hu, h⟩ := Option.bind_eq_some_iff.mp h
  refine ⟨L, A, E, x, er, hx, fun v H1 s1 r1 => ⟨L, A, E, l, er.mono s1, hl, fun H2 s2 => ⟨L, A, E, u, (er.mono s1).mono s2, hu, fun H3 s3 => ?_⟩⟩⟩
  exact ⟨A, x, d, (((er.mono s1).mono s2).mono s3).dom, r1.mono (mask_same (s2.trans s3)), h, k.mono ((s1.trans s2).trans s3)⟩

/-! ### calls -/
variable {es : List Expr} {fs : Env' → Option (List D)} {x : Str} {p : Pos}
def apA {α : Type} (g : List D → Option α) (fs : Env' → Option (List D)) (E : Env') : Option α := (fs E).bind g
theorem rd_cb {g : List D → Option D} : ∀ σ H Q, rdE X.K (apA g fs) σ H Q → tCB (rDA X.K g) (rdA X.K fs) σ H Q := by
  rintro σ H Q ⟨L, A, E, d, er, h, k⟩
  obtain ⟨ds, h1, h2⟩ := Option.bind_eq_some_iff.mp h
  exact ⟨L, A, E, ds, er, h1, fun vs H1 s1 r1 => ⟨A, ds, d, (er.mono s1).dom, r1, h2, k.mono s1⟩⟩
theorem rd_cbo {g : List D → Option (List D)} : ∀ σ H Q, rdO X.K (apA g fs) σ H Q → tCB (rDAo X.K g) (rdA X.K fs) σ H Q := by
  rintro σ H Q ⟨L, A, E, d, er, h, k⟩
  obtain ⟨ds, h1, h2⟩ := Option.bind_eq_some_iff.mp h
  exact ⟨L, A, E, ds, er, h1, fun vs H1 s1 r1 => ⟨A, ds, d, (er.mono s1).dom, r1, h2, k.mono s1⟩⟩
theorem vp_bf (b : BF) (hc : X.calm = true) (hg : Gl X b.name) (hm : X.mg b.name = none) (ha : PA X (e :: es) (rdA X.K fs)) (hst : (e :: es).all notStar = true) : PE X (.Call (.Name b.name p) (e :: es) [] pos) (rdE X.K (apA (bfD b) fs)) := by
  have h1 : notStar e = true ∧ es.all notStar = true := by
    rw [List.all_cons, Bool.and_eq_true] at hst
    exact hst
  have k := bf_ok hc b
  refine pe_imp (t := tCB (rDA X.K (bfD b)) (rdA X.K fs)) ?_ rd_cb
  cases b with
  | len => exact pe_callB k hg hm PySem.boot_len ha (by decide) (by decide) (star_cons h1.1) (back_plain h1.2)
  | abs => exact pe_callB k hg hm boot_abs ha (by decide) (by decide) (star_cons h1.1) (back_plain h1.2)
  | max2 => exact pe_callB k hg hm boot_max ha (by decide) (by decide) (star_cons h1.1) (back_plain h1.2)
  | min2 => exact pe_callB k hg hm boot_min ha (by decide) (by decide) (star_cons h1.1) (back_plain h1.2)
  | maxl => exact pe_callB k hg hm boot_max ha (by decide) (by decide) (star_cons h1.1) (back_plain h1.2)
  | minl => exact pe_callB k hg hm boot_min ha (by decide) (by decide) (star_cons h1.1) (back_plain h1.2)
  | suml => exact pe_callB k hg hm (by decide +kernel) ha (by decide) (by decide) (star_cons h1.1) (back_plain h1.2)
  | alll => exact pe_callB k hg hm (by decide +kernel) ha (by decide) (by decide) (star_cons h1.1) (back_plain h1.2)
  | anyl => exact pe_callB k hg hm (by decide +kernel) ha (by decide) (by decide) (star_cons h1.1) (back_plain h1.2)
  | int => exact pe_callTy k hg hm boot_int ha (by decide) (by decide) (star_cons h1.1) (back_plain h1.2)
  | bool => exact pe_callTy k hg hm boot_bool ha (by decide) (by decide) (star_cons h1.1) (back_plain h1.2)
  | str => exact pe_callTy k hg hm boot_str ha (by decide) (by decide) (star_cons h1.1) (back_plain h1.2)
  | tupof => exact pe_callTy k hg hm boot_tuple ha (by decide) (by decide) (star_cons h1.1) (back_plain h1.2)
theorem vp_bo (b : BO) (hg : Gl X b.name) (hm : X.mg b.name = none) (ha : PA X (e :: es) (rdA X.K fs)) (hst : (e :: es).all notStar = true) (hc : X.calm = true) : PE X (.Call (.Name b.name p) (e :: es) [] pos) (rdO X.K (apA (bfO b) fs)) := by
  have h1 : notStar e = true ∧ es.all notStar = true := by
    rw [List.all_cons, Bool.and_eq_true] at hst
    exact hst
  have k := bo_ok hc b
  refine pe_imp (t := tCB (rDAo X.K (bfO b)) (rdA X.K fs)) ?_ rd_cbo
  cases b with
  | listof => exact pe_callTy k hg hm boot_list ha (by decide) (by decide) (star_cons h1.1) (back_plain h1.2)
  | sorted => exact pe_callB k hg hm boot_sorted ha (by decide) (by decide) (star_cons h1.1) (back_plain h1.2)
/-- math.gcd -/
def gcdD : List D → Option D
  | [.int a, .int b] => some (.int ((Nat.gcd a.natAbs b.natAbs : Nat) : Int))
  | _ => none
theorem gcd_ok : CallR X (.builtin "math.gcd") (rDA X.K gcdD) := by
  intro pins s σ H vs us Q I r h
  obtain ⟨A, ds, d, hd, ra, e, k⟩ := h
  unfold gcdD at e
  split at e
  · cases e
    obtain ⟨v, w, rfl, rv, rw'⟩ := ra.inv2
    cases rv
    cases rw'
    exact cr_gcd pins s σ H _ us Q I r ⟨_, _, rfl, k.now (.int _)⟩
  · cases e
theorem vp_gcd (hg : Gl X x) (hm : X.mg x = some (.builtin "math.gcd")) (ha : PA X (e :: es) (rdA X.K fs)) (hst : (e :: es).all notStar = true) (hdb : (x == ("__debug__" : Str)) = false) : PE X (.Call (.Name x p) (e :: es) [] pos) (rdE X.K (apA gcdD fs)) := by
  rw [List.all_cons, Bool.and_eq_true] at hst
  exact pe_imp (pe_callBfun gcd_ok hg hm ha hdb (star_cons hst.1) (back_plain hst.2)) rd_cb
/-- isinstance(x, T) of a built-in type -/
inductive TyN where
  | int | bool | str | list | tuple
  deriving DecidableEq
def TyN.s : TyN → String
  | .int => "int" | .bool => "bool" | .str => "str" | .list => "list" | .tuple => "tuple"
def TyN.n : TyN → Str
  | .int => "int" | .bool => "bool" | .str => "str" | .list => "list" | .tuple => "tuple"
def isiB (T : TyN) : D → Bool
  | .non => false
  | .bl _ => T == .bool || T == .int
  | .int _ => T == .int
  | .str _ => T == .str
  | .lst _ => T == .list
  | .tup _ => T == .tuple
  | .fls _ => T == .list
  | .dic _ => false
theorem kit5 (T : TyN) : (kitB "NoneType" T.s = some false ∧ kitB "dict" T.s = some false ∧ kitB "bool" T.s = some (T == .bool || T == .int) ∧ kitB "int" T.s = some (T == .int)) ∧ kitB "str" T.s = some (T == .str) ∧ kitB "list" T.s = some (T == .list) ∧ kitB "tuple" T.s = some (T == .tuple) := by
  cases T <;> decide +kernel
theorem ty_rep {K : PySem.W.Frag} {A : List Addr} {H : Hp} {x : V} {d : D} (r : Rep K (mask A H) x d) (T : TyN) : ∃ t, TyX K H x t ∧ PySem.W.kitOne K t (.type T.s) = some (isiB T d) := by
  obtain ⟨⟨k0, k6, k1, k2⟩, k3, k4, k5⟩ := kit5 T
  cases r with
  | non => exact ⟨_, .base .non, kit_ty k0⟩
  | bl b => exact ⟨_, .base (.bl b), kit_ty k1⟩
  | int i => exact ⟨_, .base (.int i), kit_ty k2⟩
  | str x => exact ⟨_, .base (.str x), kit_ty k3⟩
  | lst h1 r => exact ⟨_, .base (.lst (mask_some.mp h1).2), kit_ty k4⟩
  | tup h1 r =>
    refine ⟨.type "tuple", ?_, kit_ty k5⟩
    rcases same_seqT (mask_le _ _) h1 with (h | ⟨o, h⟩) | ⟨o, its, n, h, hc, _⟩
    · exact .base (.tup h)
    · exact .fTuple h
    · exact .kTuple h hc
  | fls h1 r =>
    refine ⟨.type "list", ?_, kit_ty k4⟩
    rcases (mask_le _ _).seq h1 with (h | ⟨o, h⟩) | ⟨o, its, n, h, hc, _⟩
    · exact .base (.lst h)
    · exact .base (.frz h)
    · exact .kList h hc
  | dic h1 r =>
    refine ⟨.type "dict", ?_, kit_ty k6⟩
    rcases rd_same (mask_le _ _) h1 with h | ⟨o, h⟩
    · exact .base (.dK h)
    · exact .fDict h
theorem boot_tyn (T : TyN) : bootBuiltins T.n = some (.type T.s) := by cases T <;> decide +kernel
def isiD (T : TyN) (fa : Env' → Option D) (E : Env') : Option D := (fa E).map fun d => .bl (isiB T d)
theorem vp_isi (T : TyN) {q : Pos} (hg : Gl X "isinstance") (hm : X.mg "isinstance" = none) (hgT : Gl X T.n) (hmT : X.mg T.n = none) (ha : PE X e (rdE X.K fa)) (hst : notStar e = true) :
    PE X (.Call (.Name "isinstance" p) [e, .Name T.n q] [] pos) (rdE X.K (isiD T fa)) := by
  have hT : PE X (.Name T.n q) (tC (.ty T.s)) := pe_bltn hgT hmT (boot_tyn T) rfl (by cases T <;> decide) (by cases T <;> decide)
  refine pe_imp (pe_callB call_isi hg hm boot_isinstance (pa_cons ha (pa_cons hT pa_nil (star_cons rfl)) (star_cons hst)) (by decide) (by decide) (star_cons hst) (back_plain rfl)) ?_
  rintro σ H Q ⟨L, A, E, d, er, h, k⟩
  obtain ⟨x, h1, rfl⟩ := Option.map_eq_some_iff.mp h
  refine ⟨L, A, E, x, er, h1, fun v H1 s1 r1 => ?_⟩
  obtain ⟨t, h3, h4⟩ := ty_rep r1 T
  exact ⟨v, .ty T.s, t, .type T.s, _, rfl, .ty _, h3, h4, (k.mono s1).now (.bl _)⟩
/-- n.bit_length() -/
def bitsD (fa : Env' → Option D) (E : Env') : Option D := (fa E).bind fun
  | .int i => some (.int (Builtin.Int.intBits i : Nat))
  | _ => none
theorem vp_bits {apos : Pos} (ha : PE X e (rdE X.K fa)) (hbase : attributeBase e "bit_length" X.env (eval e X.env) = eval e X.env) (hline : (apos.endLine == pos.line) = true) : PE X (.Call (.Attribute e "bit_length" apos) [] [] pos) (rdE X.K (bitsD fa)) := by
  refine pe_imp (pe_bits ha hbase hline) ?_
  rintro σ H Q ⟨L, A, E, d, er, h, k⟩
  obtain ⟨x, h1, h2⟩ := Option.bind_eq_some_iff.mp h
  refine ⟨L, A, E, x, er, h1, fun v H1 s1 r1 => ?_⟩
  cases x with
  | int i =>
    cases h2
    cases r1
    exact ⟨i, rfl, (k.mono s1).now (.int _)⟩
  | _ => cases h2

/-! ### written dicts -/
def keyD : D → Option Key
  | .int i => some (.inl i)
  | .str x => some (.inr x)
  | _ => none
def putD (kvs : List (Key × D)) (k : Key) (v : D) : List (Key × D) :=
  if (kvs.any fun kv => decide (kv.1 = k)) = true then kvs.map (fun kv => if kv.1 = k then (kv.1, v) else kv) else kvs ++ [(k, v)]
def mergeD (kvs more : List (Key × D)) : List (Key × D) := more.foldl (fun acc kv => putD acc kv.1 kv.2) kvs
section
variable {K : PySem.W.Frag} {H : Hp}
theorem RepK.any {k : Key} : ∀ {kv : List (Key × V)} {kd : List (Key × D)}, RepK K H kv kd → (kd.any fun p => decide (p.1 = k)) = kv.any fun p => decide (p.1 = k)
  | _, _, .nil => rfl
  | _, _, .cons h r => by
    rw [List.any_cons, List.any_cons, r.any]
theorem RepK.append : ∀ {kv lv : List (Key × V)} {kd ld : List (Key × D)}, RepK K H kv kd → RepK K H lv ld → RepK K H (kv ++ lv) (kd ++ ld)
  | _, _, _, _, .nil, q => q
  | _, _, _, _, .cons h r, q => .cons h (RepK.append r q)
theorem RepK.repl {k : Key} {v : V} {d : D} (h : Rep K H v d) : ∀ {kv : List (Key × V)} {kd : List (Key × D)}, RepK K H kv kd → RepK K H (kv.map fun p => if p.1 = k then (p.1, v) else p) (kd.map fun p => if p.1 = k then (p.1, d) else p)
  | _, _, .nil => .nil
  | _, _, .cons (k := j) q r => by
    rw [List.map_cons, List.map_cons]
    by_cases e : j = k
    · rw [if_pos e, if_pos e]
      exact .cons h (r.repl h)
    · rw [if_neg e, if_neg e]
      exact .cons q (r.repl h)
theorem RepK.put {k : Key} {v : V} {d : D} (h : Rep K H v d) {kv : List (Key × V)} {kd : List (Key × D)} (r : RepK K H kv kd) : RepK K H (putK kv k v) (putD kd k d) := by
  unfold putK putD
  rw [r.any]
  split
  · exact r.repl h
  · exact r.append (.cons h .nil)
theorem RepK.merge : ∀ {mv : List (Key × V)} {md : List (Key × D)} {kv : List (Key × V)} {kd : List (Key × D)}, RepK K H mv md → RepK K H kv kd → RepK K H (mergeK kv mv) (mergeD kd md)
  | _, _, _, _, .nil, q => q
  | _, _, _, _, .cons h r, q => r.merge (q.put h)
theorem key_rep {v : V} {d : D} {k : Key} (r : Rep K H v d) (h : keyD d = some k) : v = kV k := by
  cases r <;> simp only [keyD] at h <;> cases h <;> rfl
end
/-- keys and values in turn -/
def pairsD : List (Env' → Option D) → List (Env' → Option D) → Env' → Option (List (Key × D))
  | [], [], _ => some []
  | k :: ks, v :: vs, E => ((k E).bind keyD).bind fun x => (v E).bind fun y => (pairsD ks vs E).map fun r => (x, y) :: r
  | _, _, _ => none
def dicD (ks vs : List (Env' → Option D)) (E : Env') : Option D := (pairsD ks vs E).bind fun ps => if ps.length ≤ 15 then some (.dic (mergeD [] ps)) else none
def rdPs (K : PySem.W.Frag) : List (Env' → Option D) → List (Env' → Option D) → List (TE × TE)
  | k :: ks, v :: vs => (rdE K k, rdE K v) :: rdPs K ks vs
  | _, _ => []
theorem rd_pairs {K : PySem.W.Frag} {L A : List Addr} {σ : L2.St} {E : Env'} {k : List (V × V) → Hp → Prop} : ∀ (fs gs : List (Env' → Option D)) (H : Hp) (ps : List (Key × D)), ER K L A σ H E → pairsD fs gs E = some ps →
    (∀ kv H', Same H H' → RepK K (mask A H') kv ps → k (kv.map fun p => (kV p.1, p.2)) H') → tPairs (rdPs K fs gs) σ H k
  | [], [], H, ps, er, h, kk => by
    simp only [pairsD] at h
    cases h
    exact kk [] H (Same.refl H) .nil
  | f :: fs, g :: gs, H, ps, er, h, kk => by
    simp only [pairsD] at h
    obtain ⟨x, hx, h⟩ := Option.bind_eq_some_iff.mp h
    obtain ⟨d, hd, hx⟩ := Option.bind_eq_some_iff.mp hx
    obtain ⟨y, hy, h⟩ := Option.bind_eq_some_iff.mp h
    obtain ⟨r, hr, rfl⟩ := Option.map_eq_some_iff.mp h
    refine ⟨L, A, E, d, er, hd, fun v H1 s1 r1 => ⟨L, A, E, y, er.mono s1, hy, fun w H2 s2 r2 => ?_⟩⟩
    refine rd_pairs fs gs H2 r ((er.mono s1).mono s2) hr fun kv H3 s3 r3 => ?_
    rw [key_rep r1 hx]
    exact kk ((x, w) :: kv) H3 ((s1.trans s2).trans s3) (.cons (r2.mono (mask_same s3)) r3)
  | [], _ :: _, H, ps, er, h, kk => by simp only [pairsD] at h; cases h
  | _ :: _, [], H, ps, er, h, kk => by simp only [pairsD] at h; cases h
theorem vp_dic {keys : List (Option Expr)} {values : List Expr} {fs gs : List (Env' → Option D)} (h : PPs X pos keys values (rdPs X.K fs gs)) (hall : keys.all (·.isSome) = true) (hl : keys.length = values.length) (h0 : keys ≠ []) (h15 : keys.length ≤ 15) :
    PE X (.Dict keys values pos) (rdE X.K (dicD fs gs)) := by
  refine pe_imp (pe_disp h hall hl h0 h15) ?_
  rintro σ H Q ⟨L, A, E, d, er, h, k⟩
  obtain ⟨ps, h1, h2⟩ := Option.bind_eq_some_iff.mp h
  obtain ⟨h3, rfl⟩ := if_some h2
  intro p hp
  have s0 : Same H (upd H p (.dK [])) := same_upd hp
  refine rd_pairs fs gs _ ps (er.more s0 hp (by rw [upd_same]; simp)) h1 fun kv H1 s1 r1 => ?_
  have hl' : kv.length = ps.length := by
    have key : ∀ {kv : List (Key × V)} {kd : List (Key × D)}, RepK X.K (mask (p :: A) H1) kv kd → kv.length = kd.length := by
      intro kv
      induction kv with
      | nil => intro kd r; cases r; rfl
      | cons a kv ih => intro kd r; cases r with | cons _ r => rw [List.length_cons, List.length_cons, ih r]
    exact key r1
  refine ⟨s1 _ _ upd_same, kv, rfl, by rw [hl']; exact h3, ?_⟩
  have hpA : p ∉ A := fun z => er.dom p z hp
  refine k _ _ (fun b o e => ?_) (.dic (.inl (mask_some.mpr ⟨hpA, upd_same⟩)) ?_)
  · have hb := ne_of_none e hp
    rw [upd_ne hb]
    exact s1 _ _ (s0 _ _ e)
  · have r2 : RepK X.K (mask (p :: A) H1) (mergeK [] kv) (mergeD [] ps) := r1.merge .nil
    rw [← mask_upd (o := .dK (mergeK [] kv)) (List.mem_cons_self (a := p) (l := A))] at r2
    exact r2.mono (mask_sub (fun a ha => List.mem_cons_of_mem _ ha) _)
/-! ### own defs -/
/-- the promise of a def by its function on data -/
def spD (K : PySem.W.Frag) (g : List D → Option D) : Sp := fun vs H Q _ => ∃ A ds d, Dom A H ∧ RepA K (mask A H) vs ds ∧ g ds = some d ∧ Post K A H d Q
theorem vp_call {k : Nat} {f : Addr} {fd : FuncData} {ps : List Str} {g : List D → Option D} (F : FnOk X.prog X.w X.K X.mg X.base CX0 k f fd ps (spD X.K g)) (hr : Room k X.A) (hg : Gl X x) (hm : X.mg x = some (.ref f)) (hk : PySem.W.keepIn X.K (.ref f) = true) (hb : Binds X.K fd ps [])
    (ha : PA X (e :: es) (rdA X.K fs)) (hst : (e :: es).all notStar = true) (hdb : (x == ("__debug__" : Str)) = false) : PE X (.Call (.Name x p) (e :: es) [] pos) (rdE X.K (apA g fs)) := by
  rw [List.all_cons, Bool.and_eq_true] at hst
  refine pe_imp (pe_call F hr hg hm hk hb .nil pass0 ha hdb (star_cons hst.1) (back_plain hst.2)) ?_
  rintro σ H Q ⟨L, A, E, d, er, h, kk⟩
  obtain ⟨ds, h1, h2⟩ := Option.bind_eq_some_iff.mp h
  refine ⟨L, A, E, ds, er, h1, fun vs H1 s1 r1 => ⟨A, ds, d, (er.mono s1).dom, by rw [List.append_nil]; exact r1, h2, kk.mono s1⟩⟩
theorem vp_call0 {k : Nat} {f : Addr} {fd : FuncData} {ps : List Str} {g : List D → Option D} (F : FnOk X.prog X.w X.K X.mg X.base CX0 k f fd ps (spD X.K g)) (hr : Room k X.A) (hg : Gl X x) (hm : X.mg x = some (.ref f)) (hk : PySem.W.keepIn X.K (.ref f) = true) (hb : Binds X.K fd ps [])
    (hdb : (x == ("__debug__" : Str)) = false) : PE X (.Call (.Name x p) [] [] pos) (rdE X.K fun _ => g []) := by
  refine pe_imp (pe_call0 F hr hg hm hk hb .nil pass0 hdb) ?_
  rintro σ H Q ⟨L, A, E, d, er, h, kk⟩
  exact ⟨A, [], d, er.dom, .nil, h, kk⟩
/-- the promise of a def that gives a new list -/
def spDo (K : PySem.W.Frag) (g : List D → Option (List D)) : Sp := fun vs H Q _ => ∃ A ds es, Dom A H ∧ RepA K (mask A H) vs ds ∧ g ds = some es ∧ PostO K A H es Q
theorem vp_callO {k : Nat} {f : Addr} {fd : FuncData} {ps : List Str} {g : List D → Option (List D)} (F : FnOk X.prog X.w X.K X.mg X.base CX0 k f fd ps (spDo X.K g)) (hr : Room k X.A) (hg : Gl X x) (hm : X.mg x = some (.ref f)) (hk : PySem.W.keepIn X.K (.ref f) = true) (hb : Binds X.K fd ps [])
    (ha : PA X (e :: es) (rdA X.K fs)) (hst : (e :: es).all notStar = true) (hdb : (x == ("__debug__" : Str)) = false) : PE X (.Call (.Name x p) (e :: es) [] pos) (rdO X.K (apA g fs)) := by
  rw [List.all_cons, Bool.and_eq_true] at hst
  refine pe_imp (pe_call F hr hg hm hk hb .nil pass0 ha hdb (star_cons hst.1) (back_plain hst.2)) ?_
  rintro σ H Q ⟨L, A, E, d, er, h, kk⟩
  obtain ⟨ds, h1, h2⟩ := Option.bind_eq_some_iff.mp h
  refine ⟨L, A, E, ds, er, h1, fun vs H1 s1 r1 => ⟨A, ds, d, (er.mono s1).dom, by rw [List.append_nil]; exact r1, h2, kk.mono s1⟩⟩
theorem vp_callO0 {k : Nat} {f : Addr} {fd : FuncData} {ps : List Str} {g : List D → Option (List D)} (F : FnOk X.prog X.w X.K X.mg X.base CX0 k f fd ps (spDo X.K g)) (hr : Room k X.A) (hg : Gl X x) (hm : X.mg x = some (.ref f)) (hk : PySem.W.keepIn X.K (.ref f) = true) (hb : Binds X.K fd ps [])
    (hdb : (x == ("__debug__" : Str)) = false) : PE X (.Call (.Name x p) [] [] pos) (rdO X.K fun _ => g []) := by
  refine pe_imp (pe_call0 F hr hg hm hk hb .nil pass0 hdb) ?_
  rintro σ H Q ⟨L, A, E, d, er, h, kk⟩
  exact ⟨A, [], d, er.dom, .nil, h, kk⟩


/-! ### targets -/
/-- targets of a store -/
inductive Tg where
  | nm (i : Nat) | tp (ts : List Tg)
mutual
def asgT : Tg → D → Env' → Option Env'
  | .nm i, d, E => some (E.set i (.f d))
  | .tp ts, .tup ds, E => asgTs ts ds E
  | .tp _, _, _ => none
def asgTs : List Tg → List D → Env' → Option Env'
  | [], [], E => some E
  | t :: ts, d :: ds, E => (asgT t d E).bind fun E' => asgTs ts ds E'
  | _, _, _ => none
end
mutual
def tgS : Tg → List Nat
  | .nm i => [i]
  | .tp ts => tgSs ts
def tgSs : List Tg → List Nat
  | [] => []
  | t :: ts => tgS t ++ tgSs ts
end
/-- slots other than those are as they were -/
def Keep (is : List Nat) (σ σ' : L2.St) : Prop := σ'.length = σ.length ∧ ∀ j, j ∉ is → σ'[j]? = σ[j]?
theorem Keep.refl {is : List Nat} {σ : L2.St} : Keep is σ σ := ⟨rfl, fun _ _ => rfl⟩
theorem Keep.trans {is js : List Nat} {σ σ' σ'' : L2.St} (a : Keep is σ σ') (b : Keep js σ' σ'') : Keep (is ++ js) σ σ'' :=
  ⟨b.1.trans a.1, fun j h => (b.2 j fun z => h (List.mem_append_right _ z)).trans (a.2 j fun z => h (List.mem_append_left _ z))⟩
/-- a target's reading: the same heap, the slots stored -/
def rdG (K : PySem.W.Frag) (t : Tg) : TG := fun v σ H Q => ∃ L A E d E', ER K L A σ H E ∧ Rep K (mask A H) v d ∧ asgT t d E = some E' ∧ ∀ σ', ER K L A σ' H E' → Keep (tgS t) σ σ' → Q σ' H
def rdGs (K : PySem.W.Frag) (ts : List Tg) : TGs := fun vs σ H Q => ∃ L A E ds E', ER K L A σ H E ∧ RepA K (mask A H) vs ds ∧ asgTs ts ds E = some E' ∧ ∀ σ', ER K L A σ' H E' → Keep (tgSs ts) σ σ' → Q σ' H
theorem pg_imp {t t' : TG} (h : PG X e t) (i : ∀ v σ H Q, t' v σ H Q → t v σ H Q) : PG X e t' := ⟨fun pins s σ H v u Q I r w => h.run pins s σ H v u Q I r (i _ _ _ _ w)⟩
theorem pgs_imp {t t' : TGs} (h : PGs X es t) (i : ∀ v σ H Q, t' v σ H Q → t v σ H Q) : PGs X es t' := ⟨fun pins s σ H v u Q I r w => h.run pins s σ H v u Q I r (i _ _ _ _ w)⟩
theorem vg_name {i : Nat} {y : Str} (hN : X.N.Nodup) (hi : X.N[i]? = some y) (hx : Loc X.env.scope y) (hf : X.fn y = true ∨ X.env.scope.names.lookup y = some .local) : PG X (.Name y pos) (rdG X.K (.nm i)) := by
  refine pg_imp (pg_name hN hi hx hf) ?_
  rintro v σ H Q ⟨L, A, E, d, E', er, r, h, k⟩
  simp only [asgT] at h
  cases h
  refine k _ (er.set r) ⟨List.length_set, fun j hj => ?_⟩
  simp only [tgS, List.mem_singleton] at hj
  rw [List.getElem?_set_ne (Ne.symm hj)]
theorem vgs_nil : PGs X [] (rdGs X.K []) := by
  refine pgs_imp pgs_nil ?_
  rintro v σ H Q ⟨L, A, E, ds, E', er, r, h, k⟩
  cases ds with
  | nil =>
    simp only [asgTs] at h
    cases h
    cases r
    exact ⟨rfl, k _ er .refl⟩
  | cons d ds => simp only [asgTs] at h; cases h
theorem vgs_cons {t : Tg} {ts : List Tg} (h1 : PG X e (rdG X.K t)) (h2 : PGs X es (rdGs X.K ts)) (hs : (assignEach (e :: es) X.env).map (·.2) = assign e X.env :: (assignEach es X.env).map (·.2)) : PGs X (e :: es) (rdGs X.K (t :: ts)) := by
  refine pgs_imp (pgs_cons h1 h2 hs) ?_
  rintro v σ H Q ⟨L, A, E, ds, E', er, r, h, k⟩
  cases ds with
  | nil => simp only [asgTs] at h; cases h
  | cons d ds =>
    simp only [asgTs] at h
    obtain ⟨E1, g1, g2⟩ := Option.bind_eq_some_iff.mp h
    cases r with
    | cons r rr => exact ⟨_, _, rfl, L, A, E, d, E1, er, r, g1, fun σ1 er1 hl1 => ⟨L, A, E1, ds, E', er1, rr, g2, fun σ2 er2 hl2 => k _ er2 (by simp only [tgSs]; exact hl1.trans hl2)⟩⟩
theorem vg_tup {kk : Nat} {ts : List Tg} {n : Nat} (hc : X.calm = true) (h : PGs X es (rdGs X.K ts)) (hn : (assignEach es X.env).length = n) (hts : ts.length = n) (hst : (assignEach es X.env).findIdx? (·.1) = none) : PG X (.Tuple es kk pos) (rdG X.K (.tp ts)) := by
  refine pg_imp (pg_tup hc h hn hst) ?_
  rintro v σ H Q ⟨L, A, E, d, E', er, r, h, k⟩
  have hlen : ∀ (ts : List Tg) (ds : List D) (E E' : Env'), asgTs ts ds E = some E' → ts.length = ds.length := by
    intro ts
    induction ts with
    | nil =>
      intro ds E E' h
      cases ds with
      | nil => rfl
      | cons _ _ => simp only [asgTs] at h; cases h
    | cons t ts ih =>
      intro ds E E' h
      cases ds with
      | nil => simp only [asgTs] at h; cases h
      | cons d ds =>
        simp only [asgTs] at h
        obtain ⟨E1, g1, g2⟩ := Option.bind_eq_some_iff.mp h
        rw [List.length_cons, List.length_cons, ih _ _ _ g2]
  cases r with
  | tup h1 r =>
    simp only [asgT] at h
    refine ⟨_, _, rfl, same_seqT (mask_le _ _) h1, ?_, L, A, E, _, E', er, r, h, fun σ' er' hk => k σ' er' (by simp only [tgS]; exact hk)⟩
    rw [r.length, ← hlen _ _ _ _ h, hts]
  | _ => simp only [asgT] at h; cases h

/-! ### what is walked -/
/-- an iterator J that gives the items ds, whatever happens beside: B the heap at its making without what was masked then -/
def Walks (K : PySem.W.Frag) (B : Hp) (ds : List D) (J : It) : Prop := ∀ i A H, Same B (mask A H) → Dom A H →
  (∀ d, ds[i]? = some d → J.go i H ∧ ∀ x H', J.yld i H x H' → Same H H' ∧ Rep K (mask A H') x d) ∧ (ds.length ≤ i → J.stop i H)
def rdI (K : PySem.W.Frag) (f : Env' → Option (List D)) : TI := fun σ H R => ∃ L A E ds, ER K L A σ H E ∧ f E = some ds ∧ ∀ J H', Same H H' → Walks K (mask A H') ds J → R J H'
variable {tg : Expr}
theorem pi_imp {t t' : TI} (h : PI X tg e t) (i : ∀ σ H R, t' σ H R → t σ H R) : PI X tg e t' := ⟨fun pins s σ H R I w => h.run pins s σ H R I (i _ _ _ w)⟩
section
variable {K : PySem.W.Frag} {B : Hp} {a a' : Addr} {vs ws : List V} {ds es : List D}
theorem walks_list (h : SqL K B a vs) (r : RepA K B vs ds) : Walks K B ds (Itl K a) := by
  intro i A H s hd
  have hs := (s.trans (mask_le A H)).seq h
  refine ⟨fun d e => ?_, fun hl => ⟨vs, hs, by rw [r.length]; exact hl⟩⟩
  obtain ⟨v, h1, h2⟩ := r.get e
  refine ⟨⟨vs, v, hs, h1⟩, fun x H' ⟨e1, e2⟩ => ?_⟩
  subst e1
  have e3 := e2 vs hs
  rw [h1] at e3
  cases e3
  exact ⟨Same.refl _, h2.mono s⟩
theorem walks_tup (h : SqT K B a vs) (r : RepA K B vs ds) : Walks K B ds (Itt K a) := by
  intro i A H s hd
  have hs := same_seqT (s.trans (mask_le A H)) h
  refine ⟨fun d e => ?_, fun hl => ⟨vs, hs, by rw [r.length]; exact hl⟩⟩
  obtain ⟨v, h1, h2⟩ := r.get e
  refine ⟨⟨vs, v, hs, h1⟩, fun x H' ⟨e1, e2⟩ => ?_⟩
  subst e1
  have e3 := e2 vs hs
  rw [h1] at e3
  cases e3
  exact ⟨Same.refl _, h2.mono s⟩
theorem walks_rev (h : SqL K B a vs) (r : RepA K B vs ds) : Walks K B ds.reverse (Itv K a vs.length) := by
  intro i A H s hd
  have hs := (s.trans (mask_le A H)).seq h
  have hl := r.length
  refine ⟨fun d e => ?_, fun hl' => by rw [List.length_reverse] at hl'; show vs.length ≤ i; omega⟩
  have hi : i < ds.reverse.length := (List.getElem?_eq_some_iff.mp e).1
  rw [List.length_reverse] at hi
  rw [List.getElem?_reverse hi] at e
  obtain ⟨v, h1, h2⟩ := r.get e
  rw [← hl] at h1
  refine ⟨⟨by omega, vs, v, hs, h1⟩, fun x H' ⟨e1, e2⟩ => ?_⟩
  subst e1
  have e3 := e2 vs hs
  rw [h1] at e3
  cases e3
  exact ⟨Same.refl _, h2.mono s⟩
theorem get_range {n i : Nat} {f : Nat → D} {d : D} (e : ((List.range n).map f)[i]? = some d) : i < n ∧ d = f i := by
  rw [List.getElem?_map] at e
  obtain ⟨j, h1, rfl⟩ := Option.map_eq_some_iff.mp e
  obtain ⟨h2, h3⟩ := List.getElem?_eq_some_iff.mp h1
  rw [List.length_range] at h2
  rw [List.getElem_range] at h3
  subst h3
  exact ⟨h2, rfl⟩
theorem walks_range (lo : Int) (n : Nat) : Walks K B ((List.range n).map fun i => .int (lo + (i : Nat))) (Itr lo n) := by
  intro i A H s hd
  refine ⟨fun d e => ?_, fun hl => by
    rw [List.length_map, List.length_range] at hl
    exact hl⟩
  obtain ⟨h1, rfl⟩ := get_range e
  refine ⟨h1, fun x H' ⟨e1, e2⟩ => ?_⟩
  subst e1 e2
  exact ⟨Same.refl _, .int _⟩
theorem walks_rangeC (lo c : Int) (n : Nat) : Walks K B ((List.range n).map fun i => .int (lo + (i : Nat) * c)) (Itc lo c n) := by
  intro i A H s hd
  refine ⟨fun d e => ?_, fun hl => by
    rw [List.length_map, List.length_range] at hl
    exact hl⟩
  obtain ⟨h1, rfl⟩ := get_range e
  refine ⟨h1, fun x H' ⟨e1, e2⟩ => ?_⟩
  subst e1 e2
  exact ⟨Same.refl _, .int _⟩
def charsD (z : Str) : List D := z.cps.toList.map fun c => .str ⟨#[c]⟩
theorem walks_str (z : Str) : Walks K B (charsD z) (Its z) := by
  intro i A H s hd
  refine ⟨fun d e => ?_, fun hl => by
    unfold charsD at hl
    rw [List.length_map, Array.length_toList] at hl
    exact hl⟩
  unfold charsD at e
  rw [List.getElem?_map] at e
  obtain ⟨c, h1, rfl⟩ := Option.map_eq_some_iff.mp e
  have hi := (List.getElem?_eq_some_iff.mp h1).1
  rw [Array.length_toList] at hi
  refine ⟨hi, fun x H' ⟨e1, c', e2, e3⟩ => ?_⟩
  subst e1 e3
  have : c' = c := by
    rw [Array.getElem?_toList] at h1
    rw [h1] at e2
    exact (Option.some.inj e2).symm
  subst this
  exact ⟨Same.refl _, .str _⟩
theorem walks_enum (h : SqL K B a vs) (r : RepA K B vs ds) : Walks K B (ds.zipIdx.map fun p => .tup [.int (p.2 : Nat), p.1]) (Ite K a) := by
  intro i A H s hd
  have hs := (s.trans (mask_le A H)).seq h
  refine ⟨fun d e => ?_, fun hl => ⟨vs, hs, by rw [r.length]; simpa using hl⟩⟩
  rw [List.getElem?_map, List.getElem?_zipIdx] at e
  obtain ⟨q, h0, rfl⟩ := Option.map_eq_some_iff.mp e
  obtain ⟨d, h1, rfl⟩ := Option.map_eq_some_iff.mp h0
  obtain ⟨v, h2, h3⟩ := r.get h1
  refine ⟨⟨vs, v, hs, h2⟩, fun x H' ⟨T, y, e1, e2, e3, e4⟩ => ?_⟩
  have e5 := e4 vs hs
  rw [h2] at e5
  cases e5
  subst e1 e3
  refine ⟨same_upd e2, .tup (.inl (.inl (mask_some.mpr ⟨hd.new e2, upd_same⟩))) ?_⟩
  rw [Nat.zero_add]
  exact .cons (.int _) (.cons ((h3.mono s).mono (mask_same (same_upd e2))) .nil)
theorem zip_get {ds es : List D} {i : Nat} {d : D} (e : ((ds.zip es).map fun p => D.tup [p.1, p.2])[i]? = some d) : ∃ x y, ds[i]? = some x ∧ es[i]? = some y ∧ d = .tup [x, y] := by
  rw [List.getElem?_map] at e
  obtain ⟨q, h0, rfl⟩ := Option.map_eq_some_iff.mp e
  rw [List.getElem?_zip_eq_some] at h0
  exact ⟨_, _, h0.1, h0.2, rfl⟩
theorem walks_zip (h : SqL K B a vs) (r : RepA K B vs ds) (h' : SqL K B a' ws) (r' : RepA K B ws es) : Walks K B ((ds.zip es).map fun p => .tup [p.1, p.2]) (Itz K a a') := by
  intro i A H s hd
  have hs := (s.trans (mask_le A H)).seq h
  have hs' := (s.trans (mask_le A H)).seq h'
  refine ⟨fun d e => ?_, fun hl => ⟨vs, ws, hs, hs', by rw [r.length, r'.length]; simp only [List.length_map, List.length_zip] at hl; omega⟩⟩
  obtain ⟨x, y, h1, h2, rfl⟩ := zip_get e
  obtain ⟨v, g1, g2⟩ := r.get h1
  obtain ⟨w, g3, g4⟩ := r'.get h2
  refine ⟨⟨vs, ws, v, w, hs, hs', g1, g3⟩, fun z H' ⟨T, x', y', e1, e2, e3, e4, e5⟩ => ?_⟩
  have e6 := e4 vs hs
  have e7 := e5 ws hs'
  rw [g1] at e6
  rw [g3] at e7
  cases e6
  cases e7
  subst e1 e3
  exact ⟨same_upd e2, .tup (.inl (.inl (mask_some.mpr ⟨hd.new e2, upd_same⟩))) (.cons ((g2.mono s).mono (mask_same (same_upd e2))) (.cons ((g4.mono s).mono (mask_same (same_upd e2))) .nil))⟩
theorem walks_zipT (h : SqT K B a vs) (r : RepA K B vs ds) (h' : SqT K B a' ws) (r' : RepA K B ws es) : Walks K B ((ds.zip es).map fun p => .tup [p.1, p.2]) (RZ.ItzT K a a') := by
  intro i A H s hd
  have hs := same_seqT (s.trans (mask_le A H)) h
  have hs' := same_seqT (s.trans (mask_le A H)) h'
  refine ⟨fun d e => ?_, fun hl => ⟨vs, ws, hs, hs', by rw [r.length, r'.length]; simp only [List.length_map, List.length_zip] at hl; omega⟩⟩
  obtain ⟨x, y, h1, h2, rfl⟩ := zip_get e
  obtain ⟨v, g1, g2⟩ := r.get h1
  obtain ⟨w, g3, g4⟩ := r'.get h2
  refine ⟨⟨vs, ws, v, w, hs, hs', g1, g3⟩, fun z H' ⟨T, x', y', e1, e2, e3, e4, e5⟩ => ?_⟩
  have e6 := e4 vs hs
  have e7 := e5 ws hs'
  rw [g1] at e6
  rw [g3] at e7
  cases e6
  cases e7
  subst e1 e3
  exact ⟨same_upd e2, .tup (.inl (.inl (mask_some.mpr ⟨hd.new e2, upd_same⟩))) (.cons ((g2.mono s).mono (mask_same (same_upd e2))) (.cons ((g4.mono s).mono (mask_same (same_upd e2))) .nil))⟩
end
theorem PI.or {t t' : TI} (h : PI X tg e t) (h' : PI X tg e t') : PI X tg e (fun σ H R => t σ H R ∨ t' σ H R) := ⟨fun pins s σ H R I w => w.elim (h.run pins s σ H R I) (h'.run pins s σ H R I)⟩
/-- the items of a list, a tuple, a text -/
def itemsD : D → Option (List D)
  | .str z => some (charsD z)
  | d => seqOf d
theorem vi_ex (he : PE X e (rdE X.K fa)) : PI X tg e (rdI X.K fun E => (fa E).bind itemsD) := by
  refine pi_imp (PI.or (pi_list he) (PI.or (pi_tup he) (pi_str he))) ?_
  rintro σ H R ⟨L, A, E, ds, er, h, k⟩
  obtain ⟨d, h1, h2⟩ := Option.bind_eq_some_iff.mp h
  cases d with
  | lst xs =>
    cases h2
    refine .inl ⟨L, A, E, _, er, h1, fun v H1 s1 r1 => ?_⟩
    cases r1 with
    | lst h3 r => exact ⟨_, rfl, ⟨_, .inl (.inl (mask_some.mp h3).2)⟩, k _ H1 s1 (walks_list (.inl (.inl h3)) r)⟩
  | fls xs =>
    cases h2
    refine .inl ⟨L, A, E, _, er, h1, fun v H1 s1 r1 => ?_⟩
    cases r1 with
    | fls h3 r => exact ⟨_, rfl, ⟨_, (mask_le _ _).seq h3⟩, k _ H1 s1 (walks_list h3 r)⟩
  | tup xs =>
    cases h2
    refine .inr (.inl ⟨L, A, E, _, er, h1, fun v H1 s1 r1 => ?_⟩)
    cases r1 with
    | tup h3 r => exact ⟨_, rfl, ⟨_, same_seqT (mask_le _ _) h3⟩, k _ H1 s1 (walks_tup h3 r)⟩
  | str z =>
    cases h2
    refine .inr (.inr ⟨L, A, E, _, er, h1, fun v H1 s1 r1 => ?_⟩)
    cases r1
    exact ⟨z, rfl, k _ H1 s1 (walks_str z)⟩
  | _ => cases h2
/-! range, zip, enumerate, reversed as what is walked -/
def small62 (i : Int) : Bool := decide (-4611686018427387904 ≤ i) && decide (i < 4611686018427387904)
def rng1 (E : List D) : Option (List D) := match E with
  | [.int j] => if small62 j then some ((List.range j.toNat).map fun i => .int (0 + (i : Nat))) else none
  | _ => none
def rng2 (E : List D) : Option (List D) := match E with
  | [.int i, .int j] => if small62 i && small62 j then some ((List.range (j - i).toNat).map fun k => .int (i + (k : Nat))) else none
  | _ => none
def rng3 (E : List D) : Option (List D) := match E with
  | [.int i, .int j, .int c] => if small62 i && small62 j && decide (c = -1) then some ((List.range (i - j).toNat).map fun k => .int (i + (k : Nat) * -1)) else none
  | _ => none
def revI (E : List D) : Option (List D) := match E with
  | [d] => (lisOf d).map List.reverse
  | _ => none
def enumI (E : List D) : Option (List D) := match E with
  | [d] => (lisOf d).map fun ds => ds.zipIdx.map fun p => .tup [.int (p.2 : Nat), p.1]
  | _ => none
def zipI (E : List D) : Option (List D) := match E with
  | [.tup xs, .tup ys] => some ((xs.zip ys).map fun p => .tup [p.1, p.2])
  | [d, e] => (lisOf d).bind fun xs => (lisOf e).map fun ys => (xs.zip ys).map fun p => .tup [p.1, p.2]
  | _ => none
inductive IFn where
  | rng1 | rng2 | rng3 | rev | enum | zip
  deriving DecidableEq
def IFn.name : IFn → Str
  | .rng1 => "range" | .rng2 => "range" | .rng3 => "range" | .rev => "reversed" | .enum => "enumerate" | .zip => "zip"
def IFn.ar : IFn → Nat
  | .rng1 => 1 | .rng2 => 2 | .rng3 => 3 | .rev => 1 | .enum => 1 | .zip => 2
def IFn.tup : IFn → Bool
  | .enum => true | .zip => true | _ => false
def ifD : IFn → List D → Option (List D)
  | .rng1 => Vp.rng1 | .rng2 => Vp.rng2 | .rng3 => Vp.rng3 | .rev => revI | .enum => enumI | .zip => zipI
theorem small62_ok {i : Int} (h : small62 i = true) : -(2 ^ 62) ≤ i ∧ i < 2 ^ 62 := by
  unfold small62 at h
  rw [Bool.and_eq_true, decide_eq_true_eq, decide_eq_true_eq] at h
  exact ⟨by have := h.1; omega, by have := h.2; omega⟩
def isTup : Expr → Bool
  | .Tuple _ _ _ => true
  | _ => false
theorem lisS_rep {K : PySem.W.Frag} {B : Hp} {x : V} {d : D} {ds : List D} (r : Rep K B x d) (h : lisOf d = some ds) : ∃ a vs, x = .ref a ∧ SqL K B a vs ∧ RepA K B vs ds := by
  cases r <;> simp only [lisOf] at h <;> try (cases h; done)
  · rename_i h1 r
    cases h
    exact ⟨_, _, rfl, .inl (.inl h1), r⟩
  · rename_i h1 r
    cases h
    exact ⟨_, _, rfl, h1, r⟩
theorem len_two {α : Type} {l : List α} (h : l.length = 2) : ∃ a b, l = [a, b] := by
  match l, h with
  | [a, b], _ => exact ⟨a, b, rfl⟩
theorem len_three {α : Type} {l : List α} (h : l.length = 3) : ∃ a b c, l = [a, b, c] := by
  match l, h with
  | [a, b, c], _ => exact ⟨a, b, c, rfl⟩
theorem vi_fn (f : IFn) (hg : Gl X f.name) (hm : X.mg f.name = none) (ha : PA X es (rdA X.K fs)) (hst : es.all notStar = true) (hl : es.length = f.ar) (ht : f.tup = true → isTup tg = true) :
    PI X tg (.Call (.Name f.name p) es [] pos) (rdI X.K (apA (ifD f) fs)) := by
  cases f with
  | rng1 =>
    obtain ⟨a, rfl⟩ : ∃ a, es = [a] := List.length_eq_one_iff.mp hl
    refine pi_imp (pi_range1 hg hm ha (star_map hst)) ?_
    rintro σ H R ⟨L, A, E, ds, er, h, k⟩
    obtain ⟨xs, h1, h2⟩ := Option.bind_eq_some_iff.mp h
    refine ⟨L, A, E, xs, er, h1, fun vs H1 s1 r1 => ?_⟩
    simp only [ifD, rng1] at h2
    split at h2
    · obtain ⟨h3, rfl⟩ := if_some h2
      obtain ⟨v, rfl, rv⟩ := r1.inv1
      cases rv
      have q := small62_ok h3
      exact ⟨_, rfl, q.1, q.2, k _ H1 s1 (walks_range 0 _)⟩
    · cases h2
  | rng2 =>
    obtain ⟨a, b, rfl⟩ : ∃ a b, es = [a, b] := len_two hl
    rw [List.all_cons, Bool.and_eq_true] at hst
    refine pi_imp (pi_range2 hg hm ha (star_map (by rw [List.all_cons, Bool.and_eq_true]; exact hst)) (star_map hst.2)) ?_
    rintro σ H R ⟨L, A, E, ds, er, h, k⟩
    obtain ⟨xs, h1, h2⟩ := Option.bind_eq_some_iff.mp h
    refine ⟨L, A, E, xs, er, h1, fun vs H1 s1 r1 => ?_⟩
    simp only [ifD, rng2] at h2
    split at h2
    · obtain ⟨h3, rfl⟩ := if_some h2
      rw [Bool.and_eq_true] at h3
      obtain ⟨v, w, rfl, rv, rw'⟩ := r1.inv2
      cases rv
      cases rw'
      have q := small62_ok h3.1
      have q' := small62_ok h3.2
      exact ⟨_, _, rfl, ⟨q.1, q.2, q'.1, q'.2⟩, k _ H1 s1 (walks_range _ _)⟩
    · cases h2
  | rng3 =>
    obtain ⟨a, b, c, rfl⟩ : ∃ a b c, es = [a, b, c] := len_three hl
    rw [List.all_cons, Bool.and_eq_true] at hst
    refine pi_imp (pi_range3 hg hm ha (star_cons hst.1) (back_plain hst.2)) ?_
    rintro σ H R ⟨L, A, E, ds, er, h, k⟩
    obtain ⟨xs, h1, h2⟩ := Option.bind_eq_some_iff.mp h
    refine ⟨L, A, E, xs, er, h1, fun vs H1 s1 r1 => ?_⟩
    simp only [ifD, rng3] at h2
    split at h2
    · obtain ⟨h3, rfl⟩ := if_some h2
      rw [Bool.and_eq_true, Bool.and_eq_true, decide_eq_true_eq] at h3
      obtain ⟨⟨g1, g2⟩, rfl⟩ := h3
      cases r1 with
      | cons rv r1 =>
        obtain ⟨w, z, rfl, rw', rz⟩ := r1.inv2
        cases rv
        cases rw'
        cases rz
        have q := small62_ok g1
        have q' := small62_ok g2
        exact ⟨_, _, _, _, rfl, RgC.neg q.1 q.2 q'.1 q'.2, k _ H1 s1 (walks_rangeC _ _ _)⟩
    · cases h2
  | rev =>
    obtain ⟨a, rfl⟩ : ∃ a, es = [a] := List.length_eq_one_iff.mp hl
    refine pi_imp (pi_reversed hg hm ha (star_map hst)) ?_
    rintro σ H R ⟨L, A, E, ds, er, h, k⟩
    obtain ⟨xs, h1, h2⟩ := Option.bind_eq_some_iff.mp h
    refine ⟨L, A, E, xs, er, h1, fun vs H1 s1 r1 => ?_⟩
    simp only [ifD, revI] at h2
    split at h2
    · obtain ⟨v, rfl, rv⟩ := r1.inv1
      obtain ⟨zs, h3, rfl⟩ := Option.map_eq_some_iff.mp h2
      obtain ⟨a, ws, rfl, h4, h5⟩ := lisS_rep rv h3
      exact ⟨a, ws, rfl, (mask_le _ _).seq h4, k _ H1 s1 (walks_rev h4 h5)⟩
    · cases h2
  | enum =>
    obtain ⟨a, rfl⟩ : ∃ a, es = [a] := List.length_eq_one_iff.mp hl
    cases tg <;> try (cases ht rfl; done)
    refine pi_imp (pi_enum hg hm ha (star_map hst)) ?_
    rintro σ H R ⟨L, A, E, ds, er, h, k⟩
    obtain ⟨xs, h1, h2⟩ := Option.bind_eq_some_iff.mp h
    refine ⟨L, A, E, xs, er, h1, fun vs H1 s1 r1 => ?_⟩
    simp only [ifD, enumI] at h2
    split at h2
    · obtain ⟨v, rfl, rv⟩ := r1.inv1
      obtain ⟨zs, h3, rfl⟩ := Option.map_eq_some_iff.mp h2
      obtain ⟨a, ws, rfl, h4, h5⟩ := lisS_rep rv h3
      exact ⟨a, ws, rfl, (mask_le _ _).seq h4, k _ H1 s1 (walks_enum h4 h5)⟩
    · cases h2
  | zip =>
    obtain ⟨a, b, rfl⟩ : ∃ a b, es = [a, b] := len_two hl
    cases tg <;> try (cases ht rfl; done)
    rw [List.all_cons, Bool.and_eq_true] at hst
    refine pi_imp (RZ.pi_zipA hg hm ha (star_cons hst.1) (back_plain hst.2)) ?_
    rintro σ H R ⟨L, A, E, ds, er, h, k⟩
    obtain ⟨xs, h1, h2⟩ := Option.bind_eq_some_iff.mp h
    refine ⟨L, A, E, xs, er, h1, fun vs H1 s1 r1 => ?_⟩
    simp only [ifD, zipI] at h2
    split at h2
    · cases h2
      obtain ⟨v, w, rfl, rv, rw'⟩ := r1.inv2
      cases rv with
      | tup g1 g2 =>
        cases rw' with
        | tup g3 g4 => exact ⟨_, _, _, _, rfl, .inr ⟨same_seqT (mask_le _ _) g1, same_seqT (mask_le _ _) g3, k _ H1 s1 (walks_zipT g1 g2 g3 g4)⟩⟩
    · obtain ⟨v, w, rfl, rv, rw'⟩ := r1.inv2
      obtain ⟨us, h3, h4⟩ := Option.bind_eq_some_iff.mp h2
      obtain ⟨zs, h5, rfl⟩ := Option.map_eq_some_iff.mp h4
      obtain ⟨a, vs1, rfl, g1, g2⟩ := lisS_rep rv h3
      obtain ⟨b, vs2, rfl, g3, g4⟩ := lisS_rep rw' h5
      exact ⟨_, _, _, _, rfl, .inl ⟨(mask_le _ _).seq g1, (mask_le _ _).seq g3, k _ H1 s1 (walks_zip g1 g2 g3 g4)⟩⟩
    · cases h2

/-! ### list comprehensions -/
/-- the loop of a comprehension: each item stored from the same frame, the test, the element -/
def compL (t : Tg) (ft : Env' → Option Bool) (fe : Env' → Option D) (E : Env') : List D → Option (List D)
  | [] => some []
  | d :: r => (asgT t d E).bind fun E1 => (ft E1).bind fun c => if c = true then (fe E1).bind fun y => (compL t ft fe E r).map (y :: ·) else compL t ft fe E r
def compD (own : List Nat) (t : Tg) (ft : Env' → Option Bool) (fe : Env' → Option D) (fi : Env' → Option (List D)) (E : Env') : Option (List D) :=
  (fi E).bind fun ds => if ds.length ≤ lineN then compL t ft fe (wipeE E own) ds else none
theorem wipe_get {σ : L2.St} {j : Nat} : ∀ {vs : List Nat}, j ∉ vs → (L2.wipe σ vs)[j]? = σ[j]?
  | [], _ => rfl
  | v :: vs, h => by
    unfold L2.wipe
    rw [List.getElem?_set_ne (fun z => h (by rw [z]; exact List.mem_cons_self)), wipe_get fun z => h (List.mem_cons_of_mem _ z)]
theorem wipe_in {σ : L2.St} {j : Nat} (hj : j < σ.length) : ∀ {vs : List Nat}, j ∈ vs → (L2.wipe σ vs)[j]? = some none
  | v :: vs, h => by
    unfold L2.wipe
    by_cases e : v = j
    · subst e
      exact List.getElem?_set_self (by rw [wipe_length]; exact hj)
    · rw [List.getElem?_set_ne e]
      exact wipe_in hj ((List.mem_cons.mp h).resolve_left fun z => e z.symm)
theorem wipe_keep {σ σ' : L2.St} {is vs : List Nat} (k : Keep is (L2.wipe σ vs) σ') (h : ∀ i ∈ is, i ∈ vs) : L2.wipe σ' vs = L2.wipe σ vs := by
  apply List.ext_getElem?
  intro j
  have hl : σ'.length = σ.length := k.1.trans (wipe_length _ _)
  by_cases hj : j ∈ vs
  · by_cases hlt : j < σ.length
    · rw [wipe_in (by rw [hl]; exact hlt) hj, wipe_in hlt hj]
    · rw [List.getElem?_eq_none (by rw [wipe_length]; omega), List.getElem?_eq_none (by rw [wipe_length]; omega)]
  · rw [wipe_get hj, k.2 j fun z => hj (h j z)]
theorem compL_len {t : Tg} {ft : Env' → Option Bool} {fe : Env' → Option D} {E : Env'} : ∀ {ds rs : List D}, compL t ft fe E ds = some rs → rs.length ≤ ds.length
  | [], rs, h => by
    simp only [compL] at h
    cases h
    exact Nat.le_refl _
  | d :: ds, rs, h => by
    simp only [compL] at h
    obtain ⟨E1, h1, h⟩ := Option.bind_eq_some_iff.mp h
    obtain ⟨c, h2, h⟩ := Option.bind_eq_some_iff.mp h
    split at h
    · obtain ⟨y, h3, h⟩ := Option.bind_eq_some_iff.mp h
      obtain ⟨r, h4, rfl⟩ := Option.map_eq_some_iff.mp h
      have := compL_len h4
      simp only [List.length_cons]
      omega
    · have := compL_len h
      simp only [List.length_cons]
      omega
theorem rd_lc {own : List Nat} {t : Tg} {ft : Env' → Option Bool} {fe : Env' → Option D} {fi : Env' → Option (List D)} {K : PySem.W.Frag} (ho : ∀ i ∈ tgS t, i ∈ own) :
    ∀ σ H Q, rdO K (compD own t ft fe fi) σ H Q → tLc (rdI K fi) (rdG K t) (rdT K ft) (rdE K fe) own σ H Q := by
  rintro σ H Q ⟨L, A, E, rs, er, h, k⟩
  obtain ⟨ds, h1, h2⟩ := Option.bind_eq_some_iff.mp h
  obtain ⟨hlen, h2⟩ : ds.length ≤ lineN ∧ compL t ft fe (wipeE E own) ds = some rs := by
    split at h2
    · exact ⟨by assumption, h2⟩
    · cases h2
  refine ⟨L, A, E, ds, er, h1, fun J H1 s1 wk D hD => ?_⟩
  have er1 := er.mono s1
  refine ⟨fun i m H2 => m = ds.length - i ∧ i ≤ ds.length ∧ Same H1 H2 ∧ ∃ accV acc rest, H2 D = some (.lst accV) ∧ RepA K (mask (D :: A) H2) accV acc ∧ acc.length ≤ i ∧ compL t ft fe (wipeE E own) (ds.drop i) = some rest ∧ acc ++ rest = rs,
    ⟨ds.length, by omega, Nat.zero_le _, same_upd hD, [], [], rs, upd_same, .nil, Nat.zero_le _, h2, rfl⟩, ?_⟩
  rintro i m H2 ⟨rfl, hi, s2, accV, acc, rest, hacc, racc, hal, hrest, happ⟩
  have erD : ER K L (D :: A) (L2.wipe σ own) H2 (wipeE E own) := (er1.more s2 hD (by rw [hacc]; simp)).wipe own
  obtain ⟨w1, w2⟩ := wk i (D :: A) H2 (mask_new s2 hD) erD.dom
  by_cases hlt : i < ds.length
  · have hd : ds[i]? = some ds[i] := List.getElem?_eq_getElem hlt
    obtain ⟨g1, g2⟩ := w1 _ hd
    rw [List.drop_eq_getElem_cons hlt] at hrest
    simp only [compL] at hrest
    obtain ⟨E1, h3, hrest⟩ := Option.bind_eq_some_iff.mp hrest
    obtain ⟨c, h4, hrest⟩ := Option.bind_eq_some_iff.mp hrest
    refine .inr ⟨g1, fun H' => i + 1 ≤ ds.length ∧ Same H1 H' ∧ ∃ accV acc rest, H' D = some (.lst accV) ∧ RepA K (mask (D :: A) H') accV acc ∧ acc.length ≤ i + 1 ∧ compL t ft fe (wipeE E own) (ds.drop (i + 1)) = some rest ∧ acc ++ rest = rs,
      fun H' hn => ⟨ds.length - (i + 1), by omega, rfl, hn⟩, fun x H3 hy => ?_⟩
    obtain ⟨s3, rx⟩ := g2 x H3 hy
    refine ⟨L, D :: A, wipeE E own, ds[i], E1, erD.mono s3, rx, h3, fun σ2 er2 hk => ⟨wipe_keep hk ho, ?_⟩⟩
    refine ⟨L, D :: A, E1, c, er2, h4, fun H4 s4 => ?_⟩
    cases c with
    | true =>
      simp only [if_true] at hrest ⊢
      obtain ⟨y, h5, hrest⟩ := Option.bind_eq_some_iff.mp hrest
      obtain ⟨rest', h6, rfl⟩ := Option.map_eq_some_iff.mp hrest
      refine ⟨L, D :: A, E1, y, er2.mono s4, h5, fun v H5 s5 r5 => ?_⟩
      have s25 : Same H2 H5 := (s3.trans s4).trans s5
      have hD5 : H5 D = some (.lst accV) := s25 _ _ hacc
      have nD : D ∈ D :: A := List.mem_cons_self
      refine ⟨accV, hD5, ?_, by omega, ?_, accV ++ [v], acc ++ [y], rest', upd_same, ?_, ?_, h6, by rw [List.append_assoc]; exact happ⟩
      · rw [racc.length, sizeLine_eq]
        have : lineN = 16777216 := rfl
        omega
      · intro b o e
        have hb : b ≠ D := ne_of_none e hD
        rw [upd_ne hb]
        exact s25 _ _ (s2 _ _ e)
      · rw [mask_upd nD]
        exact (racc.mono (mask_same s25)).append (.one r5)
      · rw [List.length_append]
        simp
        omega
    | false =>
      simp only [Bool.false_eq_true, if_false] at hrest ⊢
      have s24 : Same H2 H4 := s3.trans s4
      exact ⟨by omega, s2.trans s24, accV, acc, rest, s24 _ _ hacc, racc.mono (mask_same s24), by omega, hrest, happ⟩
  · have e : i = ds.length := by omega
    subst e
    rw [List.drop_length] at hrest
    simp only [compL] at hrest
    cases hrest
    rw [List.append_nil] at happ
    subst happ
    refine .inl ⟨w2 (Nat.le_refl _), k D accV H2 (s1.trans s2) (s1.free hD) hacc racc⟩
theorem vp_comp {elt tg iter : Expr} {ifs : List Expr} {scope : Scope} {own : List (Str × Nat)} {t : Tg} {ft : Env' → Option Bool} {fe : Env' → Option D} {fi : Env' → Option (List D)} (hc : X.calm = true) (hN : X.N.Nodup) (hi : PI X tg iter (rdI X.K fi)) (ok : BlkOk X.N X.env.scope scope own)
    (hg : ∀ (s : Shared) (H : Hp) (C : Addr) (cl : List (Str × Addr)) (fp : List Addr), PG (X.blk s H scope (compEnvC scope cl C X.env) fp) tg (rdG X.K t)) (ht : ∀ (s : Shared) (H : Hp) (C : Addr) (cl : List (Str × Addr)) (fp : List Addr), PTs (X.blk s H scope (compEnvC scope cl C X.env) fp) ifs (rdT X.K ft))
    (he : ∀ (s : Shared) (H : Hp) (C : Addr) (cl : List (Str × Addr)) (fp : List Addr), PE (X.blk s H scope (compEnvC scope cl C X.env) fp) elt (rdE X.K fe)) (hs : ∀ x, foldedSetIterable iter X.env x = pure x) (ho : ∀ i ∈ tgS t, i ∈ own.map (·.2)) :
    PE X (.ListComp elt [⟨tg, iter, ifs, 0⟩] scope pos) (rdO X.K (compD (own.map (·.2)) t ft fe fi)) := pe_imp (pe_lc hc hN hi ok hg ht he hs) (rd_lc ho)
theorem pts_imp {ifs : List Expr} {t t' : TT} (h : PTs X ifs t) (i : ∀ σ H Q, t' σ H Q → t σ H Q) : PTs X ifs t' := ⟨fun pins s σ H Q I w => h.run pins s σ H Q I (i _ _ _ w)⟩
theorem vts_nil : PTs X [] (rdT X.K fun _ => some true) := by
  refine pts_imp pts_nil ?_
  rintro σ H Q ⟨L, A, E, b, er, h, k⟩
  cases h
  exact k H (Same.refl H)
theorem vts_one {ft : Env' → Option Bool} (h : PT X c (rdT X.K ft)) : PTs X [c] (rdT X.K ft) := pts_one h
def isSet : Expr → Bool
  | .Set _ _ _ => true
  | _ => false
theorem noset {env : Env} (h : isSet e = false) : ∀ x, foldedSetIterable e env x = pure x := by
  intro x
  cases e <;> first | rfl | cases h
end
end Vp

end

section
set_option Elab.async false
set_option linter.all false
set_option autoImplicit false
set_option maxRecDepth 100000
set_option maxHeartbeats 2000000
/-! VpX1: list(reversed(a list)), list(zip(a list, a list)), at the library's level. -/
namespace VpL
open PySem PySem.Spec PyProof.Rows L2
section
variable {prog : Program} {w : World} {A : Around} {E : Value → Shared → Prop} {s : Shared}
/-! ### reversed -/
theorem extend_rev {R : Result → Shared → Prop} {it l : Addr} {items : Array Value} (hh : A.handled = none) (hit : s.heap.IsRevIter it l ((items.size : Int) - 1)) (hl : s.heap.IsList l items) (hne : l ≠ it) (hn : items.size ≤ sizeLine)
    (S : Addr) (hSi : S ≠ it) (hSl : S ≠ l) (res : Value) (c₀ : Nat) (hS : s.heap.get? S = some { cls := .type "list", data := .seq #[] c₀ })
    (hR : ∀ (h' : Heap) (tk : Nat) (acc : Array Value) (c : Nat), (∀ b o, b ≠ S → b ≠ it → s.heap.get? b = some o → h'.get? b = some o) → h'.get? S = some { cls := .type "list", dict := none, data := .seq acc c, slots := #[] } →
      ItemsOf (fun i v => items[items.size - 1 - i]? = some v) acc items.size → R (.ok (.ret res)) { s with heap := h', toks := tk }) :
    wpAny (model prog w) A.in1 (Builtin.List.listExtendWith (.ref S) (.ref it) res)
      (fun fin s' => match fin with | .done f => R (.ok f) s' | .again c' => c'.quiet = true ∧ codeAny (model prog w) A c' R s') (fun e s' => R (.error e) s') s := by
  have W := (Walks.listRev (prog := prog) (w := w) (A := A.in1) hh it l hne items).toS
  have hSf : S ∉ [it, l] := by simp only [List.mem_cons, List.not_mem_nil, or_false, not_or]; exact ⟨hSi, hSl⟩
  have hT : s.TypeIs (.ref it) "list_reverseiterator" := hit.typeIs
  have h1 : Builtin.List.listSameRef (.ref S) (.ref it) = false := by simp [Builtin.List.listSameRef, hSi]
  unfold Builtin.List.listExtendWith
  refine wpAny_bind (wpAny_typeOf hT ?_)
  rw [if_neg (by rw [h1]; decide)]
  refine wpAny_bind (wpAny_pyIter_revIter hit ?_)
  refine wpAny_bind (wpAny_holding ?_)
  unfold Builtin.List.listLengthHint
  refine wpAny_bind (wpAny_specialOf hT RT.nolen_lri ?_)
  show wpAny _ A.in1 (specialOf (Value.ref it) (Str.ofString "__length_hint__") >>= _) _ _ _
  refine wpAny_bind (wpAny_specialOf hT RT.hint_lri ?_)
  generalize hid : ("list_reverseiterator.__length_hint__" : String) = id0
  wp_delta
  rw [show splitId id0 = some ("list_reverseiterator", "__length_hint__") from by subst hid; decide +kernel]
  subst hid
  refine wpAny_bind (wpAny_isInstance (b := true) hT (by rw [isSubtype_type]; kernel_rfl) ?_)
  refine wpAny_pure ?_
  rw [if_neg (by decide)]
  have e0 : ((items.size : Nat) : Int) - 1 - ((0 : Nat) : Int) = (items.size : Int) - 1 := by omega
  refine wpAny_pure ⟨plainId_quiet F.plain_extend_loop _, codeAny_extend_loopS W hn _ hSf _ items.size 0 _ _ _ rfl (Nat.zero_le _) ⟨Nat.zero_le _, by rw [e0]; exact hit, hl⟩ hS (ItemsOf.nil _) fun s' acc' c' hm hS' hacc => ?_⟩
  rw [Moved.eq_with hm]
  refine hR s'.heap s'.toks acc' c' (fun b o hb hb2 e => hm.heap b o (fun hmem => ?_) e) hS' hacc
  rcases List.mem_cons.mp hmem with e' | hmem
  · exact hb e'
  · exact hb2 (List.mem_singleton.mp hmem)
theorem init_rev {R : Result → Shared → Prop} {it l : Addr} {items : Array Value} (hh : A.handled = none) (hit : s.heap.IsRevIter it l ((items.size : Int) - 1)) (hl : s.heap.IsList l items) (hne : l ≠ it) (hn : items.size ≤ sizeLine)
    (S : Addr) (hSi : S ≠ it) (hSl : S ≠ l) (hS : s.heap.get? S = some { cls := .type "list", data := .seq #[] })
    (hR : ∀ (h' : Heap) (tk : Nat) (acc : Array Value) (c : Nat), (∀ b o, b ≠ S → b ≠ it → s.heap.get? b = some o → h'.get? b = some o) → h'.get? S = some { cls := .type "list", dict := none, data := .seq acc c, slots := #[] } →
      ItemsOf (fun i v => items[items.size - 1 - i]? = some v) acc items.size → R (.ok (.ret .none)) { s with heap := h', toks := tk }) :
    wpAny (model prog w) A.in1 (Builtin.«list.__init__» ⟨[.ref S, .ref it], []⟩)
      (fun fin s' => match fin with | .done f => R (.ok f) s' | .again c' => c'.quiet = true ∧ codeAny (model prog w) A c' R s') (fun e s' => R (.error e) s') s := by
  show wpAny _ _ (do let old ← Builtin.List.listItems (.ref S); Builtin.List.listUpdate (.ref S) (fun _ => #[]); letGo old.toList.reverse; Builtin.List.listExtendWith (.ref S) (.ref it) .none) _ _ s
  refine wpAny_bind ?_
  unfold Builtin.List.listItems
  refine wpAny_bind (wpAny_seqItems hS rfl (wpAny_pure ?_))
  show wpAny _ _ (updateSeq S (fun _ => #[]) >>= fun _ => letGo (#[] : Array Value).toList.reverse >>= fun _ => Builtin.List.listExtendWith (.ref S) (.ref it) .none) _ _ s
  refine wpAny_bind (wpAny_updateSeq hS rfl ?_)
  have hS₂ := Heap.get?_update_self (Obj.mapSeq (fun _ => (#[] : Array Value))) hS rfl
  have oth : ∀ b o, b ≠ S → s.heap.get? b = some o → (s.heap.update S (Obj.mapSeq (fun _ => (#[] : Array Value)))).get? b = some o :=
    fun b o hb e => (Heap.get?_update_other _ _ (Ne.symm hb)).trans e
  refine wpAny_bind (wpAny_letGo ?_)
  obtain ⟨ol, hol, hlr⟩ := id hl
  refine extend_rev hh (hit.at fun o e => oth it o (Ne.symm hSi) e) ⟨ol, oth l ol (Ne.symm hSl) hol, hlr⟩ hne hn S hSi hSl .none _ hS₂ fun h' tk acc c hk hS' hi => ?_
  exact hR h' tk acc c (fun b o hb hb2 e => hk b o hb hb2 (oth b o hb e)) hS' hi
theorem call_list_rev {it l : Addr} {items : Array Value} {Q : Value → Shared → Prop} (hh : A.handled = none) (hit : s.heap.IsRevIter it l ((items.size : Int) - 1)) (hl : s.heap.IsList l items) (hne : l ≠ it) (hn : items.size ≤ sizeLine)
    (hQ : ∀ (h' : Heap) (tk : Nat) (acc : Array Value) (c : Nat), (∀ b o, b ≠ it → s.heap.get? b = some o → h'.get? b = some o) → h'.get? s.heap.objs.size = some { cls := .type "list", dict := none, data := .seq acc c, slots := #[] } →
      ItemsOf (fun i v => items[items.size - 1 - i]? = some v) acc items.size → Q (.ref s.heap.objs.size) { s with heap := h', toks := tk }) :
    wpAny (model prog w) A (call (.type "list") [.ref it]) Q E s := by
  refine callType_codes (Q₁ := fun obj s₁ => obj = .ref s.heap.objs.size ∧ s₁ = { s with heap := s.heap.push { cls := .type "list", data := .seq #[] } }) PySem.F.called_list (PySem.F.typeCall_list_1 _) PySem.F.entry_list_init
    (code_list_new _ ⟨rfl, rfl⟩) fun obj s₁ h₁ => ?_
  obtain ⟨rfl, rfl⟩ := h₁
  have hS : (s.heap.push { cls := .type "list", data := .seq #[] }).get? s.heap.objs.size = some { cls := .type "list", data := .seq #[] } := Heap.get?_push_size _ rfl
  obtain ⟨oi, hoi, _⟩ := id hit
  obtain ⟨ol, hol, _⟩ := id hl
  refine ⟨⟨_, hS, rfl⟩, PySem.F.args_list_init_2 _ _, init_rev (A := A.in1) hh (hit.at fun o e => Heap.get?_push_of_some _ e) (hl.push _) hne hn _ (Nat.ne_of_gt (Heap.lt_size hoi)) (Nat.ne_of_gt (Heap.lt_size hol)) hS fun h' tk acc c hk hS' hi => ?_⟩
  exact ⟨rfl, hQ h' tk acc c (fun b o hb e => hk b o (Nat.ne_of_lt (Heap.lt_size e)) hb (Heap.get?_push_of_some _ e)) hS' hi⟩
end
section
variable {X : Cx}
def tLstRev (K : PySem.W.Frag) (te : TE) : TE := fun σ H Q => te σ H fun v H1 => ∃ (a : Addr) (xs : List V), v = .ref a ∧ SqL K H1 a xs ∧ ∀ q, H1 q = none → Q (.ref q) (upd H1 q (.lst xs.reverse))
theorem pe_lstRev {e : Expr} {te : TE} {p p2 pos pos2 : Pos} (hc : X.calm = true) (hg : Gl X "list") (hm : X.mg "list" = none) (hg2 : Gl X "reversed") (hm2 : X.mg "reversed" = none) (he : PE X e te)
    (hs : starEach [e] X.env = (false, eval e X.env) :: starEach [] X.env := by rfl)
    (hs2 : starEach [.Call (.Name "reversed" p2) [e] [] pos2] X.env = (false, eval (.Call (.Name "reversed" p2) [e] [] pos2) X.env) :: starEach [] X.env := by rfl) :
    PE X (.Call (.Name "list" p) [.Call (.Name "reversed" p2) [e] [] pos2] [] pos) (tLstRev X.K te) := by
  refine ⟨fun pins s σ H Q I h => ?_⟩
  refine Call_ (ld_blt I hg hm boot_list (PyProof.Rows.callWith_type1 (args_cons (Call_ (ld_blt I hg2 hm2 PyProof.Rows.boot_reversed (PyProof.Rows.callWith_type1 (args_cons (thn (he.run pins s σ H _ I h) fun u s1 ⟨v, H1, I1, r1, q1⟩ => args_nil ?_) hs) hs rfl))) hs2) hs2 rfl))
  obtain ⟨a, xs, ev, hq, q⟩ := q1
  subst ev
  obtain rfl : u = Value.ref a := r1
  obtain ⟨its, rv, p', hz⟩ := I1.list hq
  refine call_reversed_list p'.isList (args_nil ?_)
  have k0 : ∀ b o, s1.heap.get? b = some o → (s1.heap.push (revObj a ((its.toArray.size : Int) - 1))).get? b = some o := fun b o e => Heap.get?_push_of_some _ e
  have hl := p'.isList
  obtain ⟨ol, hol, _⟩ := id hl
  have hne : a ≠ s1.heap.objs.size := Nat.ne_of_lt (Heap.lt_size hol)
  have hn : its.toArray.size ≤ sizeLine := by rw [List.size_toArray, ← rv.length]; exact hz
  refine call_list_rev (s := { s1 with heap := s1.heap.push (revObj a ((its.toArray.size : Int) - 1)) }) (I1.ok.hd hc) ⟨_, Heap.get?_push_size _ rfl, rfl, rfl⟩ (hl.push _) hne hn fun h' tk acc c hk hS hi => ?_
  have e2 : (s1.heap.push (revObj a ((its.toArray.size : Int) - 1))).objs.size = s1.heap.objs.size + 1 := Heap.size_push ..
  have fresh : H1 (s1.heap.push (revObj a ((its.toArray.size : Int) - 1))).objs.size = none := I1.hok.fresh (by rw [e2]; omega)
  have kk : ∀ b o, s1.heap.get? b = some o → h'.get? b = some o := fun b o e => hk b o (Nat.ne_of_lt (Heap.lt_size e)) (k0 b o e)
  refine ⟨.ref _, upd H1 _ (.lst xs.reverse), I1.laid (t' := tk) kk (by rw [e2]; omega) (show ObjOk X.prog X.w _ _ _ (.lst xs.reverse) from ⟨by rw [List.length_reverse]; exact hz, acc.toList, c, RT.vals_rev rv hi, ?_⟩), rfl, q _ fresh⟩
  rw [Array.toArray_toList]
  exact hS
end
/-! ### zip -/
section
variable {prog : Program} {w : World} {A : Around} {E : Value → Shared → Prop} {s : Shared}
/-- a zip that walks two lists, its last tuple kept by the list S -/
structure ZSt (h : Heap) (z TI TO i1 i2 l1 l2 S : Addr) (xs ys : Array Value) (i : Nat) : Prop where
  st : (IsZip h z TI TO .none ∧ ∃ a b, IsPair h TO a b) ∨ ∃ (T : Addr) (f : Bool) (oT : Obj), PySem.IsZipHeld h z TI TO T f ∧ h.get? T = some oT ∧ T ≠ S ∧ T ≠ z ∧ T ≠ i1 ∧ T ≠ i2
  ti : IsPair h TI (.ref i1) (.ref i2)
  a1 : h.IsListIter i1 l1 i
  a2 : h.IsListIter i2 l2 i
  b1 : h.IsList l1 xs
  b2 : h.IsList l2 ys
structure ZSep (z TI TO i1 i2 l1 l2 S : Addr) : Prop where
  z : z ≠ S
  ti : TI ≠ S
  t0 : TO ≠ S
  i1 : i1 ≠ S
  i2 : i2 ≠ S
  l1 : l1 ≠ S
  l2 : l2 ≠ S
theorem list_at {h h' : Heap} {a : Addr} {xs : Array Value} (x : h.IsList a xs) (e : ∀ o, h.get? a = some o → h'.get? a = some o) : h'.IsList a xs := let ⟨o, ho, r⟩ := x; ⟨o, e _ ho, r⟩
theorem ZSt.keep {h h' : Heap} {z TI TO i1 i2 l1 l2 S : Addr} {xs ys : Array Value} {i : Nat} (x : ZSt h z TI TO i1 i2 l1 l2 S xs ys i) (N : ZSep z TI TO i1 i2 l1 l2 S) (hk : ∀ b o, b ≠ S → h.get? b = some o → h'.get? b = some o) : ZSt h' z TI TO i1 i2 l1 l2 S xs ys i := by
  refine ⟨?_, hk _ _ N.ti x.ti, x.a1.at fun o e => hk _ o N.i1 e, x.a2.at fun o e => hk _ o N.i2 e, list_at x.b1 fun o e => hk _ o N.l1 e, list_at x.b2 fun o e => hk _ o N.l2 e⟩
  rcases x.st with ⟨e1, a, b, e2⟩ | ⟨T, f, oT, e1, e2, e3, e4⟩
  · exact .inl ⟨hk _ _ N.z e1, a, b, hk _ _ N.t0 e2⟩
  · exact .inr ⟨T, f, oT, hk _ _ N.z e1, hk _ _ e3 e2, e3, e4⟩
theorem zl_item {z TI TO i1 i2 l1 l2 S : Addr} {xs ys : Array Value} {x y : Value} {i : Nat} {Q : Option Value → Shared → Prop} (D : ZipApart z TI TO i1 i2 l1 l2) (N : ZSep z TI TO i1 i2 l1 l2 S) (st : ZSt s.heap z TI TO i1 i2 l1 l2 S xs ys i) (hS : S < s.heap.objs.size)
    (hx : xs[i]? = some x) (hy : ys[i]? = some y)
    (hQ : ∀ h', ZSt h' z TI TO i1 i2 l1 l2 S xs ys (i + 1) → IsPair h' s.heap.objs.size x y → h'.objs.size = s.heap.objs.size + 1 →
      (∀ c o, c ≠ z → c ≠ TO → c ≠ i1 → c ≠ i2 → s.heap.get? c = some o → h'.get? c = some o) → Q (some (.ref s.heap.objs.size)) { s with heap := h' }) :
    wpAny (model prog w) A (pyNext (.ref z)) Q E s := by
  obtain ⟨o1, ho1, _⟩ := id st.a1
  obtain ⟨o2, ho2, _⟩ := id st.a2
  have n1 : s.heap.objs.size ≠ i1 := Nat.ne_of_gt (Heap.lt_size ho1)
  have n2 : s.heap.objs.size ≠ i2 := Nat.ne_of_gt (Heap.lt_size ho2)
  rcases st.st with ⟨e1, a, b, e2⟩ | ⟨T, f, oT, e1, e2, e3, e4, e5, e6⟩
  · have nz : s.heap.objs.size ≠ z := Nat.ne_of_gt (Heap.lt_size e1)
    have nt : s.heap.objs.size ≠ TO := Nat.ne_of_gt (Heap.lt_size e2)
    refine wpAny_pyNext_zip_item D e1 st.ti e2 st.a1 st.a2 st.b1 st.b2 hx hy fun h' r1 r2 r3 r4 r5 r6 r7 => ?_
    refine hQ h' ⟨.inr ⟨_, false, _, r1, r5, Nat.ne_of_gt hS, nz, n1, n2⟩, r7 _ _ D.TIz D.TITO D.TIi1 D.TIi2 st.ti, r3, r4, list_at st.b1 fun o e => r7 _ o D.l1z D.l1TO D.l1i1 D.l1i2 e, list_at st.b2 fun o e => r7 _ o D.l2z D.l2TO D.l2i1 D.l2i2 e⟩ r5 r6 r7
  · have nz : s.heap.objs.size ≠ z := Nat.ne_of_gt (Heap.lt_size e1)
    refine PySem.wpAny_pyNext_zip_item_held D e1 e2 st.ti st.a1 st.a2 st.b1 st.b2 hx hy fun h' r1 r3 r4 r5 r6 r7 => ?_
    refine hQ h' ⟨.inr ⟨T, true, oT, r1, r7 T oT e4 e5 e6 e2, e3, e4, e5, e6⟩, r7 _ _ D.TIz D.TIi1 D.TIi2 st.ti, r3, r4, list_at st.b1 fun o e => r7 _ o D.l1z D.l1i1 D.l1i2 e, list_at st.b2 fun o e => r7 _ o D.l2z D.l2i1 D.l2i2 e⟩ r5 r6 fun c o c1 _ c3 c4 e => r7 c o c1 c3 c4 e
theorem zl_done {z TI TO i1 i2 l1 l2 S : Addr} {xs ys : Array Value} {i : Nat} {Q : Option Value → Shared → Prop} (hh : A.handled = none) (D : ZipApart z TI TO i1 i2 l1 l2) (st : ZSt s.heap z TI TO i1 i2 l1 l2 S xs ys i) (hend : xs[i]? = none ∨ ys[i]? = none)
    (hQ : ∀ h', (∀ c o, c ≠ z → c ≠ TO → c ≠ i1 → c ≠ i2 → s.heap.get? c = some o → h'.get? c = some o) → Q none { s with heap := h' }) : wpAny (model prog w) A (pyNext (.ref z)) Q E s := by
  rcases st.st with ⟨e1, a, b, e2⟩ | ⟨T, f, oT, e1, e2, e3, e4, e5, e6⟩
  · exact wpAny_pyNext_zip_end hh D e1 st.ti e2 st.a1 st.a2 st.b1 st.b2 hend hQ
  · exact PySem.wpAny_pyNext_zip_end_held hh D e1 e2 st.ti st.a1 st.a2 st.b1 st.b2 hend fun h' k => hQ h' fun c o c1 _ c3 c4 e => k c o c1 c3 c4 e
/-- the new tuples -/
structure ZlG (xs ys : Array Value) (lo : Addr) (h : Heap) (as : List Addr) : Prop where
  rise : as.Pairwise (· < ·)
  above : ∀ a ∈ as, lo < a
  pairs : ∀ (j : Nat) (a : Addr), as[j]? = some a → ∃ x y, xs[j]? = some x ∧ ys[j]? = some y ∧ IsPair h a x y
theorem ZlG.there {xs ys : Array Value} {lo : Addr} {h : Heap} {as : List Addr} (g : ZlG xs ys lo h as) {a : Addr} (ha : a ∈ as) : a < h.objs.size := by
  obtain ⟨j, hj⟩ := List.mem_iff_getElem?.mp ha
  obtain ⟨_, _, _, _, e⟩ := g.pairs j a hj
  exact Heap.lt_size e
theorem zl_loop {R : Result → Shared → Prop} {z TI TO i1 i2 l1 l2 S : Addr} {xs ys : Array Value} {n : Nat} (hh : A.handled = none) (D : ZipApart z TI TO i1 i2 l1 l2) (N : ZSep z TI TO i1 i2 l1 l2 S) (hSz : z < S) (hTO : TO < S) (h1z : i1 < S) (h2z : i2 < S)
    (hn : n ≤ sizeLine) (nx : n ≤ xs.size) (ny : n ≤ ys.size) (ne : xs[n]? = none ∨ ys[n]? = none) (res : Value) {h₁ : Heap}
    (hR : ∀ h' tk acc c as, (∀ b o, b ≠ S → b ≠ z → b ≠ TO → b ≠ i1 → b ≠ i2 → h₁.get? b = some o → h'.get? b = some o) → h'.get? S = some { cls := .type "list", dict := none, data := .seq acc c, slots := #[] } → as.length = n → ZlG xs ys S h' as →
      acc.toList = as.map Value.ref → R (.ok (.ret res)) { s with heap := h', toks := tk }) :
    ∀ (k i : Nat) (h : Heap) (tk c : Nat) (acc : Array Value) (as : List Addr), n - i = k → i ≤ n → ZSt h z TI TO i1 i2 l1 l2 S xs ys i → (∀ b o, b ≠ S → b ≠ z → b ≠ TO → b ≠ i1 → b ≠ i2 → h₁.get? b = some o → h.get? b = some o) →
      h.get? S = some { cls := .type "list", dict := none, data := .seq acc c, slots := #[] } → acc.toList = as.map Value.ref → as.length = i → ZlG xs ys S h as → S < h.objs.size →
      codeAny (model prog w) A (.builtin "list.extend.loop" ⟨[.ref S, .ref z, res], []⟩) R { s with heap := h, toks := tk } := by
  intro k
  induction k with
  | zero =>
    intro i h tk c acc as hk hi hst hkeep hS hacc hal hG hIs
    have hin : i = n := by omega
    subst hin
    refine codeAny_builtin PySem.F.entry_extend_loop ?_
    rw [Around.under_plainId PySem.F.plain_extend_loop _]
    show wpAny _ A.in1 (pyNext (.ref z) >>= _) _ _ _
    refine wpAny_bind (zl_done (s := { s with heap := h, toks := tk }) (A := A.in1) hh D hst ne fun h' he => ?_)
    refine wpAny_pure (hR h' tk acc c as (fun b o h1 h2 h3 h4 h5 e => he b o h2 h3 h4 h5 (hkeep b o h1 h2 h3 h4 h5 e)) (he S _ N.z.symm N.t0.symm N.i1.symm N.i2.symm hS) hal ⟨hG.rise, hG.above, fun j a hj => ?_⟩ hacc)
    obtain ⟨x, y, e1, e2, e3⟩ := hG.pairs j a hj
    have za := hG.above a (List.mem_of_getElem? hj)
    exact ⟨x, y, e1, e2, he a _ (Nat.ne_of_gt (Nat.lt_trans hSz za)) (Nat.ne_of_gt (Nat.lt_trans hTO za)) (Nat.ne_of_gt (Nat.lt_trans h1z za)) (Nat.ne_of_gt (Nat.lt_trans h2z za)) e3⟩
  | succ k ih =>
    intro i h tk c acc as hk hi hst hkeep hS hacc hal hG hIs
    have hlt : i < n := by omega
    obtain ⟨x, hx⟩ : ∃ p, xs[i]? = some p := ⟨xs[i], Array.getElem?_eq_getElem (by omega)⟩
    obtain ⟨y, hy⟩ : ∃ p, ys[i]? = some p := ⟨ys[i], Array.getElem?_eq_getElem (by omega)⟩
    have hsz : acc.size = i := by rw [← Array.length_toList, hacc, List.length_map, hal]
    refine codeAny_builtin PySem.F.entry_extend_loop ?_
    rw [Around.under_plainId PySem.F.plain_extend_loop _]
    show wpAny _ A.in1 (pyNext (.ref z) >>= _) _ _ _
    refine wpAny_bind (zl_item (s := { s with heap := h, toks := tk }) (S := S) D N hst (Heap.lt_size hS) hx hy fun h' hst' ht hz hkp => ?_)
    dsimp only at ht hz hkp ⊢
    have hS' := hkp S _ N.z.symm N.t0.symm N.i1.symm N.i2.symm hS
    have up : ∀ b o, b ≠ S → h'.get? b = some o → (h'.update S (Obj.mapSeq (·.push (Value.ref h.objs.size)))).get? b = some o := fun b o hb e => (Heap.get?_update_other _ _ (Ne.symm hb)).trans e
    have hSl : S < h.objs.size := Heap.lt_size hS
    show wpAny _ A.in1 (updateSeq S (·.push (Value.ref h.objs.size)) >>= _) _ _ _
    refine wpAny_bind ?_
    refine wpAny_updateSeq hS' rfl (wpAny_pure ⟨plainId_quiet PySem.F.plain_extend_loop _, ih (i + 1) _ tk _ (acc.push (Value.ref h.objs.size)) (as ++ [h.objs.size]) (by omega) hlt (hst'.keep N up)
      (fun b o h1 h2 h3 h4 h5 e => up b o h1 (hkp b o h2 h3 h4 h5 (hkeep b o h1 h2 h3 h4 h5 e))) (Heap.get?_update_self _ hS' rfl) (by rw [Array.toList_push, hacc, List.map_append]; rfl) (by rw [List.length_append, hal]; rfl) ⟨?_, ?_, ?_⟩ ?_⟩) (by rw [hsz]; omega) (by show (acc.push (Value.ref h.objs.size)).size ≤ sizeLine + 1; rw [Array.size_push, hsz]; omega)
    · refine List.pairwise_append.mpr ⟨hG.rise, List.pairwise_singleton _ _, fun a ha b hb => ?_⟩
      rw [List.mem_singleton.mp hb]
      exact hG.there ha
    · intro a ha
      rcases List.mem_append.mp ha with ha | ha
      · exact hG.above a ha
      · rw [List.mem_singleton.mp ha]; exact hIs
    · intro j b hj
      rcases Nat.lt_trichotomy j as.length with h1 | h1 | h1
      · rw [List.getElem?_append_left h1] at hj
        obtain ⟨x', y', e1, e2, e3⟩ := hG.pairs j b hj
        have hb := hG.above b (List.mem_of_getElem? hj)
        exact ⟨x', y', e1, e2, up b _ (Nat.ne_of_gt hb) (hkp b _ (Nat.ne_of_gt (Nat.lt_trans hSz hb)) (Nat.ne_of_gt (Nat.lt_trans hTO hb)) (Nat.ne_of_gt (Nat.lt_trans h1z hb)) (Nat.ne_of_gt (Nat.lt_trans h2z hb)) e3)⟩
      · subst h1
        have hb : h.objs.size = b := by simpa using hj
        subst hb
        exact ⟨x, y, by rw [hal]; exact hx, by rw [hal]; exact hy, up _ _ (Nat.ne_of_gt hSl) ht⟩
      · have hnone : (as ++ [h.objs.size])[j]? = none := List.getElem?_eq_none (by rw [List.length_append, List.length_singleton]; omega)
        rw [hnone] at hj; cases hj
    · have e : (h'.update S (Obj.mapSeq (·.push (Value.ref h.objs.size)))).get? h.objs.size = _ := up _ _ (Nat.ne_of_gt hSl) ht
      exact Nat.lt_trans hIs (Heap.lt_size e)
theorem nolen_zip : typeLookup (.type "zip") "__len__" = pure none := by rw [typeLookup_type, builtinLookup_eq_fast]; kernel_rfl
theorem nohint_zip : typeLookup (.type "zip") "__length_hint__" = pure none := by rw [typeLookup_type, builtinLookup_eq_fast]; kernel_rfl
theorem extend_zip {R : Result → Shared → Prop} {z TI TO i1 i2 l1 l2 S : Addr} {xs ys : Array Value} {n : Nat} (hh : A.handled = none) (D : ZipApart z TI TO i1 i2 l1 l2) (N : ZSep z TI TO i1 i2 l1 l2 S) (hSz : z < S) (hTO : TO < S) (h1z : i1 < S) (h2z : i2 < S)
    (hn : n ≤ sizeLine) (nx : n ≤ xs.size) (ny : n ≤ ys.size) (ne : xs[n]? = none ∨ ys[n]? = none) (hz : IsZip s.heap z TI TO .none) (st : ZSt s.heap z TI TO i1 i2 l1 l2 S xs ys 0) (res : Value) (c₀ : Nat) (hS : s.heap.get? S = some { cls := .type "list", data := .seq #[] c₀ })
    (hR : ∀ h' tk acc c as, (∀ b o, b ≠ S → b ≠ z → b ≠ TO → b ≠ i1 → b ≠ i2 → s.heap.get? b = some o → h'.get? b = some o) → h'.get? S = some { cls := .type "list", dict := none, data := .seq acc c, slots := #[] } → as.length = n → ZlG xs ys S h' as →
      acc.toList = as.map Value.ref → R (.ok (.ret res)) { s with heap := h', toks := tk }) :
    wpAny (model prog w) A.in1 (Builtin.List.listExtendWith (.ref S) (.ref z) res)
      (fun fin s' => match fin with | .done f => R (.ok f) s' | .again c' => c'.quiet = true ∧ codeAny (model prog w) A c' R s') (fun e s' => R (.error e) s') s := by
  have hT : s.TypeIs (.ref z) "zip" := ⟨_, hz, rfl⟩
  have key : ∀ (h : Heap) (c₁ tk : Nat), (∀ b o, b ≠ S → s.heap.get? b = some o → h.get? b = some o) → h.get? S = some { cls := .type "list", data := .seq #[] c₁ } →
      codeAny (model prog w) A (.builtin "list.extend.loop" ⟨[.ref S, .ref z, res], []⟩) R { s with heap := h, toks := tk } := by
    intro h c₁ tk hk hS₁
    refine zl_loop (s := s) (h₁ := s.heap) hh D N hSz hTO h1z h2z hn nx ny ne res hR n 0 h tk c₁ #[] [] (Nat.sub_zero _) (Nat.zero_le _) (st.keep N hk) (fun b o hb _ _ _ _ e => hk b o hb e) hS₁ rfl rfl
      ⟨List.Pairwise.nil, (fun _ ha => nomatch ha), (fun j a hj => by simp at hj)⟩ (Heap.lt_size hS₁)
  unfold Builtin.List.listExtendWith
  refine wpAny_bind (wpAny_typeOf hT ?_)
  have h1 : Builtin.List.listSameRef (.ref S) (.ref z) = false := by simp [Builtin.List.listSameRef, Nat.ne_of_gt hSz]
  have h2 : (Value.type "zip" == Value.type "list") = false := by decide
  have h3 : (Value.type "zip" == Value.type "tuple") = false := by decide
  simp only [h1, h2, h3, Bool.or_false, Bool.false_eq_true, if_false]
  refine wpAny_bind (wpAny_pyIter_zip hz ?_)
  refine wpAny_bind (wpAny_holding ?_)
  unfold Builtin.List.listLengthHint
  refine wpAny_bind (wpAny_specialOf hT nolen_zip ?_)
  show wpAny _ A.in1 (specialOf (Value.ref z) (Str.ofString "__length_hint__") >>= _) _ _ _
  refine wpAny_bind (wpAny_specialOf hT nohint_zip ?_)
  refine wpAny_pure ?_
  rw [if_pos (by decide)]
  refine wpAny_bind (wpAny_rule ?_)
  refine wpAny_bind ?_
  show wpAny _ _ (updateSeq S (·.push .none) >>= fun _ => updateSeq S (·.pop)) _ _ _
  refine wpAny_bind (wpAny_updateSeq hS rfl ?_)
  have hS₂ := Heap.get?_update_self (Obj.mapSeq (·.push Value.none)) hS rfl
  refine wpAny_updateSeq (hz := by seq_fits) hS₂ rfl ?_
  have hS₃ := Heap.get?_update_self (Obj.mapSeq (·.pop)) hS₂ rfl
  refine wpAny_pure ⟨plainId_quiet PySem.F.plain_extend_loop _, key _ _ _ (fun b o hb e => ?_) hS₃⟩
  exact (Heap.get?_update_other _ _ (Ne.symm hb)).trans ((Heap.get?_update_other _ _ (Ne.symm hb)).trans e)
theorem init_zip {R : Result → Shared → Prop} {z TI TO i1 i2 l1 l2 S : Addr} {xs ys : Array Value} {n : Nat} (hh : A.handled = none) (D : ZipApart z TI TO i1 i2 l1 l2) (N : ZSep z TI TO i1 i2 l1 l2 S) (hSz : z < S) (hTO : TO < S) (h1z : i1 < S) (h2z : i2 < S)
    (hn : n ≤ sizeLine) (nx : n ≤ xs.size) (ny : n ≤ ys.size) (ne : xs[n]? = none ∨ ys[n]? = none) (hz : IsZip s.heap z TI TO .none) (st : ZSt s.heap z TI TO i1 i2 l1 l2 S xs ys 0) (hS : s.heap.get? S = some { cls := .type "list", data := .seq #[] })
    (hR : ∀ h' tk acc c as, (∀ b o, b ≠ S → b ≠ z → b ≠ TO → b ≠ i1 → b ≠ i2 → s.heap.get? b = some o → h'.get? b = some o) → h'.get? S = some { cls := .type "list", dict := none, data := .seq acc c, slots := #[] } → as.length = n → ZlG xs ys S h' as →
      acc.toList = as.map Value.ref → R (.ok (.ret .none)) { s with heap := h', toks := tk }) :
    wpAny (model prog w) A.in1 (Builtin.«list.__init__» ⟨[.ref S, .ref z], []⟩)
      (fun fin s' => match fin with | .done f => R (.ok f) s' | .again c' => c'.quiet = true ∧ codeAny (model prog w) A c' R s') (fun e s' => R (.error e) s') s := by
  show wpAny _ _ (do let old ← Builtin.List.listItems (.ref S); Builtin.List.listUpdate (.ref S) (fun _ => #[]); letGo old.toList.reverse; Builtin.List.listExtendWith (.ref S) (.ref z) .none) _ _ s
  refine wpAny_bind ?_
  unfold Builtin.List.listItems
  refine wpAny_bind (wpAny_seqItems hS rfl (wpAny_pure ?_))
  show wpAny _ _ (updateSeq S (fun _ => #[]) >>= fun _ => letGo (#[] : Array Value).toList.reverse >>= fun _ => Builtin.List.listExtendWith (.ref S) (.ref z) .none) _ _ s
  refine wpAny_bind (wpAny_updateSeq hS rfl ?_)
  have hS₂ := Heap.get?_update_self (Obj.mapSeq (fun _ => (#[] : Array Value))) hS rfl
  have oth : ∀ b o, b ≠ S → s.heap.get? b = some o → (s.heap.update S (Obj.mapSeq (fun _ => (#[] : Array Value)))).get? b = some o :=
    fun b o hb e => (Heap.get?_update_other _ _ (Ne.symm hb)).trans e
  refine wpAny_bind (wpAny_letGo ?_)
  exact extend_zip (s := { s with heap := s.heap.update S (Obj.mapSeq (fun _ => (#[] : Array Value))) }) hh D N hSz hTO h1z h2z hn nx ny ne (oth _ _ N.z hz) (st.keep N oth) .none _ hS₂ fun h' tk acc c as hk hS' hl hG hacc => hR h' tk acc c as (fun b o b1 b2 b3 b4 b5 e => hk b o b1 b2 b3 b4 b5 (oth b o b1 e)) hS' hl hG hacc
/-- list(zip(a list, a list)) -/
theorem call_list_zip {l1 l2 : Addr} {xs ys : Array Value} {n : Nat} {Q : Value → Shared → Prop} (hh : A.handled = none) (hl1 : s.heap.IsList l1 xs) (hl2 : s.heap.IsList l2 ys) (hn : n ≤ sizeLine) (nx : n ≤ xs.size) (ny : n ≤ ys.size) (ne : xs[n]? = none ∨ ys[n]? = none)
    (hQ : ∀ h' tk acc c as, (∀ b o, s.heap.get? b = some o → h'.get? b = some o) → h'.get? (s.heap.objs.size + 5) = some { cls := .type "list", dict := none, data := .seq acc c, slots := #[] } → as.length = n → ZlG xs ys (s.heap.objs.size + 5) h' as →
      acc.toList = as.map Value.ref → Q (.ref (s.heap.objs.size + 5)) { s with heap := h', toks := tk }) :
    wpAny (model prog w) A (call (.type "zip") [.ref l1, .ref l2]) (fun v s' => wpAny (model prog w) A (call (.type "list") [v]) Q E s') E s := by
  obtain ⟨o1, ho1, _⟩ := id hl1
  obtain ⟨o2, ho2, _⟩ := id hl2
  have q1 := Heap.lt_size ho1
  have q2 := Heap.lt_size ho2
  refine call_zip_2 hl1 hl2 fun h1 z1 z2 z3 z4 z5 z6 z7 => ?_
  refine callType_codes (s := { s with heap := h1 }) (Q₁ := fun obj s₁ => obj = .ref h1.objs.size ∧ s₁ = { s with heap := h1.push { cls := .type "list", data := .seq #[] } }) PySem.F.called_list (PySem.F.typeCall_list_1 _) PySem.F.entry_list_init
    (code_list_new _ ⟨rfl, rfl⟩) fun obj s₁ h₁ => ?_
  obtain ⟨rfl, rfl⟩ := h₁
  have hS : (h1.push { cls := .type "list", data := .seq #[] }).get? h1.objs.size = some { cls := .type "list", data := .seq #[] } := Heap.get?_push_size _ rfl
  have pk : ∀ b o, h1.get? b = some o → (h1.push { cls := .type "list", data := .seq #[] }).get? b = some o := fun b o e => Heap.get?_push_of_some _ e
  rw [z6] at hS ⊢
  generalize hm : s.heap.objs.size = m at *
  have q1 : @LT.lt Nat instLTNat l1 m := q1
  have q2 : @LT.lt Nat instLTNat l2 m := q2
  have D : ZipApart (m + 4) (m + 2) (m + 3) m (m + 1) l1 l2 := by
    constructor <;> first | (intro h; exact absurd h (by simp)) | (intro h; have h : (_ : Nat) = _ := h; omega)
  have N : ZSep (m + 4) (m + 2) (m + 3) m (m + 1) l1 l2 (m + 5) := by
    constructor <;> (intro h; have h : (_ : Nat) = _ := h; omega)
  refine ⟨⟨_, hS, rfl⟩, PySem.F.args_list_init_2 _ _, init_zip (A := A.in1) hh D N (Nat.lt_succ_self _) (by show m + 3 < m + 5; omega) (by show m < m + 5; omega) (by show m + 1 < m + 5; omega) hn nx ny ne (pk _ _ z1)
    ⟨.inl ⟨pk _ _ z1, _, _, pk _ _ z3⟩, pk _ _ z2, z4.at fun o e => pk _ o e, z5.at fun o e => pk _ o e, list_at hl1 fun o e => pk _ o (z7 _ o e), list_at hl2 fun o e => pk _ o (z7 _ o e)⟩ hS fun h' tk acc c as hk hS' hl hG hacc => ?_⟩
  refine ⟨rfl, hQ h' tk acc c as (fun b o e => ?_) hS' hl hG hacc⟩
  have hb : b < m := by rw [← hm]; exact Heap.lt_size e
  exact hk b o (Nat.ne_of_lt (Nat.lt_of_lt_of_le hb (by show m ≤ m + 5; omega))) (Nat.ne_of_lt (Nat.lt_of_lt_of_le hb (by show m ≤ m + 4; omega))) (Nat.ne_of_lt (Nat.lt_of_lt_of_le hb (by show m ≤ m + 3; omega))) (Nat.ne_of_lt hb) (Nat.ne_of_lt (Nat.lt_of_lt_of_le hb (by show m ≤ m + 1; omega))) (pk b o (z7 b o e))
end
/-- the tuples laid at their addresses -/
def putP : Hp → List Addr → List (V × V) → Hp
  | H, a :: as, p :: ps => putP (upd H a (.tup [p.1, p.2])) as ps
  | H, _, _ => H
theorem putP_off {b : Addr} : ∀ (as : List Addr) (ps : List (V × V)) (H : Hp), b ∉ as → putP H as ps b = H b
  | [], _, _, _ => rfl
  | _ :: _, [], _, _ => rfl
  | a :: as, p :: ps, H, h => by
    show putP (upd H a (.tup [p.1, p.2])) as ps b = H b
    rw [putP_off as ps _ (fun z => h (List.mem_cons_of_mem _ z)), upd_ne (fun z => h (by rw [z]; exact List.mem_cons_self))]
theorem putP_at : ∀ (as : List Addr) (ps : List (V × V)) (H : Hp), as.length = ps.length → as.Nodup → Paired (fun (t : Addr) (p : V × V) => putP H as ps t = some (.tup [p.1, p.2])) as ps
  | [], [], _, _, _ => .nil
  | [], _ :: _, _, h, _ => by cases h
  | _ :: _, [], _, h, _ => by cases h
  | a :: as, p :: ps, H, h, hn => by
    have hn' := List.nodup_cons.mp hn
    have ih := putP_at as ps (upd H a (.tup [p.1, p.2])) (Nat.succ.inj h) hn'.2
    refine .cons ?_ ih
    show putP (upd H a (.tup [p.1, p.2])) as ps a = some (.tup [p.1, p.2])
    rw [putP_off as ps _ hn'.1, upd_same]
section
variable {X : Cx}
theorem zip_get {α β : Type} : ∀ {xs : List α} {ys : List β} {j : Nat} {p : α × β}, (xs.zip ys)[j]? = some p → xs[j]? = some p.1 ∧ ys[j]? = some p.2
  | xs, ys, j, p, h => by
    have := List.getElem?_zip_eq_some.mp h
    exact this
theorem vals_get : ∀ {vs : List V} {us : List Value}, Vals vs us → ∀ {j : Nat} {v : V} {u : Value}, vs[j]? = some v → us[j]? = some u → RelV v u
  | _, _, .cons r t, 0, v, u, h1, h2 => by cases h1; cases h2; exact r
  | _, _, .cons r t, j + 1, v, u, h1, h2 => vals_get t h1 h2
theorem zip_laid {pins : List (Addr × Obj)} {σ : L2.St} {H : Hp} {s : Shared} {h' : Heap} {tk : Nat} {xs ys : List V} {us ws : List Value} {acc : Array Value} {c n : Nat} {S : Addr} {as : List Addr} (I : Inv X pins σ H s) (hz : n ≤ sizeLine) (rx : Vals xs us) (ry : Vals ys ws) (hS0 : s.heap.objs.size ≤ S)
    (en : n = (xs.zip ys).length) (hk : ∀ b o, s.heap.get? b = some o → h'.get? b = some o) (hS : h'.get? S = some { cls := .type "list", dict := none, data := .seq acc c, slots := #[] }) (hl : as.length = n) (hG : ZlG us.toArray ws.toArray S h' as) (hacc : acc.toList = as.map Value.ref) :
    ∃ H' : Hp, (∀ b o, H b = some o → H' b = some o) ∧ H S = none ∧ (∀ t ∈ as, H t = none) ∧ S ∉ as ∧ H' S = some (.lst (as.map V.ref)) ∧ Paired (fun (t : Addr) (q : V × V) => H' t = some (.tup [q.1, q.2])) as (xs.zip ys) ∧ Inv X pins σ H' { s with heap := h', toks := tk } := by
  have hSn : S ∉ as := fun z => Nat.lt_irrefl _ (hG.above _ z)
  have nd : as.Nodup := List.Pairwise.imp (fun {a b} (h : a < b) => Nat.ne_of_lt h) hG.rise
  have new : ∀ t ∈ as, H t = none := fun t ht => I.hok.fresh (Nat.le_trans hS0 (Nat.le_of_lt (hG.above t ht)))
  have newS : H S = none := I.hok.fresh hS0
  have atP := putP_at as (xs.zip ys) (upd H S (.lst (as.map V.ref))) (by rw [hl, en]) nd
  have off : ∀ b, b ∉ as → b ≠ S → putP (upd H S (.lst (as.map V.ref))) as (xs.zip ys) b = H b := fun b h1 h2 => by rw [putP_off as _ _ h1, upd_ne h2]
  have low : ∀ b o, s.heap.get? b = some o → b ∉ as ∧ b ≠ S := fun b o e => ⟨fun z => absurd (Nat.lt_of_lt_of_le (Heap.lt_size e) hS0) (Nat.not_lt.mpr (Nat.le_of_lt (hG.above b z))), Nat.ne_of_lt (Nat.lt_of_lt_of_le (Heap.lt_size e) hS0)⟩
  have kp : ∀ b u, H b = some u → (putP (upd H S (.lst (as.map V.ref))) as (xs.zip ys)) b = some u := fun b u e => by
    rw [off b (fun z => by rw [new b z] at e; cases e) (fun z => by rw [z, newS] at e; cases e)]
    exact e
  have eS : putP (upd H S (.lst (as.map V.ref))) as (xs.zip ys) S = some (.lst (as.map V.ref)) := by rw [putP_off as _ _ hSn, upd_same]
  refine ⟨putP (upd H S (.lst (as.map V.ref))) as (xs.zip ys), kp, newS, new, hSn, eS, atP, ?_⟩
  refine I.call' (ch := []) rfl ⟨fun b o q _ _ _ => hk b o q, fun b o q _ _ _ => ⟨o.slots, hk b o q⟩, fun b o q n _ => ?_, fun b o q _ => ⟨o, hk b o q⟩, fun b xs q => kp b _ q, fun b o u q => kp b _ q, fun b ps q => ⟨#[], by rw [kp b _ q]; simp⟩⟩ (fun b u q => ?_) I.bare fun b z => by simp at z
  · obtain ⟨z1, z2⟩ := low b o q
    rw [off b z1 z2]
    exact n
  · by_cases hb : b ∈ as
    · obtain ⟨j, pk, e1, e2, e3⟩ := LiI.paired_ix atP hb
      rw [e3] at q
      cases q
      obtain ⟨x, y, f1, f2, f3⟩ := hG.pairs j b e1
      obtain ⟨g1, g2⟩ := zip_get e2
      have f1' : us[j]? = some x := by simpa using f1
      have f2' : ws[j]? = some y := by simpa using f2
      exact ⟨by show 2 ≤ sizeLine; decide, [x, y], .cons (vals_get rx g1 f1') (.cons (vals_get ry g2 f2') .nil), ⟨_, f3, rfl, _, rfl⟩⟩
    · by_cases hb2 : b = S
      · rw [hb2] at q ⊢
        rw [eS] at q
        cases q
        refine ⟨by rw [List.length_map]; omega, acc.toList, c, by rw [hacc]; exact LiI.vals_refs as, ?_⟩
        rw [Array.toArray_toList]
        exact hS
      · rw [off b hb hb2] at q
        exact (I.hok b u q).stay (fun d v _ y => hk d v y) (fun d y => kp d _ y) fun d xs y => kp d _ y
def tLstZip (K : PySem.W.Frag) (ta : TA) : TE := fun σ H Q => ta σ H fun vs H1 => ∃ a b xs ys, vs = [.ref a, .ref b] ∧ SqL K H1 a xs ∧ SqL K H1 b ys ∧
  ∀ (H' : Hp) (p : Addr) (ts : List Addr), Same H1 H' → H1 p = none → (∀ t ∈ ts, H1 t = none) → p ∉ ts → H' p = some (.lst (ts.map V.ref)) → Paired (fun (t : Addr) (q : V × V) => H' t = some (.tup [q.1, q.2])) ts (xs.zip ys) → Q (.ref p) H'
theorem pe_lstZip {e e2 : Expr} {ta : TA} {p p2 pos pos2 : Pos} (hc : X.calm = true) (hg : Gl X "list") (hm : X.mg "list" = none) (hg2 : Gl X "zip") (hm2 : X.mg "zip" = none) (ha : PA X [e, e2] ta)
    (hs : starEach [e, e2] X.env = (false, eval e X.env) :: starEach [e2] X.env := by rfl) (hpl : (backTo pos2 (starEach [e2] X.env)).any (·.1) = false := by rfl)
    (hs2 : starEach [.Call (.Name "zip" p2) [e, e2] [] pos2] X.env = (false, eval (.Call (.Name "zip" p2) [e, e2] [] pos2) X.env) :: starEach [] X.env := by rfl) :
    PE X (.Call (.Name "list" p) [.Call (.Name "zip" p2) [e, e2] [] pos2] [] pos) (tLstZip X.K ta) := by
  refine ⟨fun pins s σ H Q I h => ?_⟩
  refine Call_ (ld_blt I hg hm boot_list (PyProof.Rows.callWith_type1 (args_cons (Call_ (ld_blt I hg2 hm2 PyProof.Rows.boot_zip (PyProof.Rows.callWith_type1 (thn (ha.run pos2 pins s σ H _ I h) fun us s1 ⟨vs, H1, I1, r1, q1⟩ => ?_) hs hpl))) hs2) hs2 rfl))
  obtain ⟨a, b, xs, ys, ex, hqx, hqy, q⟩ := q1
  subst ex
  cases r1 with
  | cons r rr =>
    cases rr with
    | cons r' rr =>
      cases rr
      cases r
      cases r'
      obtain ⟨its, rv, p1, z1⟩ := I1.list hqx
      obtain ⟨its2, rv2, p2, z2⟩ := I1.list hqy
      have ez : (xs.zip ys).length = min its.length its2.length := by rw [List.length_zip, rv.length, rv2.length]
      refine wpAny_mono (call_list_zip (n := (xs.zip ys).length) (I1.ok.hd hc) p1.isList p2.isList ?_ ?_ ?_ ?_ fun h' tk acc c as hk hS hl hG hacc => ?_) (fun v s' hv => args_nil hv) fun _ _ e => e
      · rw [ez, ← rv.length]; omega
      · rw [ez, List.size_toArray]; omega
      · rw [ez, List.size_toArray]; omega
      · rw [ez]
        simp only [List.getElem?_toArray, List.getElem?_eq_none_iff]
        omega
      · obtain ⟨H', k1, k2, k3, k4, k5, k6, J⟩ := zip_laid (tk := tk) I1 (by rw [ez, ← rv.length]; omega) rv rv2 (Nat.le_add_right _ 5) rfl hk hS hl hG hacc
        exact ⟨.ref _, H', J, rfl, q H' _ as k1 k2 k3 k4 k5 k6⟩
end
end VpL

end

section
set_option Elab.async false
set_option linter.all false
set_option autoImplicit false
set_option maxRecDepth 100000
/-! VpX2: methods of texts, f-strings, list(range | reversed | zip), a module's dict of text keys. -/
namespace Vp
open PySem PySem.Spec PyProof.Rows L2
section
variable {X : Cx} {e a b c : Expr} {pos : Pos} {fa fb fc : Env' → Option D}
/-! ### methods of texts -/
inductive Mt where
  | index | find | partition | join
  deriving DecidableEq
def Mt.name : Mt → Str
  | .index => "index" | .find => "find" | .partition => "partition" | .join => "join"
def strsOf : List D → Option (List Str)
  | [] => some []
  | .str x :: r => (strsOf r).map (x :: ·)
  | _ => none
def mtI : D → List D → Option D
  | .str a, [.str b] => (Builtin.Str.occurrences a b 0 a.length 1).head?.map fun i => .int (i : Nat)
  | _, _ => none
def mtF : D → List D → Option D
  | .str a, [.str b] => some (.int (Txt.find a b))
  | _, _ => none
def mtP : D → List D → Option D
  | .str a, [.str b] => if (b.length == 0) = false ∧ a.length ≤ lineN then some (.tup [.str (Txt.partition a b).1, .str (Txt.partition a b).2.1, .str (Txt.partition a b).2.2]) else none
  | _, _ => none
def mtJ : D → List D → Option D
  | .str a, [d] => ((seqOf d).bind strsOf).bind fun ys => if (ys.map (·.length)).sum + ys.length * a.length ≤ 16777216 then some (.str (Txt.join a ys)) else none
  | _, _ => none
def mtD : Mt → D → List D → Option D
  | .index => mtI | .find => mtF | .partition => mtP | .join => mtJ
theorem strs_rep {K : PySem.W.Frag} {H : Hp} : ∀ {ds : List D} {vs : List V} {ys : List Str}, RepA K H vs ds → strsOf ds = some ys → vs = ys.map V.str
  | [], _, _, r, h => by
    cases h
    cases r
    rfl
  | d :: ds, _, ys, r, h => by
    cases r with
    | cons h1 r =>
      cases h1 <;> simp only [strsOf] at h <;> try (cases h; done)
      obtain ⟨zs, h2, rfl⟩ := Option.map_eq_some_iff.mp h
      rw [strs_rep r h2]
      rfl
def rDM (K : PySem.W.Frag) (m : Mt) : V → List V → Hp → VK → Prop := fun x vs H Q => ∃ A a ds d, Dom A H ∧ Rep K (mask A H) x a ∧ RepA K (mask A H) vs ds ∧ mtD m a ds = some d ∧ Post K A H d Q
def apM (m : Mt) (fo : Env' → Option D) (fs : Env' → Option (List D)) (E : Env') : Option D := (fo E).bind fun x => (fs E).bind fun ds => mtD m x ds
theorem mtD_str {m : Mt} {x : D} {ds : List D} {d : D} (h : mtD m x ds = some d) : ∃ z, x = .str z := by
  cases x <;> first | exact ⟨_, rfl⟩ | (cases m <;> simp only [mtD, mtI, mtF, mtP, mtJ] at h <;> cases h)
theorem rd_mth {m : Mt} {fo : Env' → Option D} {fs : Env' → Option (List D)} : ∀ σ H Q, rdE X.K (apM m fo fs) σ H Q → tBM X.K "str" (rDM X.K m) (rdE X.K fo) (rdA X.K fs) σ H Q := by
  rintro σ H Q ⟨L, A, E, d, er, h, k⟩
  obtain ⟨x, hx, h⟩ := Option.bind_eq_some_iff.mp h
  obtain ⟨ds, hds, h⟩ := Option.bind_eq_some_iff.mp h
  obtain ⟨z, rfl⟩ := mtD_str h
  refine ⟨L, A, E, .str z, er, hx, fun v H1 s1 r1 => ⟨?_, L, A, E, ds, er.mono s1, hds, fun vs H2 s2 r2 => ?_⟩⟩
  · cases r1
    rfl
  · exact ⟨A, .str z, ds, d, ((er.mono s1).mono s2).dom, r1.mono (mask_same s2), r2, h, (k.mono s1).mono s2⟩
theorem two_strs {K : PySem.W.Frag} {H : Hp} {f : D → List D → Option D} {x : V} {xs : List V} {a : D} {ds : List D} {d : D} (hf : ∀ a ds d, f a ds = some d → ∃ y z, a = .str y ∧ ds = [.str z]) (ra : Rep K H x a) (rds : RepA K H xs ds) (e : f a ds = some d) : ∃ y z, a = .str y ∧ ds = [.str z] ∧ x = .str y ∧ xs = [.str z] := by
  obtain ⟨y, z, rfl, rfl⟩ := hf a ds d e
  cases ra
  cases rds with
  | cons r1 r2 =>
    cases r1
    cases r2
    exact ⟨y, z, rfl, rfl, rfl, rfl⟩
theorem mtI_two : ∀ a ds d, mtI a ds = some d → ∃ y z, a = .str y ∧ ds = [.str z] := by
  intro a ds d h
  unfold mtI at h
  split at h
  · exact ⟨_, _, rfl, rfl⟩
  · cases h
theorem mtF_two : ∀ a ds d, mtF a ds = some d → ∃ y z, a = .str y ∧ ds = [.str z] := by
  intro a ds d h
  unfold mtF at h
  split at h
  · exact ⟨_, _, rfl, rfl⟩
  · cases h
theorem mtP_two : ∀ a ds d, mtP a ds = some d → ∃ y z, a = .str y ∧ ds = [.str z] := by
  intro a ds d h
  unfold mtP at h
  split at h
  · exact ⟨_, _, rfl, rfl⟩
  · cases h
theorem mt_okI : MtR X "str.index" (rDM X.K .index) := by
  intro pins s σ H x xs v us Q I rx rs h
  obtain ⟨A, a, ds, d, hd, ra, rds, e, k⟩ := h
  obtain ⟨y, z, rfl, rfl, rfl, rfl⟩ := two_strs mtI_two ra rds e
  have e2 : (Builtin.Str.occurrences y z 0 y.length 1).head?.map (fun i => D.int (i : Nat)) = some d := e
  cases ho : Builtin.Str.occurrences y z 0 y.length 1 with
  | nil => rw [ho] at e2; cases e2
  | cons i r =>
    rw [ho] at e2
    cases e2
    exact mt_sindex pins s σ H _ _ v us Q I rx rs ⟨_, _, i, r, rfl, rfl, ho, k.now (.int _)⟩
theorem mt_okF : MtR X "str.find" (rDM X.K .find) := by
  intro pins s σ H x xs v us Q I rx rs h
  obtain ⟨A, a, ds, d, hd, ra, rds, e, k⟩ := h
  obtain ⟨y, z, rfl, rfl, rfl, rfl⟩ := two_strs mtF_two ra rds e
  cases e
  exact mt_find pins s σ H _ _ v us Q I rx rs ⟨_, _, rfl, rfl, k.now (.int _)⟩
theorem mt_okP : MtR X "str.partition" (rDM X.K .partition) := by
  intro pins s σ H x xs v us Q I rx rs h
  obtain ⟨A, a, ds, d, hd, ra, rds, e, k⟩ := h
  obtain ⟨y, z, rfl, rfl, rfl, rfl⟩ := two_strs mtP_two ra rds e
  obtain ⟨⟨h1, h2⟩, rfl⟩ := if_some e
  exact mt_partition pins s σ H _ _ v us Q I rx rs ⟨_, _, rfl, rfl, h1, le_line h2, fun p hp => k.newT hd (.cons (.str _) (.cons (.str _) (.cons (.str _) .nil))) hp⟩
theorem mt_okJ : MtR X "str.join" (rDM X.K .join) := by
  intro pins s σ H x xs v us Q I rx rs h
  obtain ⟨A, a, ds, d, hd, ra, rds, e, k⟩ := h
  have e2 : mtJ a ds = some d := e
  unfold mtJ at e2
  split at e2
  · obtain ⟨ys, h1, h2⟩ := Option.bind_eq_some_iff.mp e2
    obtain ⟨h2', rfl⟩ := if_some h2
    obtain ⟨es, h3, h4⟩ := Option.bind_eq_some_iff.mp h1
    cases ra
    cases rds with
    | cons r1 r2 =>
      cases r2
      obtain ⟨p, vs, rfl, h5, h6⟩ := seq_rep r1 h3
      have e6 := strs_rep h6 h4
      subst e6
      exact mt_join pins s σ H _ _ v us Q I rx rs ⟨_, p, ys, rfl, rfl, h5, h2', k.now (.str _)⟩
  · cases e2
theorem vp_mth (m : Mt) {o : Expr} {es : List Expr} {fo : Env' → Option D} {fs : Env' → Option (List D)} {apos cpos : Pos} (ho : PE X o (rdE X.K fo)) (ha : PA X (e :: es) (rdA X.K fs)) (hbase : attributeBase o m.name X.env (eval o X.env) = eval o X.env)
    (hst : (e :: es).all notStar = true) (hfew : (e :: es).length < 30) (hline : (apos.endLine == cpos.line) = true) : PE X (.Call (.Attribute o m.name apos) (e :: es) [] cpos) (rdE X.K (apM m fo fs)) := by
  have h1 : notStar e = true ∧ es.all notStar = true := by
    rw [List.all_cons, Bool.and_eq_true] at hst
    exact hst
  have few : ((backTo cpos (starEach (e :: es) X.env)).all (fun x => !x.1) && (backToKw cpos (keywordEach [] X.env)).all (fun x => x.1.isSome) && decide ((e :: es).length + ([] : List Keyword).length + (if ([] : List Keyword).isEmpty then 0 else 1) < 30)) = true := by
    have b1 := back_plain (pos := cpos) (env := X.env) hst
    rw [Bool.and_eq_true, Bool.and_eq_true]
    refine ⟨⟨?_, rfl⟩, ?_⟩
    · rw [List.all_eq_true]
      intro x hx
      have := List.any_eq_false.mp b1 x hx
      simpa using this
    · exact decide_eq_true (by simpa using hfew)
  refine pe_imp (t := tBM X.K "str" (rDM X.K m) (rdE X.K fo) (rdA X.K fs)) ?_ rd_mth
  cases m with
  | index => exact pe_bm PySem.F.plainAttrs_str PySem.F.slot_str_index PySem.F.type_str_index mt_okI ho ha hbase few hline (star_cons h1.1) (back_plain h1.2)
  | find => exact pe_bm PySem.F.plainAttrs_str PySem.F.slot_str_find PySem.F.type_str_find mt_okF ho ha hbase few hline (star_cons h1.1) (back_plain h1.2)
  | partition => exact pe_bm PySem.F.plainAttrs_str PySem.F.slot_str_partition PySem.F.type_str_partition mt_okP ho ha hbase few hline (star_cons h1.1) (back_plain h1.2)
  | join => exact pe_bm PySem.F.plainAttrs_str PySem.F.slot_str_join PySem.F.type_str_join mt_okJ ho ha hbase few hline (star_cons h1.1) (back_plain h1.2)
/-- x.split(sep): a new list -/
def splO : D → D → Option (List D)
  | .str a, .str b => if (b.length == 0) = false ∧ a.length + 2 ≤ lineN then some ((Txt.split a b).map .str) else none
  | _, _ => none
theorem vp_split {o : Expr} {fo fe : Env' → Option D} {apos cpos : Pos} (ho : PE X o (rdE X.K fo)) (ha : PE X e (rdE X.K fe)) (hbase : attributeBase o "split" X.env (eval o X.env) = eval o X.env) (hst : notStar e = true) (hline : (apos.endLine == cpos.line) = true) :
    PE X (.Call (.Attribute o "split" apos) [e] [] cpos) (rdO X.K (ap2o splO fo fe)) := by
  refine pe_imp (pe_bm PySem.F.plainAttrs_str PySem.F.slot_str_split PySem.F.type_str_split mt_split ho (pa_cons ha pa_nil (star_cons hst)) hbase (by rw [star_cons hst]; rfl) hline (star_cons hst) rfl) ?_
  rintro σ H Q ⟨L, A, E, d, er, h, k⟩
  obtain ⟨x, hx, h⟩ := Option.bind_eq_some_iff.mp h
  obtain ⟨y, hy, h⟩ := Option.bind_eq_some_iff.mp h
  refine ⟨L, A, E, x, er, hx, fun v H1 s1 r1 => ?_⟩
  cases x with
  | str a =>
    cases y with
    | str b =>
      obtain ⟨⟨h1, h2⟩, rfl⟩ := if_some h
      cases r1
      refine ⟨rfl, L, A, E, .str b, er.mono s1, hy, fun w H2 s2 r2 => ?_⟩
      cases r2
      refine ⟨a, b, rfl, rfl, h1, le_line h2, fun p hp => ?_⟩
      exact ((k.mono s1).mono s2).now (RepA.of_strs _) hp
    | _ => cases h
  | _ => cases h
/-! ### f-strings -/
def fmtD : D → Option D
  | .str y => if y.length ≤ lineN then some (.str y) else none
  | .int i => if i.natAbs.log2 < 1920 then some (.str (toString i)) else none
  | _ => none
theorem vp_fmt (he : PE X e (rdE X.K fa)) : PE X (.FormattedValue e (-1) none pos) (rdE X.K fun E => (fa E).bind fmtD) := by
  refine pe_imp (pe_fmt he) ?_
  rintro σ H Q ⟨L, A, E, d, er, h, k⟩
  obtain ⟨x, hx, h⟩ := Option.bind_eq_some_iff.mp h
  refine ⟨L, A, E, x, er, hx, fun v H1 s1 r1 => ?_⟩
  cases x with
  | str y =>
    obtain ⟨h1, rfl⟩ := if_some h
    cases r1
    exact .inl ⟨y, rfl, le_line h1, (k.mono s1).now (.str _)⟩
  | int i =>
    obtain ⟨h1, rfl⟩ := if_some h
    cases r1
    exact .inr ⟨i, rfl, h1, (k.mono s1).now (.str _)⟩
  | _ => cases h
def jsE : List (Env' → Option D) → Str → Env' → Option Str
  | [], acc, _ => some acc
  | f :: fs, acc, E => (f E).bind fun
    | .str y => if (acc ++ y).length ≤ lineN then jsE fs (acc ++ y) E else none
    | _ => none
theorem rd_js : ∀ (fs : List (Env' → Option D)) (acc : Str) (L A : List Addr) (E : Env') (σ : L2.St) (H : Hp) (out : Str) (Q : Str → Hp → Prop), ER X.K L A σ H E → jsE fs acc E = some out → (∀ H', Same H H' → Q out H') → tJs (fs.map (rdE X.K)) acc σ H Q
  | [], acc, L, A, E, σ, H, out, Q, er, h, k => by
    cases h
    exact k H (Same.refl H)
  | f :: fs, acc, L, A, E, σ, H, out, Q, er, h, k => by
    simp only [jsE] at h
    obtain ⟨x, hx, h⟩ := Option.bind_eq_some_iff.mp h
    refine ⟨L, A, E, x, er, hx, fun v H1 s1 r1 => ?_⟩
    cases x with
    | str y =>
      simp only at h
      split at h
      · rename_i hl
        cases r1
        exact ⟨y, rfl, le_line hl, rd_js fs (acc ++ y) L A E σ H1 out Q (er.mono s1) h fun H' s' => k H' (s1.trans s')⟩
      · cases h
    | _ => cases h
theorem vp_fst {v1 v2 : Expr} {rest : List Expr} {fs : List (Env' → Option D)} (h : PJ X (v1 :: v2 :: rest) (fs.map (rdE X.K))) : PE X (.JoinedStr (v1 :: v2 :: rest) pos) (rdE X.K fun E => (jsE fs Str.empty E).map .str) := by
  refine pe_imp (pe_joined h) ?_
  rintro σ H Q ⟨L, A, E, d, er, h, k⟩
  obtain ⟨out, h1, rfl⟩ := Option.map_eq_some_iff.mp h
  exact rd_js fs Str.empty L A E σ H out _ er h1 fun H' s' => k _ H' s' (.str _)
/-! ### list(range | reversed | zip) -/
def rgB (a b : Int) : Bool := decide (-4611686018427387904 ≤ a) && (decide (a < 4611686018427387904) && (decide (-4611686018427387904 ≤ b) && (decide (b < 4611686018427387904) && decide ((b - a).toNat ≤ 16777216))))
theorem rgB_ok {a b : Int} (h : rgB a b = true) : RgOk a b := by
  unfold rgB at h
  simp only [Bool.and_eq_true, decide_eq_true_eq] at h
  exact ⟨by omega, by omega, by omega, by omega, by omega⟩
def rgD (a b : Int) : List D := (List.range (b - a).toNat).map fun i => .int (a + (i : Nat))
def rng1D : D → Option (List D)
  | .int j => if rgB 0 j = true then some (rgD 0 j) else none
  | _ => none
def rng2D : D → D → Option (List D)
  | .int i, .int j => if rgB i j = true then some (rgD i j) else none
  | _, _ => none
def zipD (a b : D) : Option (List D) := (lisOf a).bind fun xs => (lisOf b).map fun ys => (xs.zip ys).map fun p => .tup [p.1, p.2]
theorem rgD_rep {K : PySem.W.Frag} {H : Hp} {a b : Int} : RepA K H (rgV a b) (rgD a b) := by
  unfold rgV rgD
  have key : ∀ ns : List Nat, RepA K H (ns.map fun i => V.int (a + (i : Nat))) (ns.map fun i => D.int (a + (i : Nat))) := by
    intro ns
    induction ns with
    | nil => exact .nil
    | cons n r ih => exact .cons (.int _) ih
  exact key _
theorem zip_rep {K : PySem.W.Frag} {H H' : Hp} {A : List Addr} {p : Addr} (s : Same H H') (hp : H p = none) : ∀ {xs ys : List V} {ds es : List D} {ts : List Addr}, RepA K (mask A H) xs ds → RepA K (mask A H) ys es → (∀ t ∈ ts, t ∉ A ∧ t ≠ p) →
    Paired (fun (t : Addr) (q : V × V) => H' t = some (.tup [q.1, q.2])) ts (xs.zip ys) → RepA K (mask (p :: A) H') (ts.map V.ref) ((ds.zip es).map fun q => .tup [q.1, q.2])
  | [], ys, ds, es, ts, r, q, hA, h => by
    cases r
    cases h
    exact .nil
  | x :: xs, [], ds, es, ts, r, q, hA, h => by
    cases r with
    | cons r1 r2 =>
      cases q
      cases h
      exact .nil
  | x :: xs, y :: ys, ds, es, ts, r, q, hA, h => by
    cases r with
    | cons r1 r2 =>
      cases q with
      | cons q1 q2 =>
        cases h with
        | cons h1 h2 =>
          have m := mask_new (A := A) s hp
          refine .cons (.tup (.inl (.inl (mask_some.mpr ⟨?_, h1⟩))) (.cons (r1.mono m) (.cons (q1.mono m) .nil))) (zip_rep s hp r2 q2 (fun t ht => hA t (List.mem_cons_of_mem _ ht)) h2)
          obtain ⟨a1, a2⟩ := hA _ List.mem_cons_self
          simp only [List.mem_cons, not_or]
          exact ⟨a2, a1⟩
variable {p p2 pos2 : Pos}
theorem vp_lrng1 (hc : X.calm = true) (hg : Gl X "list") (hm : X.mg "list" = none) (hg2 : Gl X "range") (hm2 : X.mg "range" = none) (ha : PE X a (rdE X.K fa)) (hst : notStar a = true) : PE X (.Call (.Name "list" p) [.Call (.Name "range" p2) [a] [] pos2] [] pos) (rdO X.K fun E => (fa E).bind rng1D) := by
  refine pe_imp (pe_listRg hc hg hm (prg_1 hg2 hm2 ha (star_cons hst))) ?_
  rintro σ H Q ⟨L, A, E, d, er, h, k⟩
  obtain ⟨x, hx, h⟩ := Option.bind_eq_some_iff.mp h
  refine ⟨L, A, E, x, er, hx, fun v H1 s1 r1 => ?_⟩
  cases x with
  | int j =>
    obtain ⟨h1, rfl⟩ := if_some h
    cases r1
    exact ⟨j, rfl, rgB_ok h1, fun q hq => (k.mono s1).now rgD_rep hq⟩
  | _ => cases h
theorem vp_lrng2 (hc : X.calm = true) (hg : Gl X "list") (hm : X.mg "list" = none) (hg2 : Gl X "range") (hm2 : X.mg "range" = none) (ha : PE X a (rdE X.K fa)) (hb : PE X b (rdE X.K fb)) (hst : notStar a = true) (hst2 : notStar b = true) :
    PE X (.Call (.Name "list" p) [.Call (.Name "range" p2) [a, b] [] pos2] [] pos) (rdO X.K (ap2o rng2D fa fb)) := by
  refine pe_imp (pe_listRg hc hg hm (prg_2 hg2 hm2 ha hb (star_cons hst) (star_cons hst2) (by rw [star_cons hst2]; rfl))) ?_
  rintro σ H Q ⟨L, A, E, d, er, h, k⟩
  obtain ⟨x, hx, h⟩ := Option.bind_eq_some_iff.mp h
  obtain ⟨y, hy, h⟩ := Option.bind_eq_some_iff.mp h
  refine ⟨L, A, E, x, er, hx, fun v H1 s1 r1 => ⟨L, A, E, y, er.mono s1, hy, fun w H2 s2 r2 => ?_⟩⟩
  cases x with
  | int i =>
    cases y with
    | int j =>
      obtain ⟨h1, rfl⟩ := if_some h
      cases r1
      cases r2
      exact ⟨i, j, rfl, rfl, rgB_ok h1, fun q hq => ((k.mono s1).mono s2).now rgD_rep hq⟩
    | _ => cases h
  | _ => cases h
theorem vp_lrev (hc : X.calm = true) (hg : Gl X "list") (hm : X.mg "list" = none) (hg2 : Gl X "reversed") (hm2 : X.mg "reversed" = none) (ha : PE X a (rdE X.K fa)) (hst : notStar a = true) : PE X (.Call (.Name "list" p) [.Call (.Name "reversed" p2) [a] [] pos2] [] pos) (rdO X.K fun E => ((fa E).bind lisOf).map List.reverse) := by
  refine pe_imp (VpL.pe_lstRev hc hg hm hg2 hm2 ha (star_cons hst)) ?_
  rintro σ H Q ⟨L, A, E, d, er, h, k⟩
  obtain ⟨ds, h1, rfl⟩ := Option.map_eq_some_iff.mp h
  obtain ⟨x, hx, h1⟩ := Option.bind_eq_some_iff.mp h1
  refine ⟨L, A, E, x, er, hx, fun v H1 s1 r1 => ?_⟩
  obtain ⟨q, vs, rfl, h3, h4⟩ := lis_rep r1 h1
  exact ⟨q, vs, rfl, h3, fun q hq => (k.mono s1).now h4.reverse hq⟩
theorem vp_lzip (hc : X.calm = true) (hg : Gl X "list") (hm : X.mg "list" = none) (hg2 : Gl X "zip") (hm2 : X.mg "zip" = none) (ha : PE X a (rdE X.K fa)) (hb : PE X b (rdE X.K fb)) (hst : notStar a = true) (hst2 : notStar b = true) :
    PE X (.Call (.Name "list" p) [.Call (.Name "zip" p2) [a, b] [] pos2] [] pos) (rdO X.K (ap2o zipD fa fb)) := by
  refine pe_imp (VpL.pe_lstZip hc hg hm hg2 hm2 (pa_cons ha (pa_cons hb pa_nil (star_cons hst2)) (star_cons hst)) (star_cons hst) (by rw [star_cons hst2]; rfl)) ?_
  rintro σ H Q ⟨L, A, E, d, er, h, k⟩
  obtain ⟨x, hx, h⟩ := Option.bind_eq_some_iff.mp h
  obtain ⟨y, hy, h⟩ := Option.bind_eq_some_iff.mp h
  obtain ⟨ds, h1, h⟩ := Option.bind_eq_some_iff.mp h
  obtain ⟨es, h2, rfl⟩ := Option.map_eq_some_iff.mp h
  refine ⟨L, A, E, x, er, hx, fun v H1 s1 r1 => ⟨L, A, E, y, er.mono s1, hy, fun w H2 s2 r2 => ?_⟩⟩
  obtain ⟨q, vs, rfl, h3, h4⟩ := lis_rep (r1.mono (mask_same s2)) h1
  obtain ⟨q2, ws, rfl, h5, h6⟩ := lis_rep r2 h2
  refine ⟨q, q2, vs, ws, rfl, h3, h5, fun H3 p3 ts s3 hp hts hpt hl hP => ?_⟩
  have hd := ((er.mono s1).mono s2).dom
  exact (k.mono s1).mono s2 p3 _ H3 s3 hp hl (zip_rep s3 hp h4 h6 (fun t ht => ⟨fun z => hd t z (hts t ht), fun z => hpt (z ▸ ht)⟩) hP)
/-! ### a module's dict of text keys -/
structure KDs (K : PySem.W.Frag) (w : World) (p : Addr) (es : List (Str × D)) : Prop where
  ex : ∃ ents n, K.lookup p = some ⟨.type "dict", none, .dict ents n, #[]⟩ ∧ PySem.W.KeysLit w.params ents.toList
  sys : (p == sysModules) = false
  hit : ∀ z d, es.lookup z = some d → ∃ v u, PySem.W.nsIn K p z = some (some u) ∧ RelV v u ∧ ∀ H, Rep K H v d
  mis : ∀ z, es.lookup z = none → PySem.W.nsIn K p z = some none
theorem op_inK : OpR X (compareOp .In) (fun x y H Q => ∃ z p es, x = .str z ∧ y = .ref p ∧ KDs X.K X.w p es ∧ Q (.bl (es.lookup z).isSome) H) := by
  intro pins s σ H x y v u Q I rx ry h
  obtain ⟨z, p, es, rfl, rfl, kd, q⟩ := h
  obtain ⟨t, rfl⟩ := rx
  obtain rfl : u = Value.ref p := ry
  obtain ⟨ents, n, hl, hk⟩ := kd.ex
  have hm := PySem.W.mapOf_K (prog := X.prog) (w := X.w) I.kIn hl hk
  refine wpAny_in_of (strKind_is X.prog X.w z t) kd.sys hm ?_
  cases hz : es.lookup z with
  | some d =>
    obtain ⟨v', u', e1, _, _⟩ := kd.hit z d hz
    rw [PySem.W.find_K hl e1]
    rw [hz] at q
    exact ⟨.bl true, H, I.tok _, rfl, q⟩
  | none =>
    rw [PySem.W.find_K hl (kd.mis z hz)]
    rw [hz] at q
    exact ⟨.bl false, H, I.tok _, rfl, q⟩
def ginD (es : List (Str × D)) : D → Option D
  | .str z => some (.bl (es.lookup z).isSome)
  | _ => none
def gixD (es : List (Str × D)) : D → Option D
  | .str z => es.lookup z
  | _ => none
theorem vp_gin {x : Str} {p1 : Pos} {pa : Addr} {es : List (Str × D)} (hg : Gl X x) (hm : X.mg x = some (.ref pa)) (hdb : (x == ("__debug__" : Str)) = false) (kd : KDs X.K X.w pa es) (ha : PE X a (rdE X.K fa)) : PE X (.Compare a [.In] [.Name x p1] pos) (rdE X.K fun E => (fa E).bind (ginD es)) := by
  refine pe_imp (pe_cmpR op_inK ha (pe_glob (v := .ref pa) hg hm rfl hdb) rfl) ?_
  rintro σ H Q ⟨L, A, E, d, er, h, k⟩
  obtain ⟨x, hx, h⟩ := Option.bind_eq_some_iff.mp h
  refine ⟨L, A, E, x, er, hx, fun v H1 s1 r1 => ?_⟩
  cases x with
  | str z =>
    cases h
    cases r1
    exact ⟨z, pa, es, rfl, rfl, kd, (k.mono s1).now (.bl _)⟩
  | _ => cases h
theorem vt_gin {x : Str} {p1 : Pos} {pa : Addr} {es : List (Str × D)} (hg : Gl X x) (hm : X.mg x = some (.ref pa)) (hdb : (x == ("__debug__" : Str)) = false) (kd : KDs X.K X.w pa es) (ha : PE X a (rdE X.K fa)) : PT X (.Compare a [.In] [.Name x p1] pos) (rdT X.K fun E => ((fa E).bind (ginD es)).bind toB) := by
  refine pt_imp (pt_cmpR op_inK ha (pe_glob (v := .ref pa) hg hm rfl hdb) rfl) ?_
  rintro σ H Q ⟨L, A, E, d, er, h, k⟩
  obtain ⟨y, hy, h⟩ := Option.bind_eq_some_iff.mp h
  obtain ⟨x, hx, hy⟩ := Option.bind_eq_some_iff.mp hy
  refine ⟨L, A, E, x, er, hx, fun v H1 s1 r1 => ?_⟩
  cases x with
  | str z =>
    cases hy
    cases h
    cases r1
    exact ⟨z, pa, es, rfl, rfl, kd, _, rfl, k H1 s1⟩
  | _ => cases hy
theorem vp_gix {x : Str} {p1 : Pos} {pa : Addr} {es : List (Str × D)} (hg : Gl X x) (hm : X.mg x = some (.ref pa)) (hdb : (x == ("__debug__" : Str)) = false) (kd : KDs X.K X.w pa es) (ha : PE X a (rdE X.K fa)) (hs : PlainIx a) : PE X (.Subscript (.Name x p1) a pos) (rdE X.K fun E => (fa E).bind (gixD es)) := by
  refine pe_imp (pe_ix ix_kdict (pe_glob (v := .ref pa) hg hm rfl hdb) ha hs) ?_
  rintro σ H Q ⟨L, A, E, d, er, h, k⟩
  obtain ⟨x, hx, h⟩ := Option.bind_eq_some_iff.mp h
  refine ⟨L, A, E, x, er, hx, fun v H1 s1 r1 => ?_⟩
  cases x with
  | str z =>
    cases r1
    obtain ⟨v', u', e1, e2, e3⟩ := kd.hit z d h
    obtain ⟨ents, n, hl, hk⟩ := kd.ex
    exact ⟨pa, z, v', rfl, rfl, ⟨ents, n, u', hl, hk, e1, e2⟩, (k.mono s1).now (e3 _)⟩
  | _ => cases h
end
end Vp

end

section
set_option Elab.async false
set_option linter.all false
set_option autoImplicit false
set_option maxRecDepth 100000
/-! Vp5: expressions as a small tree, their value on data, the check against the text, and that the check is enough. -/
namespace Vp
open PySem PySem.Spec PyProof.Rows L2

mutual
inductive Ex where
  | non | bl (b : Bool) | int (i : Int) | str (s : Str)
  | glo (n : Nat)
  | loc (i : Nat)
  | bin (o : BOp) (a b : Ex)
  | neg (a : Ex)
  | nott (a : Ex)
  | bool (o : BoolOp) (xs : Exs)
  | cmp (o : CmpOp) (a b : Ex)
  | chain (o o' : CmpOp) (a b c : Ex)
  | ife (t a b : Ex)
  | tup (xs : Exs)
  | sub (a i : Ex)
  | subO (n : Nat) (i : Ex)
  | lenO (n : Nat)
  | inO (neg : Bool) (n : Nat) (a : Ex)
  | sl (a : Ex) (lo hi : Opt)
  | call (f : Nat) (xs : Exs)
  | bf (b : BF) (xs : Exs)
  | gcd (xs : Exs)
  | isi (T : TyN) (a : Ex)
  | bits (a : Ex)
  | lis (l : Lx)
  | dic (ps : Prs)
  | mth (m : Mt) (a : Ex) (xs : Exs)
  | fst (xs : Exs)
  | gin (n : Nat) (a : Ex)
  | gix (n : Nat) (a : Ex)
inductive Prs where
  | nil | cons (k v : Ex) (r : Prs)
inductive Exs where
  | nil | cons (a : Ex) (r : Exs)
inductive Opt where
  | no | yes (a : Ex)
inductive Lx where
  | lst (xs : Exs)
  | bin (o : BOp) (a b : Ex)
  | sl (a : Ex) (lo hi : Opt)
  | rev (a : Ex)
  | bo (b : BO) (xs : Exs)
  | comp (own : List Nat) (t : Tg) (elt : Ex) (c : Opt) (it : Ix)
  | rg1 (a : Ex)
  | rg2 (a b : Ex)
  | rvl (a : Ex)
  | zpl (a b : Ex)
  | spl (a b : Ex)
  | call (f : Nat) (xs : Exs)
inductive Ix where
  | ex (a : Ex)
  | fn (f : IFn) (xs : Exs)
end

def negD : D → Option D
  | .int i => some (.int (-i))
  | _ => none
def chainD (o o' : CmpOp) (fa fb fc : Env' → Option D) (E : Env') : Option D :=
  (fa E).bind fun x => (fb E).bind fun y => (cmpD o x y).bind fun c => if c = true then (fc E).bind fun z => blD (cmpD o' y z) else some (.bl false)

/-- a module's dict of text keys, as the constants tell it -/
def textK : List (Key × D) → List (Str × D)
  | [] => []
  | (.inr z, d) :: r => (z, d) :: textK r
  | (.inl _, _) :: r => textK r
def ginG (g x : D) : Option D := match g with
  | .dic kd => ginD (textK kd) x
  | _ => none
def gixG (g x : D) : Option D := match g with
  | .dic kd => gixD (textK kd) x
  | _ => none
/-- the numbers of defs that give new lists -/
def ownN : Nat := 1000000
def lstOf : D → Option (List D)
  | .lst ds => some ds
  | _ => none
section
variable (cf : Nat → List D → Option D) (gl : Nat → Option D)
mutual
def ev : Ex → Env' → Option D
  | .non => fun _ => some .non
  | .bl b => fun _ => some (.bl b)
  | .int i => fun _ => some (.int i)
  | .str s => fun _ => some (.str s)
  | .glo n => fun _ => gl n
  | .loc i => look i
  | .bin o a b => ap2 (binD o) (ev a) (ev b)
  | .neg a => ap1 negD (ev a)
  | .nott a => notV (ev a)
  | .bool o xs => evB o xs
  | .cmp o a b => ap2 (fun x y => blD (cmpD o x y)) (ev a) (ev b)
  | .chain o o' a b c => chainD o o' (ev a) (ev b) (ev c)
  | .ife t a b => ifV (tev t) (ev a) (ev b)
  | .tup xs => fun E => ((evs xs E).bind short).map .tup
  | .sub a i => ap2 ixD (ev a) (ev i)
  | .subO n i => ixOwn n (ev i)
  | .lenO n => lenOwn n
  | .inO neg n a => inOwn neg n (ev a)
  | .sl a lo hi => ap3 slD (ev a) (partD (evP lo)) (partD (evP hi))
  | .call f xs => apA (cf f) (evs xs)
  | .bf b xs => apA (bfD b) (evs xs)
  | .gcd xs => apA gcdD (evs xs)
  | .isi T a => isiD T (ev a)
  | .bits a => bitsD (ev a)
  | .lis l => fun E => (evL l E).map .lst
  | .dic ps => dicD (evKs ps) (evVs ps)
  | .mth m a xs => apM m (ev a) (evs xs)
  | .fst xs => fun E => (jsE (evFs xs) Str.empty E).map .str
  | .gin n a => fun E => (ev a E).bind fun x => (gl n).bind fun g => ginG g x
  | .gix n a => fun E => (ev a E).bind fun x => (gl n).bind fun g => gixG g x
def evFs : Exs → List (Env' → Option D)
  | .nil => []
  | .cons a r => (fun E => (ev a E).bind fmtD) :: evFs r
def evKs : Prs → List (Env' → Option D)
  | .nil => []
  | .cons k _ r => ev k :: evKs r
def evVs : Prs → List (Env' → Option D)
  | .nil => []
  | .cons _ v r => ev v :: evVs r
/-- and, or of truth values -/
def evB (o : BoolOp) : Exs → Env' → Option D
  | .nil => fun _ => none
  | .cons a r => match r with
    | .nil => ev a
    | .cons _ _ => match o with
      | .And => andV (ev a) (evB o r)
      | .Or => orV (ev a) (evB o r)
def evs : Exs → Env' → Option (List D)
  | .nil => fun _ => some []
  | .cons a r => consA (ev a) (evs r)
def evP : Opt → Option (Env' → Option D)
  | .no => none
  | .yes a => some (ev a)
def evC : Opt → Env' → Option Bool
  | .no => fun _ => some true
  | .yes a => tev a
def evL : Lx → Env' → Option (List D)
  | .lst xs => fun E => (evs xs E).bind short
  | .bin o a b => ap2o (binO o) (ev a) (ev b)
  | .sl a lo hi => ap3 slO (ev a) (partD (evP lo)) (partD (evP hi))
  | .rev a => revD (ev a)
  | .bo b xs => apA (bfO b) (evs xs)
  | .comp own t elt c it => compD own t (evC c) (ev elt) (evI it)
  | .rg1 a => fun E => (ev a E).bind rng1D
  | .rg2 a b => ap2o rng2D (ev a) (ev b)
  | .rvl a => fun E => ((ev a E).bind lisOf).map List.reverse
  | .zpl a b => ap2o zipD (ev a) (ev b)
  | .spl a b => ap2o splO (ev a) (ev b)
  | .call f xs => apA (fun ds => (cf (f + ownN) ds).bind lstOf) (evs xs)
def evI : Ix → Env' → Option (List D)
  | .ex a => fun E => (ev a E).bind itemsD
  | .fn f xs => apA (ifD f) (evs xs)
/-- as a test -/
def tev : Ex → Env' → Option Bool
  | .nott a => notB (tev a)
  | .bool o xs => tevB o xs
  | .cmp o a b => fun E => (ap2 (fun x y => blD (cmpD o x y)) (ev a) (ev b) E).bind toB
  | .chain o o' a b c => fun E => (chainD o o' (ev a) (ev b) (ev c) E).bind toB
  | .non => fun _ => some false
  | .bl b => fun _ => some b
  | .int i => fun _ => some (i != 0)
  | .str s => fun _ => truD (.str s)
  | .glo n => fun _ => (gl n).bind truD
  | .loc i => fun E => (look i E).bind truD
  | .bin o a b => fun E => (ap2 (binD o) (ev a) (ev b) E).bind truD
  | .neg a => fun E => (ap1 negD (ev a) E).bind truD
  | .ife _ _ _ => fun _ => none
  | .tup xs => fun E => (((evs xs E).bind short).map D.tup).bind truD
  | .sub a i => fun E => (ap2 ixD (ev a) (ev i) E).bind truD
  | .subO n i => fun E => (ixOwn n (ev i) E).bind truD
  | .lenO n => fun E => (lenOwn n E).bind truD
  | .inO neg n a => fun E => (inOwn neg n (ev a) E).bind toB
  | .sl a lo hi => fun E => (ap3 slD (ev a) (partD (evP lo)) (partD (evP hi)) E).bind truD
  | .call f xs => fun E => (apA (cf f) (evs xs) E).bind truD
  | .bf b xs => fun E => (apA (bfD b) (evs xs) E).bind truD
  | .gcd xs => fun E => (apA gcdD (evs xs) E).bind truD
  | .isi T a => fun E => (isiD T (ev a) E).bind truD
  | .bits a => fun E => (bitsD (ev a) E).bind truD
  | .lis l => fun E => ((evL l E).map D.lst).bind truD
  | .dic ps => fun E => (dicD (evKs ps) (evVs ps) E).bind truD
  | .mth m a xs => fun E => (apM m (ev a) (evs xs) E).bind truD
  | .fst xs => fun E => ((jsE (evFs xs) Str.empty E).map D.str).bind truD
  | .gin n a => fun E => ((ev a E).bind fun x => (gl n).bind fun g => ginG g x).bind toB
  | .gix n a => fun E => ((ev a E).bind fun x => (gl n).bind fun g => gixG g x).bind truD
def tevB (o : BoolOp) : Exs → Env' → Option Bool
  | .nil => fun _ => none
  | .cons a r => match r with
    | .nil => tev a
    | .cons _ _ => match o with
      | .And => andB (tev a) (tevB o r)
      | .Or => orB (tev a) (tevB o r)
end
end

/-! ### the check against the text -/
structure Ctx where
  N : List Str
  sc : Scope
  fn : Str → Bool
  fns : List (Nat × Str)
  gls : List (Nat × Str)
  frees : List Str
  gcd : Bool
  gds : List (Nat × Str)
def Ctx.blk (S : Ctx) (scope : Scope) : Ctx := { S with sc := relS scope S.sc, fn := fun x => scope.names.lookup x == some .cell }
def visB (S : Ctx) (x : Str) : Bool := match S.sc.names.lookup x with
  | some .local => true
  | some .cell => true
  | some .free => true
  | _ => false
def locB (S : Ctx) (x : Str) : Bool := match S.sc.names.lookup x with
  | some .local => true
  | some .cell => S.fn x
  | _ => false
def glB (S : Ctx) (x : Str) : Bool := (S.sc.names.lookup x == some .globalImplicit) && !(x == ("__debug__" : Str))
def nmB (S : Ctx) (i : Nat) (x : Str) : Bool := decide (S.N[i]? = some x) && (visB S x && (!(x == ("__debug__" : Str)) && !(x == ("__classdict__" : Str))))
def freeB (S : Ctx) (x : Str) : Bool := glB S x && decide (x ∈ S.frees)
def notCall0 : Expr → Bool
  | .Call _ [] [] _ => false
  | _ => true
def plainB : Expr → Bool
  | .Slice _ _ _ _ => false
  | _ => true
def ownP (S : Ctx) (own : List Nat) : List (Str × Nat) := own.filterMap fun i => (S.N[i]?).map fun x => (x, i)
def ownB (S : Ctx) (scope : Scope) (own : List Nat) : Bool := decide ((ownP S own).map (·.2) = own) && blkC S.N S.sc scope (ownP S own)
mutual
def tgB : Tg → Ctx → Expr → Bool
  | .nm i, S, e => match e with
    | .Name x _ => decide (S.N[i]? = some x) && locB S x
    | _ => false
  | .tp ts, S, e => match e with
    | .Tuple es _ _ => tgsB ts S es
    | _ => false
def tgsB : List Tg → Ctx → List Expr → Bool
  | [], _, es => match es with
    | [] => true
    | _ :: _ => false
  | t :: ts, S, es => match es with
    | e :: es => tgB t S e && (notStar e && tgsB ts S es)
    | [] => false
end
def isName (x : Str) : Expr → Bool
  | .Name y _ => decide (y = x)
  | _ => false
def nonB (e : Expr) : Bool := match e with
  | .Constant .none _ _ => true
  | _ => false
def blB (b : Bool) (e : Expr) : Bool := match e with
  | .Constant (.bool c) _ _ => b == c
  | _ => false
def intB (i : Int) (e : Expr) : Bool := match e with
  | .Constant (.int j) _ _ => decide (i = j)
  | _ => false
def strB (x : Str) (e : Expr) : Bool := match e with
  | .Constant (.str y) _ _ => decide (x = y)
  | _ => false
def gloB (n : Nat) (S : Ctx) (e : Expr) : Bool := match e with
  | .Name x _ => glB S x && decide (S.gls.lookup n = some x)
  | _ => false
def nmE (i : Nat) (S : Ctx) (e : Expr) : Bool := match e with
  | .Name x _ => nmB S i x
  | _ => false
def gdB (n : Nat) (S : Ctx) (x : Str) : Bool := glB S x && decide (S.gds.lookup n = some x)
def lenOB (n : Nat) (S : Ctx) (e : Expr) : Bool := match e with
  | .Call (.Name f _) [.Name x _] [] _ => decide (f = "len") && (freeB S "len" && nmB S n x)
  | _ => false
mutual
def chE : Ex → Ctx → Expr → Bool
  | .non, _, e => nonB e
  | .bl b, _, e => blB b e
  | .int i, _, e => intB i e
  | .str x, _, e => strB x e
  | .glo n, S, e => gloB n S e
  | .loc i, S, e => nmE i S e
  | .bin o a b, S, e => match e with
    | .BinOp l op r _ => decide (op = o.op) && (chE a S l && chE b S r)
    | _ => false
  | .neg a, S, e => match e with
    | .UnaryOp .USub l _ => chE a S l
    | _ => false
  | .nott a, S, e => match e with
    | .UnaryOp .Not l _ => chE a S l
    | _ => false
  | .bool o xs, S, e => match e with
    | .BoolOp op es _ => decide (op = o) && chB xs S es
    | _ => false
  | .cmp o a b, S, e => match e with
    | .Compare l [op] [r] _ => decide (op = o) && (chE a S l && (chE b S r && !isSet r))
    | _ => false
  | .chain o o' a b c, S, e => match e with
    | .Compare l [op, op'] [m, r] _ => decide (op = o) && (decide (op' = o') && (chE a S l && (chE b S m && (chE c S r && !isSet r))))
    | _ => false
  | .ife t a b, S, e => match e with
    | .IfExp c l r _ => chT t S c && (chE a S l && chE b S r)
    | _ => false
  | .tup xs, S, e => match e with
    | .Tuple es _ _ => chA xs S es
    | _ => false
  | .sub a i, S, e => match e with
    | .Subscript l r _ => chE a S l && (chE i S r && plainB r)
    | _ => false
  | .subO n i, S, e => match e with
    | .Subscript (.Name x _) r _ => nmB S n x && (chE i S r && plainB r)
    | _ => false
  | .lenO n, S, e => lenOB n S e
  | .inO neg n a, S, e => match e with
    | .Compare l [op] [.Name x _] _ => decide (op = if neg = true then .NotIn else .In) && (chE a S l && nmB S n x)
    | _ => false
  | .sl a lo hi, S, e => match e with
    | .Subscript l (.Slice l1 l2 none _) _ => chE a S l && (chP lo S l1 && chP hi S l2)
    | _ => false
  | .call f xs, S, e => match e with
    | .Call (.Name x _) es [] _ => decide (S.fns.lookup f = some x) && (glB S x && chA xs S es)
    | _ => false
  | .bf b xs, S, e => match e with
    | .Call (.Name x _) (e1 :: es) [] _ => decide (x = b.name) && (freeB S b.name && chA xs S (e1 :: es))
    | _ => false
  | .gcd xs, S, e => match e with
    | .Call (.Name x _) (e1 :: es) [] _ => decide (x = "gcd") && (S.gcd && (glB S "gcd" && chA xs S (e1 :: es)))
    | _ => false
  | .isi T a, S, e => match e with
    | .Call (.Name x _) [e1, .Name y _] [] _ => decide (x = "isinstance") && (freeB S "isinstance" && (decide (y = T.n) && (freeB S T.n && (chE a S e1 && notStar e1))))
    | _ => false
  | .bits a, S, e => match e with
    | .Call (.Attribute o m apos) [] [] pos => decide (m = "bit_length") && (chE a S o && (notCall0 o && (apos.endLine == pos.line)))
    | _ => false
  | .lis l, S, e => chL l S e
  | .dic ps, S, e => match e with
    | .Dict keys values _ => chPs ps S keys values && (!keys.isEmpty && decide (keys.length ≤ 15))
    | _ => false
  | .mth m a xs, S, e => match e with
    | .Call (.Attribute o x apos) (e1 :: es) [] cpos => decide (x = m.name) && (chE a S o && (notCall0 o && ((apos.endLine == cpos.line) && (decide ((e1 :: es).length < 30) && chA xs S (e1 :: es)))))
    | _ => false
  | .fst xs, S, e => match e with
    | .JoinedStr (v1 :: v2 :: rest) _ => chF xs S (v1 :: v2 :: rest)
    | _ => false
  | .gin n a, S, e => match e with
    | .Compare l [op] [.Name x _] _ => decide (op = .In) && (chE a S l && gdB n S x)
    | _ => false
  | .gix n a, S, e => match e with
    | .Subscript (.Name x _) r _ => gdB n S x && (chE a S r && plainB r)
    | _ => false
def chF : Exs → Ctx → List Expr → Bool
  | .nil, _, es => match es with
    | [] => true
    | _ :: _ => false
  | .cons a r, S, es => match es with
    | .FormattedValue e i none _ :: es => decide (i = -1) && (chE a S e && chF r S es)
    | .Constant (.str y) j p :: es => chE a S (.Constant (.str y) j p) && (chF r S es)
    | _ => false
def chPs : Prs → Ctx → List (Option Expr) → List Expr → Bool
  | .nil, _, ks, vs => match ks, vs with
    | [], [] => true
    | _, _ => false
  | .cons k v r, S, ks, vs => match ks, vs with
    | some a :: ks, b :: vs => chE k S a && (chE v S b && chPs r S ks vs)
    | _, _ => false
def chB : Exs → Ctx → List Expr → Bool
  | .nil, _, _ => false
  | .cons a r, S, es => match r with
    | .nil => match es with
      | [e] => chE a S e
      | _ => false
    | .cons _ _ => match es with
      | e :: e2 :: es => chE a S e && chB r S (e2 :: es)
      | _ => false
def chA : Exs → Ctx → List Expr → Bool
  | .nil, _, es => match es with
    | [] => true
    | _ :: _ => false
  | .cons a r, S, es => match es with
    | e :: es => chE a S e && (notStar e && chA r S es)
    | [] => false
def chP : Opt → Ctx → Option Expr → Bool
  | .no, _, o => match o with
    | none => true
    | some _ => false
  | .yes a, S, o => match o with
    | some e => chE a S e
    | none => false
def chC : Opt → Ctx → List Expr → Bool
  | .no, _, es => match es with
    | [] => true
    | _ :: _ => false
  | .yes a, S, es => match es with
    | [e] => chT a S e
    | _ => false
def chL : Lx → Ctx → Expr → Bool
  | .lst xs, S, e => match e with
    | .List es _ => chA xs S es
    | _ => false
  | .bin o a b, S, e => match e with
    | .BinOp l op r _ => decide (op = o.op) && (chE a S l && chE b S r)
    | _ => false
  | .sl a lo hi, S, e => match e with
    | .Subscript l (.Slice l1 l2 none _) _ => chE a S l && (chP lo S l1 && chP hi S l2)
    | _ => false
  | .rev a, S, e => match e with
    | .Subscript l (.Slice none none (some (.UnaryOp .USub (.Constant (.int i) _ _) _)) _) _ => decide (i = 1) && chE a S l
    | _ => false
  | .bo b xs, S, e => match e with
    | .Call (.Name x _) (e1 :: es) [] _ => decide (x = b.name) && (freeB S b.name && chA xs S (e1 :: es))
    | _ => false
  | .comp own t elt c it, S, e => match e with
    | .ListComp el [⟨tg, iter, ifs, 0⟩] scope _ => ownB S scope own && (decide (∀ i ∈ tgS t, i ∈ own) && (tgB t (S.blk scope) tg && (chC c (S.blk scope) ifs && (chE elt (S.blk scope) el && (chI it S tg iter && !isSet iter)))))
    | _ => false
  | .rg1 a, S, e => match e with
    | .Call (.Name f _) [.Call (.Name g _) [e1] [] _] [] _ => decide (f = "list") && (freeB S "list" && (decide (g = "range") && (freeB S "range" && (chE a S e1 && notStar e1))))
    | _ => false
  | .rg2 a b, S, e => match e with
    | .Call (.Name f _) [.Call (.Name g _) [e1, e2] [] _] [] _ => decide (f = "list") && (freeB S "list" && (decide (g = "range") && (freeB S "range" && (chE a S e1 && (chE b S e2 && (notStar e1 && notStar e2))))))
    | _ => false
  | .rvl a, S, e => match e with
    | .Call (.Name f _) [.Call (.Name g _) [e1] [] _] [] _ => decide (f = "list") && (freeB S "list" && (decide (g = "reversed") && (freeB S "reversed" && (chE a S e1 && notStar e1))))
    | _ => false
  | .zpl a b, S, e => match e with
    | .Call (.Name f _) [.Call (.Name g _) [e1, e2] [] _] [] _ => decide (f = "list") && (freeB S "list" && (decide (g = "zip") && (freeB S "zip" && (chE a S e1 && (chE b S e2 && (notStar e1 && notStar e2))))))
    | _ => false
  | .spl a b, S, e => match e with
    | .Call (.Attribute o x apos) [e1] [] cpos => decide (x = "split") && (chE a S o && (notCall0 o && ((apos.endLine == cpos.line) && (chE b S e1 && notStar e1))))
    | _ => false
  | .call f xs, S, e => match e with
    | .Call (.Name x _) es [] _ => decide (S.fns.lookup f = some x) && (glB S x && chA xs S es)
    | _ => false
def chI : Ix → Ctx → Expr → Expr → Bool
  | .ex a, S, _, e => chE a S e
  | .fn f xs, S, tg, e => match e with
    | .Call (.Name x _) es [] _ => decide (x = f.name) && (freeB S f.name && (decide (es.length = f.ar) && (chA xs S es && (!f.tup || isTup tg))))
    | _ => false
def chT : Ex → Ctx → Expr → Bool
  | .nott a, S, e => match e with
    | .UnaryOp .Not l _ => chT a S l
    | _ => false
  | .bool o xs, S, e => match e with
    | .BoolOp op es _ => decide (op = o) && chTB xs S es
    | _ => false
  | .ife _ _ _, _, _ => false
  | .non, _, e => nonB e
  | .bl b, _, e => blB b e
  | .int i, _, e => intB i e
  | .str x, _, e => strB x e
  | .glo n, S, e => gloB n S e
  | .loc i, S, e => nmE i S e
  | .bin o a b, S, e => match e with
    | .BinOp l op r _ => decide (op = o.op) && (chE a S l && chE b S r)
    | _ => false
  | .neg a, S, e => match e with
    | .UnaryOp .USub l _ => chE a S l
    | _ => false
  | .cmp o a b, S, e => match e with
    | .Compare l [op] [r] _ => decide (op = o) && (chE a S l && (chE b S r && !isSet r))
    | _ => false
  | .chain o o' a b c, S, e => match e with
    | .Compare l [op, op'] [m, r] _ => decide (op = o) && (decide (op' = o') && (chE a S l && (chE b S m && (chE c S r && !isSet r))))
    | _ => false
  | .tup xs, S, e => match e with
    | .Tuple es _ _ => chA xs S es
    | _ => false
  | .sub a i, S, e => match e with
    | .Subscript l r _ => chE a S l && (chE i S r && plainB r)
    | _ => false
  | .subO n i, S, e => match e with
    | .Subscript (.Name x _) r _ => nmB S n x && (chE i S r && plainB r)
    | _ => false
  | .lenO n, S, e => lenOB n S e
  | .inO neg n a, S, e => match e with
    | .Compare l [op] [.Name x _] _ => decide (op = if neg = true then .NotIn else .In) && (chE a S l && nmB S n x)
    | _ => false
  | .sl a lo hi, S, e => match e with
    | .Subscript l (.Slice l1 l2 none _) _ => chE a S l && (chP lo S l1 && chP hi S l2)
    | _ => false
  | .call f xs, S, e => match e with
    | .Call (.Name x _) es [] _ => decide (S.fns.lookup f = some x) && (glB S x && chA xs S es)
    | _ => false
  | .bf b xs, S, e => match e with
    | .Call (.Name x _) (e1 :: es) [] _ => decide (x = b.name) && (freeB S b.name && chA xs S (e1 :: es))
    | _ => false
  | .gcd xs, S, e => match e with
    | .Call (.Name x _) (e1 :: es) [] _ => decide (x = "gcd") && (S.gcd && (glB S "gcd" && chA xs S (e1 :: es)))
    | _ => false
  | .isi T a, S, e => match e with
    | .Call (.Name x _) [e1, .Name y _] [] _ => decide (x = "isinstance") && (freeB S "isinstance" && (decide (y = T.n) && (freeB S T.n && (chE a S e1 && notStar e1))))
    | _ => false
  | .bits a, S, e => match e with
    | .Call (.Attribute o m apos) [] [] pos => decide (m = "bit_length") && (chE a S o && (notCall0 o && (apos.endLine == pos.line)))
    | _ => false
  | .lis l, S, e => chL l S e
  | .dic ps, S, e => match e with
    | .Dict keys values _ => chPs ps S keys values && (!keys.isEmpty && decide (keys.length ≤ 15))
    | _ => false
  | .mth m a xs, S, e => match e with
    | .Call (.Attribute o x apos) (e1 :: es) [] cpos => decide (x = m.name) && (chE a S o && (notCall0 o && ((apos.endLine == cpos.line) && (decide ((e1 :: es).length < 30) && chA xs S (e1 :: es)))))
    | _ => false
  | .fst xs, S, e => match e with
    | .JoinedStr (v1 :: v2 :: rest) _ => chF xs S (v1 :: v2 :: rest)
    | _ => false
  | .gin n a, S, e => match e with
    | .Compare l [op] [.Name x _] _ => decide (op = .In) && (chE a S l && gdB n S x)
    | _ => false
  | .gix n a, S, e => match e with
    | .Subscript (.Name x _) r _ => gdB n S x && (chE a S r && plainB r)
    | _ => false
def chTB : Exs → Ctx → List Expr → Bool
  | .nil, _, _ => false
  | .cons a r, S, es => match r with
    | .nil => match es with
      | [e] => chT a S e
      | _ => false
    | .cons _ _ => match es with
      | e :: e2 :: es => chT a S e && chTB r S (e2 :: es)
      | _ => false
end
end Vp

end

section
set_option Elab.async false
set_option linter.all false
set_option autoImplicit false
set_option maxRecDepth 100000
/-! Vp6: what the check lets through does what the tree says. -/
namespace Vp
open PySem PySem.Spec PyProof.Rows L2

/-- a name of the module that is a def whose promise is g -/
def CallOk (X : Cx) (x : Str) (g : List D → Option D) : Prop := ∃ (k : Nat) (f : Addr) (fd : FuncData) (ps : List Str), FnOk X.prog X.w X.K X.mg X.base CX0 k f fd ps (spD X.K g) ∧ Room k X.A ∧ X.mg x = some (.ref f) ∧ PySem.W.keepIn X.K (.ref f) = true ∧ Binds X.K fd ps []
/-- .. that gives a new list -/
def CallOkO (X : Cx) (x : Str) (g : List D → Option (List D)) : Prop := ∃ (k : Nat) (f : Addr) (fd : FuncData) (ps : List Str), FnOk X.prog X.w X.K X.mg X.base CX0 k f fd ps (spDo X.K g) ∧ Room k X.A ∧ X.mg x = some (.ref f) ∧ PySem.W.keepIn X.K (.ref f) = true ∧ Binds X.K fd ps []
structure Good (S : Ctx) (cf : Nat → List D → Option D) (gl : Nat → Option D) (X : Cx) : Prop where
  N : X.N = S.N
  sc : X.env.scope = S.sc
  nd : S.N.Nodup
  calm : X.calm = true
  fn : ∀ x, S.fn x = true → X.fn x = true
  un : X.A.units + 65 < cLine
  free : ∀ x, x ∈ S.frees → X.mg x = none
  fns : ∀ f x, S.fns.lookup f = some x → CallOk X x (cf f)
  gls : ∀ n x d, S.gls.lookup n = some x → gl n = some d → ∃ v u, X.mg x = some u ∧ RelV v u ∧ ∀ H, Rep X.K H v d
  gcd : S.gcd = true → X.mg "gcd" = some (.builtin "math.gcd")
  fnsO : ∀ f x, S.fns.lookup f = some x → CallOkO X x fun ds => (cf (f + ownN) ds).bind lstOf
  gds : ∀ n x kd, S.gds.lookup n = some x → gl n = some (.dic kd) → ∃ pa, X.mg x = some (.ref pa) ∧ KDs X.K X.w pa (textK kd)

section
variable {S : Ctx} {cf : Nat → List D → Option D} {gl : Nat → Option D} {X : Cx}
theorem Good.vis (G : Good S cf gl X) {x : Str} (h : visB S x = true) : Vis X.env.scope x := by
  unfold visB at h
  rw [← G.sc] at h
  unfold Vis
  split at h
  · exact .inl (by assumption)
  · exact .inr (.inl (by assumption))
  · exact .inr (.inr (by assumption))
  · cases h
theorem Good.nm (G : Good S cf gl X) {i : Nat} {x : Str} (h : nmB S i x = true) : X.N[i]? = some x ∧ Vis X.env.scope x ∧ (x == ("__debug__" : Str)) = false ∧ (x == ("__classdict__" : Str)) = false := by
  unfold nmB at h
  simp only [Bool.and_eq_true, decide_eq_true_eq, Bool.not_eq_true'] at h
  exact ⟨by rw [G.N]; exact h.1, G.vis h.2.1, h.2.2.1, h.2.2.2⟩
theorem Good.gl' (G : Good S cf gl X) {x : Str} (h : glB S x = true) : Gl X x ∧ (x == ("__debug__" : Str)) = false := by
  unfold glB at h
  simp only [Bool.and_eq_true, Bool.not_eq_true'] at h
  refine ⟨?_, h.2⟩
  show X.env.scope.names.lookup x = _
  rw [G.sc]
  exact eq_of_beq h.1
theorem Good.gd' (G : Good S cf gl X) {n : Nat} {x : Str} (h : gdB n S x = true) : (Gl X x ∧ (x == ("__debug__" : Str)) = false) ∧ S.gds.lookup n = some x := by
  unfold gdB at h
  simp only [Bool.and_eq_true, decide_eq_true_eq] at h
  exact ⟨G.gl' h.1, h.2⟩
theorem Good.fr (G : Good S cf gl X) {x : Str} (h : freeB S x = true) : Gl X x ∧ X.mg x = none := by
  unfold freeB at h
  simp only [Bool.and_eq_true, decide_eq_true_eq] at h
  exact ⟨(G.gl' h.1).1, G.free _ h.2⟩
theorem Good.lc (G : Good S cf gl X) {x : Str} (h : locB S x = true) : Loc X.env.scope x ∧ (X.fn x = true ∨ X.env.scope.names.lookup x = some .local) := by
  unfold locB at h
  rw [← G.sc] at h
  split at h
  · exact ⟨.inl (by assumption), .inr (by assumption)⟩
  · exact ⟨.inr (by assumption), .inl (G.fn _ h)⟩
  · cases h
theorem Good.blk (G : Good S cf gl X) (s : Shared) (H : Hp) (scope : Scope) (C : Addr) (cl : List (Str × Addr)) (fp : List Addr) : Good (S.blk scope) cf gl (X.blk s H scope (compEnvC scope cl C X.env) fp) where
  N := G.N
  sc := by
    show relS scope X.env.scope = relS scope S.sc
    rw [G.sc]
  nd := G.nd
  calm := G.calm
  fn := fun x h => h
  un := G.un
  free := G.free
  fns := fun f x h => G.fns f x h
  gls := G.gls
  gcd := G.gcd
  fnsO := fun f x h => G.fnsO f x h
  gds := G.gds
theorem noMark {b : Expr} {op : CmpOp} (h : isSet b = false) : behindInMarks op b = false := by
  cases b <;> first | rfl | cases h
theorem noMarks {b c : Expr} {op op' : CmpOp} (h : isSet c = false) : lastMarks [op, op'] [b, c] = false := noMark (op := op') h
def plainT : Expr → Bool
  | .UnaryOp .Not _ _ => false
  | .BoolOp _ _ _ => false
  | .IfExp _ _ _ _ => false
  | .Compare _ _ _ _ => false
  | _ => true
theorem plainT_ok {e : Expr} (h : plainT e = true) (env : Env) : ∀ whole, isTrue e env whole = (do let v ← whole; standAt e.pos; holding [v] (truthy v)) := by
  intro whole
  cases e with
  | UnaryOp op _ _ => cases op <;> first | rfl | cases h
  | BoolOp _ _ _ => cases h
  | IfExp _ _ _ _ => cases h
  | Compare _ _ _ _ => cases h
  | _ => rfl
theorem plainIx {b : Expr} (h : plainB b = true) : PlainIx b := by
  intro o i
  cases b <;> first | rfl | cases h
theorem noSuper {e : Expr} {attr : Str} {env : Env} {w : Sem Value} (h : notCall0 e = true) : attributeBase e attr env w = w := by
  cases e with
  | Call f as ks p =>
    cases as with
    | nil =>
      cases ks with
      | nil => cases h
      | cons _ _ => cases f <;> rfl
    | cons _ _ => cases f <;> rfl
  | _ => rfl
section
variable {a b c : Expr} {pos : Pos} {fa fb fc : Env' → Option D}
theorem rd_chain {o o' : CmpOp} : ∀ σ H Q, rdE X.K (chainD o o' fa fb fc) σ H Q → tChain (rD2 X.K fun x y => blD (cmpD o x y)) (rD2 X.K fun x y => blD (cmpD o' x y)) (rdE X.K fa) (rdE X.K fb) (rdE X.K fc) σ H Q := by
  rintro σ H Q ⟨L, A, E, d, er, h, k⟩
  obtain ⟨x, hx, h⟩ := Option.bind_eq_some_iff.mp h
  obtain ⟨y, hy, h⟩ := Option.bind_eq_some_iff.mp h
  obtain ⟨t, ht, h⟩ := Option.bind_eq_some_iff.mp h
  refine ⟨L, A, E, x, er, hx, fun v H1 s1 r1 => ⟨L, A, E, y, er.mono s1, hy, fun w H2 s2 r2 => ?_⟩⟩
  refine ⟨A, x, y, .bl t, ((er.mono s1).mono s2).dom, r1.mono (mask_same s2), r2, (by show blD (cmpD o x y) = _; rw [ht]; rfl), fun z H3 s3 r3 => ?_⟩
  cases r3
  refine ⟨t, rfl, ?_⟩
  cases t with
  | true =>
    simp only [if_true] at h ⊢
    obtain ⟨z, hz, h⟩ := Option.bind_eq_some_iff.mp h
    refine ⟨L, A, E, z, ((er.mono s1).mono s2).mono s3, hz, fun u H4 s4 r4 => ?_⟩
    exact ⟨A, y, z, d, (((er.mono s1).mono s2).mono s3).mono s4 |>.dom, r2.mono (mask_same (s3.trans s4)), r4, h, (((k.mono s1).mono s2).mono s3).mono s4⟩
  | false =>
    simp only [Bool.false_eq_true, if_false] at h ⊢
    cases h
    exact (((k.mono s1).mono s2).mono s3).now (.bl _)
theorem vp_chain {o o' : CmpOp} (hu : X.A.units + 65 < cLine) (ha : PE X a (rdE X.K fa)) (hb : PE X b (rdE X.K fb)) (hc : PE X c (rdE X.K fc)) (hm : lastMarks [o, o'] [b, c] = false) : PE X (.Compare a [o, o'] [b, c] pos) (rdE X.K (chainD o o' fa fb fc)) :=
  pe_imp (pe_chain (cmp_ok hu o) (cmp_ok hu o') ha hb hc hm) rd_chain
theorem vt_chain {o o' : CmpOp} (hu : X.A.units + 65 < cLine) (ha : PE X a (rdE X.K fa)) (hb : PE X b (rdE X.K fb)) (hc : PE X c (rdE X.K fc)) (hm : lastMarks [o, o'] [b, c] = false) : PT X (.Compare a [o, o'] [b, c] pos) (rdT X.K fun E => (chainD o o' fa fb fc E).bind toB) := by
  refine pt_imp (pt_chain (cmp_ok hu o) (cmp_ok hu o') ha hb hc hm) ?_
  rintro σ H Q ⟨L, A, E, d, er, h, k⟩
  obtain ⟨x, hx, h⟩ := Option.bind_eq_some_iff.mp h
  cases toB_eq h
  refine rd_chain σ H _ ⟨L, A, E, .bl d, er, hx, fun v H1 s1 r1 => ?_⟩
  cases r1
  exact ⟨d, rfl, k H1 s1⟩
theorem vp_neg (ha : PE X a (rdE X.K fa)) : PE X (.UnaryOp .USub a pos) (rdE X.K (ap1 negD fa)) := by
  refine pe_imp (pe_un un_neg ha) ?_
  rintro σ H Q ⟨L, A, E, d, er, h, k⟩
  obtain ⟨x, h1, h2⟩ := Option.bind_eq_some_iff.mp h
  refine ⟨L, A, E, x, er, h1, fun v H1 s1 r1 => ?_⟩
  cases x with
  | int i =>
    cases h2
    cases r1
    exact ⟨i, rfl, (k.mono s1).now (.int _)⟩
  | _ => cases h2
end

theorem vp_constK {e : Expr} {v : V} {d : D} (h : PE X e (tC v)) (r : ∀ H, Rep X.K H v d) : PE X e (rdE X.K fun _ => some d) := by
  refine pe_imp h ?_
  rintro σ H Q ⟨L, A, E, d', er, h, k⟩
  cases h
  exact k.now (r _)
theorem asg_cons {e : Expr} {es : List Expr} {env : Env} (h : notStar e = true) : assignEach (e :: es) env = (false, assign e env) :: assignEach es env := by
  cases e <;> first | rfl | cases h
/-! ### targets -/
mutual
theorem okG : ∀ (t : Tg) (S : Ctx) (X : Cx) (e : Expr), Good S cf gl X → tgB t S e = true → PG X e (rdG X.K t)
  | .nm i, S, X, e, G, h => by
    simp only [tgB] at h
    split at h
    · simp only [Bool.and_eq_true, decide_eq_true_eq] at h
      obtain ⟨g1, g2⟩ := G.lc h.2
      exact vg_name (by rw [G.N]; exact G.nd) (by rw [G.N]; exact h.1) g1 g2
    · cases h
  | .tp ts, S, X, e, G, h => by
    simp only [tgB] at h
    split at h
    · obtain ⟨h1, h2, h3⟩ := okGs ts S X _ G h
      exact vg_tup G.calm h1 h2 rfl h3
    · cases h
theorem okGs : ∀ (ts : List Tg) (S : Ctx) (X : Cx) (es : List Expr), Good S cf gl X → tgsB ts S es = true → PGs X es (rdGs X.K ts) ∧ (assignEach es X.env).length = ts.length ∧ (assignEach es X.env).findIdx? (·.1) = none
  | [], S, X, es, G, h => by
    simp only [tgsB] at h
    split at h
    · exact ⟨vgs_nil, rfl, rfl⟩
    · cases h
  | t :: ts, S, X, es, G, h => by
    simp only [tgsB] at h
    split at h
    · rename_i e es
      simp only [Bool.and_eq_true] at h
      obtain ⟨h1, h2, h3⟩ := h
      obtain ⟨g1, g2, g3⟩ := okGs ts S X _ G h3
      rw [asg_cons h2]
      refine ⟨vgs_cons (okG t S X _ G h1) g1 (by rw [asg_cons h2]; rfl), by rw [List.length_cons, List.length_cons, g2], ?_⟩
      rw [List.findIdx?_cons, g3]
      rfl
    · cases h
end
theorem vp_ginG {X : Cx} {e : Expr} {n : Nat} {fa : Env' → Option D} (h : ∀ kd, gl n = some (.dic kd) → PE X e (rdE X.K fun E => (fa E).bind (ginD (textK kd)))) : PE X e (rdE X.K fun E => (fa E).bind fun x => (gl n).bind fun g => ginG g x) := by
  refine ⟨fun pins s σ H Q I w => ?_⟩
  obtain ⟨L, A, E, d, er, hd, k⟩ := w
  obtain ⟨x, hx, hd⟩ := Option.bind_eq_some_iff.mp hd
  obtain ⟨g, hg, hd⟩ := Option.bind_eq_some_iff.mp hd
  unfold ginG at hd
  split at hd
  · rename_i kd
    exact (h kd hg).run pins s σ H Q I ⟨L, A, E, d, er, by show (fa E).bind _ = _; rw [hx]; exact hd, k⟩
  · cases hd
theorem vt_ginG {X : Cx} {e : Expr} {n : Nat} {fa : Env' → Option D} (h : ∀ kd, gl n = some (.dic kd) → PT X e (rdT X.K fun E => ((fa E).bind (ginD (textK kd))).bind toB)) : PT X e (rdT X.K fun E => ((fa E).bind fun x => (gl n).bind fun g => ginG g x).bind toB) := by
  refine ⟨fun pins s σ H Q I w => ?_⟩
  obtain ⟨L, A, E, b, er, hd, k⟩ := w
  obtain ⟨d, hd, hb⟩ := Option.bind_eq_some_iff.mp hd
  obtain ⟨x, hx, hd⟩ := Option.bind_eq_some_iff.mp hd
  obtain ⟨g, hg, hd⟩ := Option.bind_eq_some_iff.mp hd
  unfold ginG at hd
  split at hd
  · rename_i kd
    refine (h kd hg).run pins s σ H Q I ⟨L, A, E, b, er, ?_, k⟩
    show ((fa E).bind _).bind toB = _
    rw [hx]
    show (ginD (textK kd) x).bind toB = _
    rw [hd]
    exact hb
  · cases hd
theorem vp_gixG {X : Cx} {e : Expr} {n : Nat} {fa : Env' → Option D} (h : ∀ kd, gl n = some (.dic kd) → PE X e (rdE X.K fun E => (fa E).bind (gixD (textK kd)))) : PE X e (rdE X.K fun E => (fa E).bind fun x => (gl n).bind fun g => gixG g x) := by
  refine ⟨fun pins s σ H Q I w => ?_⟩
  obtain ⟨L, A, E, d, er, hd, k⟩ := w
  obtain ⟨x, hx, hd⟩ := Option.bind_eq_some_iff.mp hd
  obtain ⟨g, hg, hd⟩ := Option.bind_eq_some_iff.mp hd
  unfold gixG at hd
  split at hd
  · rename_i kd
    exact (h kd hg).run pins s σ H Q I ⟨L, A, E, d, er, by show (fa E).bind _ = _; rw [hx]; exact hd, k⟩
  · cases hd
/-- a written text as a part of an f-string -/
theorem vp_cst {X : Cx} {y : Str} {j : Nat} {p : Pos} {fa : Env' → Option D} (h : ∀ E d, fa E = some d → d = .str y) : PE X (.Constant (.str y) j p) (rdE X.K fun E => (fa E).bind fmtD) := by
  refine pe_imp pe_str ?_
  rintro σ H Q ⟨L, A, E, d, er, hd, k⟩
  obtain ⟨x, hx, hd⟩ := Option.bind_eq_some_iff.mp hd
  cases h E x hx
  obtain ⟨_, rfl⟩ := if_some hd
  exact k.now (.str _)
/-! ### the theorem -/
variable (cf gl)
def ESpec (x : Ex) : Prop := ∀ (S : Ctx) (X : Cx) (e : Expr), Good S cf gl X → chE x S e = true → PE X e (rdE X.K (ev cf gl x))
def TSpec (x : Ex) : Prop := ∀ (S : Ctx) (X : Cx) (e : Expr), Good S cf gl X → chT x S e = true → PT X e (rdT X.K (tev cf gl x))
theorem both {x : Ex} (h : ESpec cf gl x) (ht : ∀ S e, chT x S e = true → chE x S e = true ∧ plainT e = true) (hv : tev cf gl x = fun E => (ev cf gl x E).bind truD) : ESpec cf gl x ∧ TSpec cf gl x := by
  refine ⟨h, fun S X e G hc => ?_⟩
  obtain ⟨h1, h2⟩ := ht S e hc
  rw [hv]
  exact vt_truth (h S X e G h1) (plainT_ok h2 _)
set_option maxHeartbeats 4000000 in
mutual
theorem okE : ∀ x : Ex, ESpec cf gl x ∧ TSpec cf gl x
  | .non => by
    refine both cf gl (fun S X e G h => ?_) (fun S e h => ⟨h, ?_⟩) (by simp only [tev, ev]; rfl)
    · simp only [chE, nonB] at h
      split at h
      · exact vp_const pe_non fun _ _ => .non
      · cases h
    · simp only [chT, nonB] at h
      split at h
      · rfl
      · cases h
  | .bl b => by
    refine both cf gl (fun S X e G h => ?_) (fun S e h => ⟨h, ?_⟩) (by simp only [tev, ev]; rfl)
    · simp only [chE, blB] at h
      split at h
      · rw [eq_of_beq h]
        exact vp_const pe_bl fun _ _ => .bl _
      · cases h
    · simp only [chT, blB] at h
      split at h
      · rfl
      · cases h
  | .int i => by
    refine both cf gl (fun S X e G h => ?_) (fun S e h => ⟨h, ?_⟩) (by simp only [tev, ev]; rfl)
    · simp only [chE, intB] at h
      split at h
      · rw [of_decide_eq_true h]
        exact vp_const pe_int fun _ _ => .int _
      · cases h
    · simp only [chT, intB] at h
      split at h
      · rfl
      · cases h
  | .str x => by
    refine both cf gl (fun S X e G h => ?_) (fun S e h => ⟨h, ?_⟩) (by simp only [tev, ev]; rfl)
    · simp only [chE, strB] at h
      split at h
      · rw [of_decide_eq_true h]
        exact vp_const pe_str fun _ _ => .str _
      · cases h
    · simp only [chT, strB] at h
      split at h
      · rfl
      · cases h
  | .glo n => by
    refine both cf gl (fun S X e G h => ?_) (fun S e h => ⟨h, ?_⟩) (by simp only [tev, ev])
    · simp only [chE, gloB] at h
      split at h
      · simp only [Bool.and_eq_true, decide_eq_true_eq] at h
        obtain ⟨g1, g2⟩ := G.gl' h.1
        simp only [ev]
        cases hn : gl n with
        | none => exact ⟨fun pins s σ H Q I w => by obtain ⟨L, A, E, d, er, hd, k⟩ := w; cases hd⟩
        | some d =>
          obtain ⟨v, u, m1, m2, m3⟩ := G.gls n _ d h.2 hn
          exact vp_constK (pe_glob g1 m1 m2 g2) m3
      · cases h
    · simp only [chT, gloB] at h
      split at h
      · rfl
      · cases h
  | .loc i => by
    refine both cf gl (fun S X e G h => ?_) (fun S e h => ⟨h, ?_⟩) (by simp only [tev, ev])
    · simp only [chE, nmE] at h
      split at h
      · obtain ⟨g1, g2, g3, g4⟩ := G.nm h
        simp only [ev]
        exact vp_loc g1 g2 g3 g4
      · cases h
    · simp only [chT, nmE] at h
      split at h
      · rfl
      · cases h
  | .bin o a b => by
    refine both cf gl (fun S X e G h => ?_) (fun S e h => ⟨h, ?_⟩) (by simp only [tev, ev])
    · simp only [chE] at h
      split at h
      · simp only [Bool.and_eq_true, decide_eq_true_eq] at h
        obtain ⟨rfl, h1, h2⟩ := h
        simp only [ev]
        exact vp_op (bin_ok o) ((okE a).1 S X _ G h1) ((okE b).1 S X _ G h2)
      · cases h
    · simp only [chT] at h
      split at h
      · rfl
      · cases h
  | .neg a => by
    refine both cf gl (fun S X e G h => ?_) (fun S e h => ⟨h, ?_⟩) (by simp only [tev, ev])
    · simp only [chE] at h
      split at h
      · simp only [ev]
        exact vp_neg ((okE a).1 S X _ G h)
      · cases h
    · simp only [chT] at h
      split at h
      · rfl
      · cases h
  | .nott a => by
    refine ⟨fun S X e G h => ?_, fun S X e G h => ?_⟩
    · simp only [chE] at h
      split at h
      · simp only [ev]
        exact vp_not ((okE a).1 S X _ G h)
      · cases h
    · simp only [chT] at h
      split at h
      · simp only [tev]
        exact vt_not ((okE a).2 S X _ G h)
      · cases h
  | .bool o xs => by
    refine ⟨fun S X e G h => ?_, fun S X e G h => ?_⟩
    · simp only [chE] at h
      split at h
      · simp only [Bool.and_eq_true, decide_eq_true_eq] at h
        obtain ⟨rfl, h⟩ := h
        simp only [ev]
        exact (okA xs).2.1 S X _ _ _ G h
      · cases h
    · simp only [chT] at h
      split at h
      · simp only [Bool.and_eq_true, decide_eq_true_eq] at h
        obtain ⟨rfl, h⟩ := h
        simp only [tev]
        exact ((okA xs).2.2 S X _ _ _ G h).pt
      · cases h
  | .cmp o a b => by
    refine ⟨fun S X e G h => ?_, fun S X e G h => ?_⟩
    · simp only [chE] at h
      split at h
      · simp only [Bool.and_eq_true, decide_eq_true_eq, Bool.not_eq_true'] at h
        obtain ⟨rfl, h1, h2, h3⟩ := h
        simp only [ev]
        exact vp_cmp (cmp_ok G.un _) ((okE a).1 S X _ G h1) ((okE b).1 S X _ G h2) (noMark h3)
      · cases h
    · simp only [chT] at h
      split at h
      · simp only [Bool.and_eq_true, decide_eq_true_eq, Bool.not_eq_true'] at h
        obtain ⟨rfl, h1, h2, h3⟩ := h
        simp only [tev]
        exact vp_cmpT (cmp_ok G.un _) ((okE a).1 S X _ G h1) ((okE b).1 S X _ G h2) (noMark h3)
      · cases h
  | .chain o o' a b c => by
    refine ⟨fun S X e G h => ?_, fun S X e G h => ?_⟩
    · simp only [chE] at h
      split at h
      · simp only [Bool.and_eq_true, decide_eq_true_eq, Bool.not_eq_true'] at h
        obtain ⟨rfl, rfl, h1, h2, h3, h4⟩ := h
        simp only [ev]
        exact vp_chain G.un ((okE a).1 S X _ G h1) ((okE b).1 S X _ G h2) ((okE c).1 S X _ G h3) (noMarks h4)
      · cases h
    · simp only [chT] at h
      split at h
      · simp only [Bool.and_eq_true, decide_eq_true_eq, Bool.not_eq_true'] at h
        obtain ⟨rfl, rfl, h1, h2, h3, h4⟩ := h
        simp only [tev]
        exact vt_chain G.un ((okE a).1 S X _ G h1) ((okE b).1 S X _ G h2) ((okE c).1 S X _ G h3) (noMarks h4)
      · cases h
  | .ife t a b => by
    refine ⟨fun S X e G h => ?_, fun S X e G h => ?_⟩
    · simp only [chE] at h
      split at h
      · simp only [Bool.and_eq_true] at h
        obtain ⟨h1, h2, h3⟩ := h
        simp only [ev]
        exact vp_if ((okE t).2 S X _ G h1) ((okE a).1 S X _ G h2) ((okE b).1 S X _ G h3)
      · cases h
    · simp only [chT] at h
      cases h
  | .tup xs => by
    refine both cf gl (fun S X e G h => ?_) (fun S e h => ⟨h, ?_⟩) (by simp only [tev, ev])
    · simp only [chE] at h
      split at h
      · simp only [ev]
        exact vp_tup ((okA xs).1 S X _ G h).1
      · cases h
    · simp only [chT] at h
      split at h
      · rfl
      · cases h
  | .sub a i => by
    refine both cf gl (fun S X e G h => ?_) (fun S e h => ⟨h, ?_⟩) (by simp only [tev, ev])
    · simp only [chE] at h
      split at h
      · simp only [Bool.and_eq_true] at h
        obtain ⟨h1, h2, h3⟩ := h
        simp only [ev]
        exact vp_ix ((okE a).1 S X _ G h1) ((okE i).1 S X _ G h2) (plainIx h3)
      · cases h
    · simp only [chT] at h
      split at h
      · rfl
      · cases h
  | .subO n i => by
    refine both cf gl (fun S X e G h => ?_) (fun S e h => ⟨h, ?_⟩) (by simp only [tev, ev])
    · simp only [chE] at h
      split at h
      · simp only [Bool.and_eq_true] at h
        obtain ⟨h1, h2, h3⟩ := h
        obtain ⟨g1, g2, g3, g4⟩ := G.nm h1
        simp only [ev]
        exact vp_ixOwn g1 g2 g3 g4 ((okE i).1 S X _ G h2) (plainIx h3)
      · cases h
    · simp only [chT] at h
      split at h
      · rfl
      · cases h
  | .lenO n => by
    refine both cf gl (fun S X e G h => ?_) (fun S e h => ⟨h, ?_⟩) (by simp only [tev, ev])
    · simp only [chE, lenOB] at h
      split at h
      · simp only [Bool.and_eq_true, decide_eq_true_eq] at h
        obtain ⟨rfl, h1, h2⟩ := h
        obtain ⟨g1, g2, g3, g4⟩ := G.nm h2
        obtain ⟨f1, f2⟩ := G.fr h1
        simp only [ev]
        exact vp_lenOwn g1 g2 g3 g4 f1 f2
      · cases h
    · simp only [chT, lenOB] at h
      split at h
      · rfl
      · cases h
  | .inO neg n a => by
    have pe : ESpec cf gl (.inO neg n a) := fun S X e G h => by
      simp only [chE] at h
      split at h
      · simp only [Bool.and_eq_true, decide_eq_true_eq] at h
        obtain ⟨rfl, h1, h2⟩ := h
        obtain ⟨g1, g2, g3, g4⟩ := G.nm h2
        simp only [ev]
        exact vp_inOwn g1 g2 g3 g4 ((okE a).1 S X _ G h1)
      · cases h
    refine ⟨pe, fun S X e G h => ?_⟩
    simp only [chT] at h
    split at h
    · simp only [Bool.and_eq_true, decide_eq_true_eq] at h
      obtain ⟨rfl, h1, h2⟩ := h
      obtain ⟨g1, g2, g3, g4⟩ := G.nm h2
      simp only [tev]
      exact vt_inOwn g1 g2 g3 g4 ((okE a).1 S X _ G h1)
    · cases h
  | .sl a lo hi => by
    refine both cf gl (fun S X e G h => ?_) (fun S e h => ⟨h, ?_⟩) (by simp only [tev, ev])
    · simp only [chE] at h
      split at h
      · simp only [Bool.and_eq_true] at h
        obtain ⟨h1, h2, h3⟩ := h
        simp only [ev]
        exact vp_sl ((okE a).1 S X _ G h1) (okP lo S X _ G h2) (okP hi S X _ G h3)
      · cases h
    · simp only [chT] at h
      split at h
      · rfl
      · cases h
  | .call f xs => by
    refine both cf gl (fun S X e G h => ?_) (fun S e h => ⟨h, ?_⟩) (by simp only [tev, ev])
    · simp only [chE] at h
      split at h
      · rename_i x p es pos
        simp only [Bool.and_eq_true, decide_eq_true_eq] at h
        obtain ⟨h1, h2, h3⟩ := h
        obtain ⟨g1, g2⟩ := G.gl' h2
        obtain ⟨k, fa, fd, ps, F, hr, hm, hk, hb⟩ := G.fns f x h1
        obtain ⟨a1, a2⟩ := (okA xs).1 S X _ G h3
        simp only [ev]
        cases es with
        | nil =>
          cases xs with
          | nil => exact vp_call0 F hr g1 hm hk hb g2
          | cons _ _ => simp only [chA] at h3; cases h3
        | cons e es => exact vp_call F hr g1 hm hk hb a1 a2 g2
      · cases h
    · simp only [chT] at h
      split at h
      · rfl
      · cases h
  | .bf b xs => by
    refine both cf gl (fun S X e G h => ?_) (fun S e h => ⟨h, ?_⟩) (by simp only [tev, ev])
    · simp only [chE] at h
      split at h
      · simp only [Bool.and_eq_true, decide_eq_true_eq] at h
        obtain ⟨rfl, h1, h2⟩ := h
        obtain ⟨f1, f2⟩ := G.fr h1
        obtain ⟨a1, a2⟩ := (okA xs).1 S X _ G h2
        simp only [ev]
        exact vp_bf b G.calm f1 f2 a1 a2
      · cases h
    · simp only [chT] at h
      split at h
      · rfl
      · cases h
  | .gcd xs => by
    refine both cf gl (fun S X e G h => ?_) (fun S e h => ⟨h, ?_⟩) (by simp only [tev, ev])
    · simp only [chE] at h
      split at h
      · simp only [Bool.and_eq_true, decide_eq_true_eq] at h
        obtain ⟨rfl, h0, h1, h2⟩ := h
        obtain ⟨g1, g2⟩ := G.gl' h1
        obtain ⟨a1, a2⟩ := (okA xs).1 S X _ G h2
        simp only [ev]
        exact vp_gcd g1 (G.gcd h0) a1 a2 g2
      · cases h
    · simp only [chT] at h
      split at h
      · rfl
      · cases h
  | .isi T a => by
    refine both cf gl (fun S X e G h => ?_) (fun S e h => ⟨h, ?_⟩) (by simp only [tev, ev])
    · simp only [chE] at h
      split at h
      · simp only [Bool.and_eq_true, decide_eq_true_eq] at h
        obtain ⟨rfl, h1, rfl, h2, h3, h4⟩ := h
        obtain ⟨f1, f2⟩ := G.fr h1
        obtain ⟨f3, f4⟩ := G.fr h2
        simp only [ev]
        exact vp_isi T f1 f2 f3 f4 ((okE a).1 S X _ G h3) h4
      · cases h
    · simp only [chT] at h
      split at h
      · rfl
      · cases h
  | .bits a => by
    refine both cf gl (fun S X e G h => ?_) (fun S e h => ⟨h, ?_⟩) (by simp only [tev, ev])
    · simp only [chE] at h
      split at h
      · simp only [Bool.and_eq_true, decide_eq_true_eq] at h
        obtain ⟨rfl, h1, h2, h3⟩ := h
        simp only [ev]
        exact vp_bits ((okE a).1 S X _ G h1) (noSuper h2) h3
      · cases h
    · simp only [chT] at h
      split at h
      · rfl
      · cases h
  | .lis l => by
    refine both cf gl (fun S X e G h => ?_) (fun S e h => ⟨h, ?_⟩) (by simp only [tev, ev])
    · simp only [chE] at h
      simp only [ev]
      exact vp_ofO (okL l S X e G h)
    · simp only [chT] at h
      cases l <;> simp only [chL] at h <;> split at h <;> first | rfl | cases h
  | .dic ps => by
    refine both cf gl (fun S X e G h => ?_) (fun S e h => ⟨h, ?_⟩) (by simp only [tev, ev])
    · simp only [chE] at h
      split at h
      · simp only [Bool.and_eq_true, Bool.not_eq_true', decide_eq_true_eq] at h
        obtain ⟨h1, h2, h3⟩ := h
        obtain ⟨q1, q2, q3⟩ := okPs ps S X _ _ _ G h1
        simp only [ev]
        exact vp_dic q1 q2 q3 (by rintro rfl; cases h2) h3
      · cases h
    · simp only [chT] at h
      split at h
      · rfl
      · cases h
  | .mth m a xs => by
    refine both cf gl (fun S X e G h => ?_) (fun S e h => ⟨h, ?_⟩) (by simp only [tev, ev])
    · simp only [chE] at h
      split at h
      · simp only [Bool.and_eq_true, decide_eq_true_eq] at h
        obtain ⟨rfl, h1, h2, h3, h4, h5⟩ := h
        obtain ⟨a1, a2⟩ := (okA xs).1 S X _ G h5
        simp only [ev]
        exact vp_mth m ((okE a).1 S X _ G h1) a1 (noSuper h2) a2 h4 h3
      · cases h
    · simp only [chT] at h
      split at h
      · rfl
      · cases h
  | .fst xs => by
    refine both cf gl (fun S X e G h => ?_) (fun S e h => ⟨h, ?_⟩) (by simp only [tev, ev])
    · simp only [chE] at h
      split at h
      · simp only [ev]
        exact vp_fst (okF xs S X _ G h)
      · cases h
    · simp only [chT] at h
      split at h
      · rfl
      · cases h
  | .gin n a => by
    refine ⟨fun S X e G h => ?_, fun S X e G h => ?_⟩
    · simp only [chE] at h
      split at h
      · simp only [Bool.and_eq_true, decide_eq_true_eq] at h
        obtain ⟨rfl, h1, h2⟩ := h
        obtain ⟨⟨g1, g2⟩, g3⟩ := G.gd' h2
        simp only [ev]
        refine vp_ginG fun kd hn => ?_
        obtain ⟨pa, m1, m2⟩ := G.gds n _ kd g3 hn
        exact vp_gin g1 m1 g2 m2 ((okE a).1 S X _ G h1)
      · cases h
    · simp only [chT] at h
      split at h
      · simp only [Bool.and_eq_true, decide_eq_true_eq] at h
        obtain ⟨rfl, h1, h2⟩ := h
        obtain ⟨⟨g1, g2⟩, g3⟩ := G.gd' h2
        simp only [tev]
        refine vt_ginG fun kd hn => ?_
        obtain ⟨pa, m1, m2⟩ := G.gds n _ kd g3 hn
        exact vt_gin g1 m1 g2 m2 ((okE a).1 S X _ G h1)
      · cases h
  | .gix n a => by
    refine both cf gl (fun S X e G h => ?_) (fun S e h => ⟨h, ?_⟩) (by simp only [tev, ev])
    · simp only [chE] at h
      split at h
      · simp only [Bool.and_eq_true, decide_eq_true_eq] at h
        obtain ⟨h2, h1, h3⟩ := h
        obtain ⟨⟨g1, g2⟩, g3⟩ := G.gd' h2
        simp only [ev]
        refine vp_gixG fun kd hn => ?_
        obtain ⟨pa, m1, m2⟩ := G.gds n _ kd g3 hn
        exact vp_gix g1 m1 g2 m2 ((okE a).1 S X _ G h1) (plainIx h3)
      · cases h
    · simp only [chT] at h
      split at h
      · rfl
      · cases h
theorem okF : ∀ (xs : Exs) (S : Ctx) (X : Cx) (es : List Expr), Good S cf gl X → chF xs S es = true → PJ X es ((evFs cf gl xs).map (rdE X.K))
  | .nil, S, X, es, G, h => by
    simp only [chF] at h
    split at h
    · simp only [evFs, List.map_nil]
      exact .nil
    · cases h
  | .cons a r, S, X, es, G, h => by
    simp only [chF] at h
    split at h
    · simp only [Bool.and_eq_true, decide_eq_true_eq] at h
      obtain ⟨rfl, h1, h2⟩ := h
      simp only [evFs, List.map_cons]
      exact .cons (vp_fmt ((okE a).1 S X _ G h1)) (okF r S X _ G h2)
    · simp only [Bool.and_eq_true] at h
      simp only [evFs, List.map_cons]
      refine .cons (vp_cst fun E d hd => ?_) (okF r S X _ G h.2)
      have h1 := h.1
      cases a with
      | str z =>
        simp only [chE, strB, decide_eq_true_eq] at h1
        simp only [ev] at hd
        cases hd
        rw [h1]
      | lis l => cases l <;> simp only [chE, chL] at h1 <;> cases h1
      | _ => simp only [chE, nonB, blB, intB, gloB, nmE, lenOB] at h1; cases h1
    · cases h
theorem okPs : ∀ (ps : Prs) (S : Ctx) (X : Cx) (ks : List (Option Expr)) (vs : List Expr) (pos : Pos), Good S cf gl X → chPs ps S ks vs = true → PPs X pos ks vs (rdPs X.K (evKs cf gl ps) (evVs cf gl ps)) ∧ ks.all (·.isSome) = true ∧ ks.length = vs.length
  | .nil, S, X, ks, vs, pos, G, h => by
    simp only [chPs] at h
    split at h
    · simp only [evKs, evVs]
      exact ⟨pps_nil, rfl, rfl⟩
    · cases h
  | .cons k v r, S, X, ks, vs, pos, G, h => by
    simp only [chPs] at h
    split at h
    · simp only [Bool.and_eq_true] at h
      obtain ⟨h1, h2, h3⟩ := h
      obtain ⟨q1, q2, q3⟩ := okPs r S X _ _ pos G h3
      simp only [evKs, evVs]
      exact ⟨pps_cons ((okE k).1 S X _ G h1) ((okE v).1 S X _ G h2) q1, by rw [List.all_cons, q2]; rfl, by rw [List.length_cons, List.length_cons, q3]⟩
    · cases h
theorem okA : ∀ xs : Exs, (∀ (S : Ctx) (X : Cx) (es : List Expr), Good S cf gl X → chA xs S es = true → PA X es (rdA X.K (evs cf gl xs)) ∧ es.all notStar = true) ∧
    (∀ (S : Ctx) (X : Cx) (es : List Expr) (o : BoolOp) (pos : Pos), Good S cf gl X → chB xs S es = true → PE X (.BoolOp o es pos) (rdE X.K (evB cf gl o xs))) ∧
    (∀ (S : Ctx) (X : Cx) (es : List Expr) (o : BoolOp) (pos : Pos), Good S cf gl X → chTB xs S es = true → PW X (.BoolOp o es pos) (rdT X.K (tevB cf gl o xs)))
  | .nil => by
    refine ⟨fun S X es G h => ?_, fun S X es o pos G h => ?_, fun S X es o pos G h => ?_⟩
    · simp only [chA] at h
      split at h
      · simp only [evs]
        exact ⟨va_nil, rfl⟩
      · cases h
    · simp only [chB] at h
      cases h
    · simp only [chTB] at h
      cases h
  | .cons a r => by
    refine ⟨fun S X es G h => ?_, fun S X es o pos G h => ?_, fun S X es o pos G h => ?_⟩
    · simp only [chA] at h
      split at h
      · simp only [Bool.and_eq_true] at h
        obtain ⟨h1, h2, h3⟩ := h
        obtain ⟨r1, r2⟩ := (okA r).1 S X _ G h3
        simp only [evs]
        exact ⟨va_cons ((okE a).1 S X _ G h1) r1 (star_cons h2), by rw [List.all_cons, h2, r2]; rfl⟩
      · cases h
    · cases r with
      | nil =>
        simp only [chB] at h
        split at h
        · simp only [evB]
          exact vp_one ((okE a).1 S X _ G h)
        · cases h
      | cons a' r' =>
        cases es with
        | nil => simp [chB] at h
        | cons e es =>
        cases es with
        | nil => simp [chB] at h
        | cons e2 es =>
        · simp only [chB, Bool.and_eq_true] at h
          have q := (okA (.cons a' r')).2.1 S X _ o pos G h.2
          cases o with
          | And =>
            show PE X _ (rdE X.K (andV (ev cf gl a) (evB cf gl .And (.cons a' r'))))
            exact vp_and ((okE a).1 S X _ G h.1) q
          | Or =>
            show PE X _ (rdE X.K (orV (ev cf gl a) (evB cf gl .Or (.cons a' r'))))
            exact vp_or ((okE a).1 S X _ G h.1) q
    · cases r with
      | nil =>
        simp only [chTB] at h
        split at h
        · simp only [tevB]
          cases o with
          | And => exact vw_and1 ((okE a).2 S X _ G h)
          | Or => exact vw_or1 ((okE a).2 S X _ G h)
        · cases h
      | cons a' r' =>
        cases es with
        | nil => simp [chTB] at h
        | cons e es =>
        cases es with
        | nil => simp [chTB] at h
        | cons e2 es =>
        · simp only [chTB, Bool.and_eq_true] at h
          have q := (okA (.cons a' r')).2.2 S X _ o pos G h.2
          cases o with
          | And =>
            show PW X _ (rdT X.K (andB (tev cf gl a) (tevB cf gl .And (.cons a' r'))))
            exact vw_and ((okE a).2 S X _ G h.1) q
          | Or =>
            show PW X _ (rdT X.K (orB (tev cf gl a) (tevB cf gl .Or (.cons a' r'))))
            exact vw_or ((okE a).2 S X _ G h.1) q
theorem okP : ∀ (o : Opt) (S : Ctx) (X : Cx) (e : Option Expr), Good S cf gl X → chP o S e = true → PO X e (rdP X.K (partD (evP cf gl o)))
  | .no, S, X, e, G, h => by
    simp only [chP] at h
    split at h
    · simp only [evP]
      exact vo_none
    · cases h
  | .yes a, S, X, e, G, h => by
    simp only [chP] at h
    split at h
    · simp only [evP]
      exact vo_some ((okE a).1 S X _ G h)
    · cases h
theorem okC : ∀ (o : Opt) (S : Ctx) (X : Cx) (es : List Expr), Good S cf gl X → chC o S es = true → PTs X es (rdT X.K (evC cf gl o))
  | .no, S, X, e, G, h => by
    simp only [chC] at h
    split at h
    · simp only [evC]
      exact vts_nil
    · cases h
  | .yes a, S, X, e, G, h => by
    simp only [chC] at h
    split at h
    · simp only [evC]
      exact vts_one ((okE a).2 S X _ G h)
    · cases h
theorem okL : ∀ (l : Lx) (S : Ctx) (X : Cx) (e : Expr), Good S cf gl X → chL l S e = true → PE X e (rdO X.K (evL cf gl l))
  | .lst xs, S, X, e, G, h => by
    simp only [chL] at h
    split at h
    · simp only [evL]
      exact vp_lst ((okA xs).1 S X _ G h).1
    · cases h
  | .bin o a b, S, X, e, G, h => by
    simp only [chL] at h
    split at h
    · simp only [Bool.and_eq_true, decide_eq_true_eq] at h
      obtain ⟨rfl, h1, h2⟩ := h
      simp only [evL]
      exact vp_opo (binO_ok o) ((okE a).1 S X _ G h1) ((okE b).1 S X _ G h2)
    · cases h
  | .sl a lo hi, S, X, e, G, h => by
    simp only [chL] at h
    split at h
    · simp only [Bool.and_eq_true] at h
      obtain ⟨h1, h2, h3⟩ := h
      simp only [evL]
      exact vp_slO ((okE a).1 S X _ G h1) (okP lo S X _ G h2) (okP hi S X _ G h3)
    · cases h
  | .rev a, S, X, e, G, h => by
    simp only [chL] at h
    split at h
    · simp only [Bool.and_eq_true, decide_eq_true_eq] at h
      obtain ⟨rfl, h1⟩ := h
      simp only [evL]
      exact vp_rev ((okE a).1 S X _ G h1)
    · cases h
  | .bo b xs, S, X, e, G, h => by
    simp only [chL] at h
    split at h
    · simp only [Bool.and_eq_true, decide_eq_true_eq] at h
      obtain ⟨rfl, h1, h2⟩ := h
      obtain ⟨f1, f2⟩ := G.fr h1
      obtain ⟨a1, a2⟩ := (okA xs).1 S X _ G h2
      simp only [evL]
      exact vp_bo b f1 f2 a1 a2 G.calm
    · cases h
  | .comp own t elt c it, S, X, e, G, h => by
    simp only [chL] at h
    split at h
    · simp only [Bool.and_eq_true, decide_eq_true_eq, Bool.not_eq_true'] at h
      rename_i el tg iter ifs scope pos
      obtain ⟨h0, h1, h2, h3, h4, h5, h6⟩ := h
      unfold ownB at h0
      simp only [Bool.and_eq_true, decide_eq_true_eq] at h0
      obtain ⟨e1, e2⟩ := h0
      have ok : BlkOk X.N X.env.scope scope (ownP S own) := by
        rw [G.N, G.sc]
        exact blkOk_by e2
      have q : PE X (.ListComp el [⟨tg, iter, ifs, 0⟩] scope pos) (rdO X.K (compD ((ownP S own).map (·.2)) t (evC cf gl c) (ev cf gl elt) (evI cf gl it))) :=
        vp_comp G.calm (by rw [G.N]; exact G.nd) (okI it S X tg iter G h5) ok (fun s H C cl fp => okG t (S.blk scope) _ tg (G.blk s H scope C cl fp) h2)
          (fun s H C cl fp => okC c (S.blk scope) _ ifs (G.blk s H scope C cl fp) h3) (fun s H C cl fp => (okE elt).1 (S.blk scope) _ el (G.blk s H scope C cl fp) h4) (noset h6) (by rw [e1]; exact h1)
      rw [e1] at q
      simp only [evL]
      exact q
    · cases h
  | .rg1 a, S, X, e, G, h => by
    simp only [chL] at h
    split at h
    · simp only [Bool.and_eq_true, decide_eq_true_eq] at h
      obtain ⟨rfl, h1, rfl, h2, h3, h4⟩ := h
      obtain ⟨f1, f2⟩ := G.fr h1
      obtain ⟨f3, f4⟩ := G.fr h2
      simp only [evL]
      exact vp_lrng1 G.calm f1 f2 f3 f4 ((okE a).1 S X _ G h3) h4
    · cases h
  | .rg2 a b, S, X, e, G, h => by
    simp only [chL] at h
    split at h
    · simp only [Bool.and_eq_true, decide_eq_true_eq] at h
      obtain ⟨rfl, h1, rfl, h2, h3, h4, h5, h6⟩ := h
      obtain ⟨f1, f2⟩ := G.fr h1
      obtain ⟨f3, f4⟩ := G.fr h2
      simp only [evL]
      exact vp_lrng2 G.calm f1 f2 f3 f4 ((okE a).1 S X _ G h3) ((okE b).1 S X _ G h4) h5 h6
    · cases h
  | .rvl a, S, X, e, G, h => by
    simp only [chL] at h
    split at h
    · simp only [Bool.and_eq_true, decide_eq_true_eq] at h
      obtain ⟨rfl, h1, rfl, h2, h3, h4⟩ := h
      obtain ⟨f1, f2⟩ := G.fr h1
      obtain ⟨f3, f4⟩ := G.fr h2
      simp only [evL]
      exact vp_lrev G.calm f1 f2 f3 f4 ((okE a).1 S X _ G h3) h4
    · cases h
  | .zpl a b, S, X, e, G, h => by
    simp only [chL] at h
    split at h
    · simp only [Bool.and_eq_true, decide_eq_true_eq] at h
      obtain ⟨rfl, h1, rfl, h2, h3, h4, h5, h6⟩ := h
      obtain ⟨f1, f2⟩ := G.fr h1
      obtain ⟨f3, f4⟩ := G.fr h2
      simp only [evL]
      exact vp_lzip G.calm f1 f2 f3 f4 ((okE a).1 S X _ G h3) ((okE b).1 S X _ G h4) h5 h6
    · cases h
  | .spl a b, S, X, e, G, h => by
    simp only [chL] at h
    split at h
    · simp only [Bool.and_eq_true, decide_eq_true_eq] at h
      obtain ⟨rfl, h1, h2, h3, h4, h5⟩ := h
      simp only [evL]
      exact vp_split ((okE a).1 S X _ G h1) ((okE b).1 S X _ G h4) (noSuper h2) h5 h3
    · cases h
  | .call f xs, S, X, e, G, h => by
    simp only [chL] at h
    split at h
    · rename_i x p es pos
      simp only [Bool.and_eq_true, decide_eq_true_eq] at h
      obtain ⟨h1, h2, h3⟩ := h
      obtain ⟨g1, g2⟩ := G.gl' h2
      obtain ⟨k, fa, fd, ps, F, hr, hm, hk, hb⟩ := G.fnsO f x h1
      obtain ⟨a1, a2⟩ := (okA xs).1 S X _ G h3
      simp only [evL]
      cases es with
      | nil =>
        cases xs with
        | nil => exact vp_callO0 F hr g1 hm hk hb g2
        | cons _ _ => simp only [chA] at h3; cases h3
      | cons e es => exact vp_callO F hr g1 hm hk hb a1 a2 g2
    · cases h
theorem okI : ∀ (i : Ix) (S : Ctx) (X : Cx) (tg e : Expr), Good S cf gl X → chI i S tg e = true → PI X tg e (rdI X.K (evI cf gl i))
  | .ex a, S, X, tg, e, G, h => by
    simp only [chI] at h
    simp only [evI]
    exact vi_ex ((okE a).1 S X _ G h)
  | .fn f xs, S, X, tg, e, G, h => by
    simp only [chI] at h
    split at h
    · simp only [Bool.and_eq_true, decide_eq_true_eq, Bool.or_eq_true, Bool.not_eq_true'] at h
      obtain ⟨rfl, h1, h2, h3, h4⟩ := h
      obtain ⟨f1, f2⟩ := G.fr h1
      obtain ⟨a1, a2⟩ := (okA xs).1 S X _ G h3
      simp only [evI]
      exact vi_fn f f1 f2 a1 a2 h2 fun z => h4.resolve_left (by rw [z]; simp)
    · cases h
end
end
end Vp

end

section
set_option Elab.async false
set_option linter.all false
set_option autoImplicit false
set_option maxRecDepth 100000
/-! Vp7: statements. -/
namespace Vp
open PySem PySem.Spec PyProof.Rows L2

/-! ### readings of statements -/
/-- the frame between two statements: H0, M0 the heap at the def's entry and what its callers keep to themselves -/
structure SI (K : PySem.W.Frag) (H0 : Hp) (M0 L A : List Addr) (σ : L2.St) (H : Hp) (E : Env') : Prop where
  er : ER K L A σ H E
  mem : ∀ a, a ∈ A ↔ a ∈ L ∨ a ∈ M0
  same : Same H0 H
  new : ∀ p ∈ L, H0 p = none
  m0 : ∀ a ∈ M0, H0 a ≠ none
/-- from one state to a later one: what values may reach stands, nothing is forgotten -/
def Evo (A : List Addr) (H : Hp) (A' : List Addr) (H' : Hp) : Prop := Same (mask A H) (mask A' H') ∧ ∀ a, H a ≠ none → H' a ≠ none
theorem Evo.refl {A : List Addr} {H : Hp} : Evo A H A H := ⟨Same.refl _, fun _ h => h⟩
theorem Evo.trans {A A' A'' : List Addr} {H H' H'' : Hp} (a : Evo A H A' H') (b : Evo A' H' A'' H'') : Evo A H A'' H'' := ⟨a.1.trans b.1, fun x h => b.2 x (a.2 x h)⟩
theorem Evo.same {A : List Addr} {H H' : Hp} (s : Same H H') : Evo A H A H' := ⟨mask_same s, fun a h z => h (s.free z)⟩

inductive Fl where
  | nx (E : Env') | rt (d : D) | bk (E : Env') | ct (E : Env') | ro (ds : List D)
def ContOk (K : PySem.W.Frag) (H0 : Hp) (M0 A : List Addr) (H : Hp) (D' : Ends) : Fl → Prop
  | .nx E => ∀ L' A' σ' H', SI K H0 M0 L' A' σ' H' E → Evo A H A' H' → D'.nx σ' H'
  | .bk E => ∀ L' A' σ' H', SI K H0 M0 L' A' σ' H' E → Evo A H A' H' → D'.bk σ' H'
  | .ct E => ∀ L' A' σ' H', SI K H0 M0 L' A' σ' H' E → Evo A H A' H' → D'.ct σ' H'
  | .rt d => ∀ v H', Same H0 H' → Rep K (mask M0 H') v d → D'.rt v H'
  | .ro ds => ∀ p vs H', Same H0 H' → H0 p = none → H' p = some (.lst vs) → RepA K (mask (p :: M0) H') vs ds → D'.rt (.ref p) H'
def rdS (K : PySem.W.Frag) (f : Env' → Option Fl) : TS := fun D' σ H => ∃ H0 M0 L A E fl, SI K H0 M0 L A σ H E ∧ f E = some fl ∧ ContOk K H0 M0 A H D' fl
section
variable {K : PySem.W.Frag} {H0 H H' : Hp} {M0 L A A' : List Addr} {σ : L2.St} {E : Env'} {D' : Ends} {fl : Fl}
theorem ContOk.evo (c : ContOk K H0 M0 A H D' fl) (e : Evo A H A' H') : ContOk K H0 M0 A' H' D' fl := by
  cases fl with
  | nx E => exact fun L1 A1 σ1 H1 si ev => c L1 A1 σ1 H1 si (e.trans ev)
  | bk E => exact fun L1 A1 σ1 H1 si ev => c L1 A1 σ1 H1 si (e.trans ev)
  | ct E => exact fun L1 A1 σ1 H1 si ev => c L1 A1 σ1 H1 si (e.trans ev)
  | rt d => exact c
  | ro ds => exact c
theorem SI.mono (s : SI K H0 M0 L A σ H E) (h : Same H H') : SI K H0 M0 L A σ H' E := ⟨s.er.mono h, s.mem, s.same.trans h, s.new, s.m0⟩
theorem SI.with (s : SI K H0 M0 L A σ H E) {σ' : L2.St} {E1 : Env'} (h : Same H H') (er : ER K L A σ' H' E1) : SI K H0 M0 L A σ' H' E1 := ⟨er, s.mem, s.same.trans h, s.new, s.m0⟩
/-- a value leaves the frame -/
theorem SI.out (s : SI K H0 M0 L A σ H E) {v : V} {d : D} (r : Rep K (mask A H) v d) : Rep K (mask M0 H) v d := r.mono (mask_sub (fun a ha => (s.mem a).mpr (.inr ha)) H)
def frz : List Nat → Env' → Env'
  | [], E => E
  | i :: r, E => match E[i]? with
    | some (.o ds) => frz r (E.set i (.f (.lst ds)))
    | _ => frz r E
theorem SI.frz : ∀ (is : List Nat) {L A : List Addr} {E : Env'}, SI K H0 M0 L A σ H E → ∃ L' A', SI K H0 M0 L' A' σ H (Vp.frz is E) ∧ Evo A H A' H
  | [], L, A, E, s => ⟨L, A, s, Evo.refl⟩
  | i :: r, L, A, E, s => by
    unfold Vp.frz
    split
    · rename_i ds e
      obtain ⟨p, hp, er⟩ := s.er.freeze e
      have hpm : p ∉ M0 := fun z => s.m0 p z (s.new p hp)
      have s1 : SI K H0 M0 (L.filter (· ≠ p)) (A.filter (· ≠ p)) σ H (E.set i (.f (.lst ds))) := by
        refine ⟨er, fun a => ?_, s.same, fun q hq => s.new q (List.mem_filter.mp hq).1, s.m0⟩
        simp only [List.mem_filter, s.mem a, ne_eq, decide_eq_true_eq]
        constructor
        · rintro ⟨h1 | h1, h2⟩
          · exact .inl ⟨h1, by simpa using h2⟩
          · exact .inr h1
        · rintro (⟨h1, h2⟩ | h1)
          · exact ⟨.inl h1, by simpa using h2⟩
          · exact ⟨.inr h1, fun z => hpm (z ▸ h1)⟩
      obtain ⟨L', A', s2, e2⟩ := SI.frz r s1
      refine ⟨L', A', s2, Evo.trans ⟨mask_sub (fun a ha => (List.mem_filter.mp ha).1) H, fun _ h => h⟩ e2⟩
    · exact SI.frz r s
/-- a new list becomes the frame's own -/
theorem SI.own (s : SI K H0 M0 L A σ H E) (h : Same H H') {i : Nat} {p : Addr} {vs : List V} {ds : List D} (hp : H p = none) (hp' : H' p = some (.lst vs)) (r : RepA K (mask (p :: A) H') vs ds) :
    SI K H0 M0 (p :: L) (p :: A) (σ.set i (some (.ref p))) H' (E.set i (.o ds)) ∧ Evo A H (p :: A) H' := by
  refine ⟨⟨s.er.setO h hp hp' r, fun a => ?_, s.same.trans h, fun q hq => ?_, s.m0⟩, mask_new h hp, fun a ha z => ha (h.free z)⟩
  · simp only [List.mem_cons, s.mem a, or_assoc]
  · rcases List.mem_cons.mp hq with rfl | hq
    · exact s.same.free hp
    · exact s.new q hq
/-- a list of the frame's own changes -/
theorem SI.upd (s : SI K H0 M0 L A σ H E) {i : Nat} {p : Addr} {vs : List V} {ds ds' : List D} (he : E[i]? = some (.o ds)) (hs : σ[i]? = some (some (.ref p))) (hp : p ∈ L) (r : RepA K (mask A H) vs ds') :
    SI K H0 M0 L A σ (L2.upd H p (.lst vs)) (E.set i (.o ds')) ∧ Evo A H A (L2.upd H p (.lst vs)) := by
  have e := s.er.upd he hs hp r
  refine ⟨⟨e, s.mem, fun a o h => ?_, s.new, s.m0⟩, by rw [mask_upd (s.er.sub p hp)]; exact Same.refl _, fun a ha => ?_⟩
  · have ne : a ≠ p := by
      rintro rfl
      rw [s.new a hp] at h
      cases h
    rw [upd_ne ne]
    exact s.same _ _ h
  · by_cases hap : a = p
    · subst hap
      rw [upd_same]
      simp
    · rw [upd_ne hap]
      exact ha
end

/-! ### the statements' trees -/
mutual
inductive Sm where
  | asg (t : Tg) (e : Ex)
  | asgO (i : Nat) (l : Lx)
  | par (i j : Nat) (a b : Ex)
  | par3 (i j l : Nat) (a b c : Ex)
  | aug (i : Nat) (o : BOp) (e : Ex)
  | app (i : Nat) (e : Ex)
  | seti (i : Nat) (j e : Ex)
  | drop (e : Ex)
  | ret (e : Ex)
  | retO (i : Nat)
  | retN
  | ife (c : Ex) (a b : Sms)
  | ifb (is : List Nat) (c : Ex) (a b : Sms)
  | whl (c : Ex) (b : Sms)
  | for_ (t : Tg) (it : Ix) (b : Sms)
  | pass | brk | cont | rais
inductive Sms where
  | nil | cons (fz : List Nat) (s : Sm) (r : Sms)
end
def seqF (f g : Env' → Option Fl) (E : Env') : Option Fl := (f E).bind fun
  | .nx E' => g E'
  | fl => some fl
def whileF (c : Env' → Option Bool) (b : Env' → Option Fl) : Nat → Env' → Option Fl
  | 0, _ => none
  | n + 1, E => (c E).bind fun t => if t = true then (b E).bind fun
      | .nx E' => whileF c b n E'
      | .ct E' => whileF c b n E'
      | .bk E' => some (.nx E')
      | .rt d => some (.rt d)
      | .ro ds => some (.ro ds)
    else some (.nx E)
def forF (t : Tg) (b : Env' → Option Fl) : List D → Env' → Option Fl
  | [], E => some (.nx E)
  | d :: r, E => (asgT t d E).bind fun E1 => (b E1).bind fun
      | .nx E' => forF t b r E'
      | .ct E' => forF t b r E'
      | .bk E' => some (.nx E')
      | .rt d => some (.rt d)
      | .ro ds => some (.ro ds)
def appF (i : Nat) (f : Env' → Option D) (E : Env') : Option Fl := match E[i]? with
  | some (.o ds) => (f E).bind fun d => if ds.length < lineN then some (.nx (E.set i (.o (ds ++ [d])))) else none
  | _ => none
def setiF (i : Nat) (fj fe : Env' → Option D) (E : Env') : Option Fl := match E[i]? with
  | some (.o ds) => (fe E).bind fun d => (fj E).bind fun
    | .int k => (ixN ds.length k).map fun j => .nx (E.set i (.o (ds.set j d)))
    | _ => none
  | _ => none
def augF (o : BOp) : D → D → Option D
  | .int i, .int j => match o with
    | .add => some (.int (i + j))
    | .sub => some (.int (i - j))
    | _ => none
  | .str x, .str y => match o with
    | .add => if x.length + y.length ≤ lineN then some (.str (x ++ y)) else none
    | _ => none
  | _, _ => none
/-- a list of the def's own leaves it -/
def retOF (i : Nat) (E : Env') : Option Fl := match E[i]? with
  | some (.o ds) => some (.ro ds)
  | _ => none
section
variable (cf : Nat → List D → Option D) (gl : Nat → Option D) (wn : Nat)
mutual
def ex1 : Sm → Env' → Option Fl
  | .asg t e => fun E => (ev cf gl e E).bind fun d => (asgT t d E).map .nx
  | .asgO i l => fun E => (evL cf gl l E).map fun ds => .nx (E.set i (.o ds))
  | .par i j a b => fun E => (ev cf gl a E).bind fun x => (ev cf gl b E).map fun y => .nx ((E.set i (.f x)).set j (.f y))
  | .par3 i j l a b c => fun E => (ev cf gl a E).bind fun x => (ev cf gl b E).bind fun y => (ev cf gl c E).map fun z => .nx (((E.set i (.f x)).set j (.f y)).set l (.f z))
  | .aug i o e => fun E => (look i E).bind fun x => (ev cf gl e E).bind fun y => (augF o x y).map fun z => .nx (E.set i (.f z))
  | .app i e => appF i (ev cf gl e)
  | .seti i j e => setiF i (ev cf gl j) (ev cf gl e)
  | .drop e => fun E => (ev cf gl e E).map fun _ => .nx E
  | .ret e => fun E => (ev cf gl e E).map .rt
  | .retO i => retOF i
  | .retN => fun _ => some (.rt .non)
  | .ife c a b => fun E => (tev cf gl c E).bind fun t => if t = true then exs a E else exs b E
  | .ifb is c a b => fun E => (tev cf gl c (frz is E)).bind fun t => if t = true then exs a E else exs b E
  | .whl c b => whileF (tev cf gl c) (exs b) wn
  | .for_ t it b => fun E => (evI cf gl it E).bind fun ds => forF t (exs b) ds E
  | .pass => fun E => some (.nx E)
  | .brk => fun E => some (.bk E)
  | .cont => fun E => some (.ct E)
  | .rais => fun _ => none
def exs : Sms → Env' → Option Fl
  | .nil => fun E => some (.nx E)
  | .cons fz s r => fun E => seqF (ex1 s) (exs r) (frz fz E)
end
end

/-! ### the check -/
def isComp : Expr → Bool
  | .ListComp _ _ _ _ => true
  | .SetComp _ _ _ _ => true
  | .DictComp _ _ _ _ _ => true
  | _ => false
/-- whether `y = [..]` is stored within the comprehension's frame -/
def swB (S : Ctx) (tg e : Expr) : Bool := match e with
  | .ListComp _ _ scope pos => (match tg with
    | .Name y py => (S.sc.names.lookup y == some .local) && ((py.line == pos.line) && !(scope.names.any fun (n, k) => n == y && (k == .local || k == .cell)))
    | _ => false)
  | _ => false
def lcOnly : Expr → Bool
  | .SetComp _ _ _ _ => false
  | .DictComp _ _ _ _ _ => false
  | _ => true
def stOk : Expr → Bool
  | .Name _ _ => true
  | .Tuple _ _ _ => true
  | _ => false
def noPar (tg e : Expr) : Bool := match tg, e with
  | .Tuple ts _ _, .Tuple vs _ _ => !(ts.length == 2 || ts.length == 3) || vs.length != ts.length
  | _, _ => true
def par2B (S : Ctx) (x : Str) (px : Pos) (y : Str) (py : Pos) (a b : Expr) : Bool :=
  (S.sc.names.lookup x == some .local) && ((S.sc.names.lookup y == some .local) && ((py.line == px.line) && (decide (x ≠ y) && (notStar a && (notStar b && (!([a, b].all (foldedForSure 8)) && !([a, b].all (constantsAlone 8))))))))
def par3B (S : Ctx) (x : Str) (px : Pos) (y : Str) (py : Pos) (z : Str) (pz : Pos) (a b c : Expr) : Bool :=
  (S.sc.names.lookup x == some .local) && ((S.sc.names.lookup y == some .local) && ((S.sc.names.lookup z == some .local) && ((py.line == px.line) && ((pz.line == px.line) && (decide (x ≠ y) && (decide (x ≠ z) && (decide (y ≠ z) &&
    (notStar a && (notStar b && (notStar c && (!([a, b, c].all (foldedForSure 8)) && !([a, b, c].all (constantsAlone 8))))))))))))) 
mutual
def ch1 : Sm → Ctx → Stmt → Bool
  | .asg t e, S, st => match st with
    | .Assign [tg] v _ => tgB t S tg && (chE e S v && (notStar tg && (noPar tg v && (lcOnly v && stOk tg))))
    | _ => false
  | .asgO i l, S, st => match st with
    | .Assign [.Name x p] v _ => tgB (.nm i) S (.Name x p) && (chL l S v && lcOnly v)
    | _ => false
  | .par i j a b, S, st => match st with
    | .Assign [.Tuple [.Name x px, .Name y py] _ _] (.Tuple [e1, e2] _ _) _ => decide (S.N[i]? = some x) && (decide (S.N[j]? = some y) && (decide (i ≠ j) && (par2B S x px y py e1 e2 && (chE a S e1 && chE b S e2))))
    | _ => false
  | .par3 i j l a b c, S, st => match st with
    | .Assign [.Tuple [.Name x px, .Name y py, .Name z pz] _ _] (.Tuple [e1, e2, e3] _ _) _ => decide (S.N[i]? = some x) && (decide (S.N[j]? = some y) && (decide (S.N[l]? = some z) && (decide (i ≠ j) && (decide (i ≠ l) && (decide (j ≠ l) && (par3B S x px y py z pz e1 e2 e3 && (chE a S e1 && (chE b S e2 && chE c S e3))))))))
    | _ => false
  | .aug i o e, S, st => match st with
    | .AugAssign (.Name x _) op v _ => decide (op = o.op) && (decide (o = .add ∨ o = .sub) && (decide (S.N[i]? = some x) && (locB S x && chE e S v)))
    | _ => false
  | .app i e, S, st => match st with
    | .Expr (.Call (.Attribute (.Name x _) m apos) [v] [] cpos) _ => decide (m = "append") && (nmB S i x && (chE e S v && (notStar v && (apos.endLine == cpos.line))))
    | _ => false
  | .seti i j e, S, st => match st with
    | .Assign [.Subscript (.Name x _) k _] v _ => nmB S i x && (chE j S k && (chE e S v && (plainB k && !isComp v)))
    | _ => false
  | .drop e, S, st => match st with
    | .Expr v _ => chE e S v && !isComp v
    | _ => false
  | .ret e, S, st => match st with
    | .Return (some v) _ => chE e S v
    | _ => false
  | .retO i, S, st => match st with
    | .Return (some (.Name x _)) _ => nmB S i x
    | _ => false
  | .retN, _, st => match st with
    | .Return none _ => true
    | _ => false
  | .ife c a b, S, st => match st with
    | .If t x y _ => chT c S t && (chs a S x && chs b S y)
    | _ => false
  | .ifb _ c a b, S, st => match st with
    | .If t x y _ => chT c S t && (chs a S x && chs b S y)
    | _ => false
  | .whl c b, S, st => match st with
    | .While t x [] _ => chT c S t && chs b S x
    | _ => false
  | .for_ t it b, S, st => match st with
    | .For tg iter x [] _ => tgB t S tg && (chI it S tg iter && (chs b S x && !isSet iter))
    | _ => false
  | .pass, _, st => match st with
    | .Pass _ => true
    | _ => false
  | .brk, _, st => match st with
    | .Break _ => true
    | _ => false
  | .cont, _, st => match st with
    | .Continue _ => true
    | _ => false
  | .rais, _, _ => true
def chs : Sms → Ctx → List Stmt → Bool
  | .nil, _, st => match st with
    | [] => true
    | _ :: _ => false
  | .cons _ s r, S, st => match st with
    | a :: b => ch1 s S a && chs r S b
    | [] => false
end
end Vp

end

section
set_option Elab.async false
set_option linter.all false
set_option autoImplicit false
set_option maxRecDepth 100000
/-! Vp8: statements that the check lets through do what their trees say. -/
namespace Vp
open PySem PySem.Spec PyProof.Rows L2

structure GoodS (S : Ctx) (cf : Nat → List D → Option D) (gl : Nat → Option D) (X : Cx) : Prop extends Good S cf gl X where
  kind : S.sc.kind = .function
  nx : X.xe = fun _ _ => False
section
variable {S : Ctx} {cf : Nat → List D → Option D} {gl : Nat → Option D} {X : Cx}
theorem GoodS.own (G : GoodS S cf gl X) : PassesOwn (model X.prog X.w) X.A X.env X.xe := by
  rw [G.nx]
  exact PassesOwn.never
theorem GoodS.block (G : GoodS S cf gl X) : X.env.blockKind = .function := by
  unfold Env.blockKind
  rw [G.sc, G.kind]
  rfl
/-! ### which store a comprehension takes -/
theorem sw_no {e : Expr} {t : Option Expr} {l : Nat} {env : Env} (h : isComp e = false) : swapsWith e t l env = pure false := by
  cases e <;> first | rfl | cases h
theorem sw_lc (G : GoodS S cf gl X) {elt : Expr} {gs : List Comprehension} {scope : Scope} {pos : Pos} {tg : Expr} {l : Nat} : swapsWith (.ListComp elt gs scope pos) (some tg) l X.env = pure (swB S tg (.ListComp elt gs scope pos)) := by
  have hb := G.block
  have hs := G.sc
  cases tg <;> try rfl
  rename_i y py
  unfold swapsWith swB
  have ky : X.env.kindOf y = S.sc.names.lookup y := by
    show X.env.scope.names.lookup y = _
    rw [hs]
  simp only [hb, ky, Expr.pos]
  cases (S.sc.names.lookup y == some NameKind.local) <;> cases (py.line == pos.line) <;> cases (scope.names.any fun (n, k) => n == y && (k == .local || k == .cell)) <;> rfl
theorem sws_no (G : GoodS S cf gl X) {e tg : Expr} {l : Nat} (h1 : lcOnly e = true) (h : swB S tg e = false) : swapsWith e (some tg) l X.env = pure false := by
  by_cases hc : isComp e = false
  · exact sw_no hc
  · cases e <;> first | exact absurd rfl hc | (cases h1; done) | (rw [sw_lc G, h])
theorem swp_none {tg e : Expr} {env : Env} (h1 : stOk tg = true) (h : noPar tg e = true) : swappedStores [tg] e env = pure none := by
  cases tg <;> try (cases h1; done)
  · rfl
  · rename_i ts k p
    cases e <;> try rfl
    rename_i vs k' p'
    simp only [noPar, Bool.or_eq_true, Bool.not_eq_true'] at h
    unfold swappedStores
    have hc : (!(ts.length == 2 || ts.length == 3) || vs.length != ts.length || env.blockKind != .function) = true := by
      rw [Bool.or_eq_true, Bool.or_eq_true]
      exact .inl (by simpa using h)
    simp only [hc]
    rfl
theorem asg1 {tg : Expr} {env : Env} (h : notStar tg = true) : (assignEach [tg] env).map (·.2) = [assign tg env] := by
  rw [asg_cons h]
  rfl
/-- y = a new list -/
theorem ps_storeL (G : GoodS S cf gl X) {i : Nat} {l : Lx} {v : Expr} {y : Str} {py pos : Pos} (ht : tgB (.nm i) S (.Name y py) = true) (hl : chL l S v = true) (hc : lcOnly v = true) : PS X (.Assign [.Name y py] v pos) (tAsg (rdO X.K (evL cf gl l)) (gName i)) := by
  simp only [tgB, Bool.and_eq_true, decide_eq_true_eq] at ht
  obtain ⟨g1, g2⟩ := G.lc ht.2
  have hi : X.N[i]? = some y := by rw [G.N]; exact ht.1
  have nd : X.N.Nodup := by rw [G.N]; exact G.nd
  by_cases hs : swB S (.Name y py) v = false
  · exact ps_set nd hi g1 (okL cf gl l S X v G.toGood hl) (sws_no G hc hs) g2
  · have hs' : swB S (.Name y py) v = true := by simpa using hs
    clear hs
    have hs := hs'
    clear hs'
    cases v <;> try (cases hs; done)
    rename_i elt gens scope vpos
    cases l with
    | comp own t el c it =>
      have hsw : swapsWith (.ListComp elt gens scope vpos) (some (.Name y py)) pos.line X.env = pure true := by rw [sw_lc G, hs]
      have hy : X.env.scope.names.lookup y = some .local := by
        rw [G.sc]
        simp only [swB, Bool.and_eq_true] at hs
        exact eq_of_beq hs.1
      simp only [chL] at hl
      split at hl
      · rename_i _ el' tg iter ifs scope' pos' heq
        cases heq
        simp only [Bool.and_eq_true, decide_eq_true_eq, Bool.not_eq_true'] at hl
        obtain ⟨h0, h1, h2, h3, h4, h5, h6⟩ := hl
        unfold ownB at h0
        simp only [Bool.and_eq_true, decide_eq_true_eq] at h0
        obtain ⟨e1, e2⟩ := h0
        have ok : BlkOk X.N X.env.scope scope (ownP S own) := by
          rw [G.N, G.sc]
          exact blkOk_by e2
        refine ps_imp (ps_setLc (own := ownP S own) (te := rdE X.K (ev cf gl el)) (tt := rdT X.K (evC cf gl c)) (g := rdG X.K t) (wi := rdI X.K (evI cf gl it)) G.calm nd hi hy hsw (okI cf gl it S X tg iter G.toGood h5) ok (fun s H C cl fp => okG t (S.blk scope) _ tg (G.toGood.blk s H scope C cl fp) h2)
          (fun s H C cl fp => okC cf gl c (S.blk scope) _ ifs (G.toGood.blk s H scope C cl fp) h3) (fun s H C cl fp => (okE cf gl el).1 (S.blk scope) _ _ (G.toGood.blk s H scope C cl fp) h4) (noset h6)) ?_
        intro D' σ H w
        rw [e1]
        simp only [evL] at w
        exact rd_lc h1 σ H _ w
      · cases hl
    | _ => simp only [chL] at hl; cases hl
theorem foldr_none {α : Type} {b : Bool} {x y : Sem α} (h : b = false) : (if b = true then x else y) = y := by rw [if_neg (by rw [h]; decide)]
theorem lk {x : Str} (G : GoodS S cf gl X) (h : (S.sc.names.lookup x == some .local) = true) : X.env.kindOf x = some .local := by
  show X.env.scope.names.lookup x = _
  rw [G.sc]
  exact eq_of_beq h
theorem dup2 {x y : Str} (h : x ≠ y) : [x, y].eraseDups = [x, y] := by
  rw [List.eraseDups_cons, List.filter_cons]
  have : (!(y == x)) = true := by simpa using fun z => h z.symm
  rw [if_pos this]
  rw [List.filter_nil, List.eraseDups_cons]
  rfl
theorem swp2 (G : GoodS S cf gl X) {x y : Str} {px py pt pt2 : Pos} {kt k2 : Nat} {a b : Expr} (h : par2B S x px y py a b = true) :
    swappedStores [.Tuple [.Name x px, .Name y py] kt pt] (.Tuple [a, b] k2 pt2) X.env = pure (some [x, y]) := by
  unfold par2B at h
  simp only [Bool.and_eq_true, decide_eq_true_eq, Bool.not_eq_true'] at h
  obtain ⟨hx, hy, hl, hne, ha, hb, hf, hc⟩ := h
  have kx := lk G hx
  have ky := lk G hy
  have hl' : py.line = px.line := eq_of_beq hl
  unfold swappedStores
  simp only [G.block, List.length_cons, List.length_nil, List.filterMap_cons, List.filterMap_nil, kx, ky, List.head?_cons, Option.map_some, Option.getD_some, Expr.pos, hl', beq_self_eq_true, Bool.and_self, if_true, dup2 hne, hf, hc]
  cases a <;> try (cases ha; done)
  all_goals cases b <;> first | (cases hb; done) | rfl
theorem dup3 {x y z : Str} (h : x ≠ y) (h2 : x ≠ z) (h3 : y ≠ z) : [x, y, z].eraseDups = [x, y, z] := by
  rw [List.eraseDups_cons, List.filter_cons]
  have e1 : (!(y == x)) = true := by simpa using fun q => h q.symm
  have e2 : (!(z == x)) = true := by simpa using fun q => h2 q.symm
  rw [if_pos e1, List.filter_cons, if_pos e2, List.filter_nil, dup2 h3]
theorem swp3 (G : GoodS S cf gl X) {x y z : Str} {px py pz pt pt2 : Pos} {kt k2 : Nat} {a b c : Expr} (h : par3B S x px y py z pz a b c = true) :
    swappedStores [.Tuple [.Name x px, .Name y py, .Name z pz] kt pt] (.Tuple [a, b, c] k2 pt2) X.env = pure (some [x, y, z]) := by
  unfold par3B at h
  simp only [Bool.and_eq_true, decide_eq_true_eq, Bool.not_eq_true'] at h
  obtain ⟨hx, hy, hz, hl, hl2, h1, h2, h3, ha, hb, hc, hf, hg⟩ := h
  have kx := lk G hx
  have ky := lk G hy
  have kz := lk G hz
  have hl' : py.line = px.line := eq_of_beq hl
  have hl2' : pz.line = px.line := eq_of_beq hl2
  unfold swappedStores
  simp only [G.block, List.length_cons, List.length_nil, List.filterMap_cons, List.filterMap_nil, kx, ky, kz, List.head?_cons, Option.map_some, Option.getD_some, Expr.pos, hl', hl2', beq_self_eq_true, Bool.and_self, if_true, dup3 h1 h2 h3, hf, hg]
  have e : ([a, b, c].any fun | .Starred .. => true | _ => false) = false := by
    have k : ∀ e : Expr, notStar e = true → (match e with | .Starred .. => true | _ => false) = false := fun e he => by
      cases e <;> first | rfl | cases he
    simp only [List.any_cons, List.any_nil, Bool.or_false, Bool.or_eq_false_iff]
    exact ⟨k a ha, k b hb, k c hc⟩
  rw [if_neg (by decide), if_neg (by rw [Bool.not_eq_true]; exact e)]
  rfl
theorem iop_ok {o : BOp} (h : o = .add ∨ o = .sub) : OpR X (inplaceOp o.op) (rD2 X.K (augF o)) := by
  intro pins s σ H x y v u Q I rx ry h'
  obtain ⟨A, a, b, d, hd, ra, rb, e, k⟩ := h'
  rcases h with rfl | rfl
  · cases ra <;> cases rb <;> simp only [augF] at e <;> try (cases e; done)
    · cases e
      exact iop_add pins s σ H _ _ v u Q I rx ry ⟨_, _, rfl, rfl, k.now (.int _)⟩
    · obtain ⟨h1, rfl⟩ := if_some e
      exact iop_add_str pins s σ H _ _ v u Q I rx ry ⟨_, _, rfl, rfl, le_line h1, k.now (.str _)⟩
  · cases ra <;> cases rb <;> simp only [augF] at e <;> try (cases e; done)
    cases e
    exact iop_sub pins s σ H _ _ v u Q I rx ry ⟨_, _, rfl, rfl, k.now (.int _)⟩

/-! ### loops -/
theorem rd_while {K : PySem.W.Frag} {c : Env' → Option Bool} {b : Env' → Option Fl} (n : Nat) : ∀ D' σ H, rdS K (whileF c b n) D' σ H → tWhile (rdT K c) (rdS K b) D' σ H := by
  rintro D' σ H ⟨H0, M0, L, A, E, fl, si, h, k⟩
  refine ⟨fun m σ' H' => ∃ L' A' E', SI K H0 M0 L' A' σ' H' E' ∧ Evo A H A' H' ∧ whileF c b m E' = some fl, ⟨n, L, A, E, si, Evo.refl, h⟩, ?_⟩
  rintro m σ1 H1 ⟨L1, A1, E1, s1, e1, w1⟩
  cases m with
  | zero => cases w1
  | succ m =>
    simp only [whileF] at w1
    obtain ⟨t, ht, w1⟩ := Option.bind_eq_some_iff.mp w1
    refine ⟨L1, A1, E1, t, s1.er, ht, fun H2 s2 => ?_⟩
    have si2 := s1.mono s2
    have ev2 : Evo A H A1 H2 := e1.trans (Evo.same s2)
    cases t with
    | false =>
      simp only [Bool.false_eq_true, if_false] at w1 ⊢
      cases w1
      exact k L1 A1 σ1 H2 si2 ev2
    | true =>
      simp only [if_true] at w1 ⊢
      obtain ⟨f, hf, w1⟩ := Option.bind_eq_some_iff.mp w1
      refine ⟨fun σ' H' => ∃ L' A' E', SI K H0 M0 L' A' σ' H' E' ∧ Evo A H A' H' ∧ whileF c b m E' = some fl, fun σ' H' z => ⟨m, Nat.lt_succ_self _, z⟩, H0, M0, L1, A1, E1, f, si2, hf, ?_⟩
      cases f with
      | nx E' => exact fun L' A' σ' H' si' ev' => ⟨L', A', E', si', ev2.trans ev', w1⟩
      | ct E' => exact fun L' A' σ' H' si' ev' => ⟨L', A', E', si', ev2.trans ev', w1⟩
      | bk E' =>
        cases w1
        exact fun L' A' σ' H' si' ev' => k L' A' σ' H' si' (ev2.trans ev')
      | rt d =>
        cases w1
        exact k
      | ro d =>
        cases w1
        exact k
theorem rd_for {K : PySem.W.Frag} {t : Tg} {fi : Env' → Option (List D)} {b : Env' → Option Fl} : ∀ D' σ H, rdS K (fun E => (fi E).bind fun ds => forF t b ds E) D' σ H → tFor (rdI K fi) (rdG K t) (rdS K b) D' σ H := by
  rintro D' σ H ⟨H0, M0, L, A, E, fl, si, h, k⟩
  obtain ⟨ds, hd, h⟩ := Option.bind_eq_some_iff.mp h
  refine ⟨L, A, E, ds, si.er, hd, fun J H1 s1 wk => ?_⟩
  have ev1 : Evo A H A H1 := Evo.same s1
  refine ⟨fun i m σ' H' => m = ds.length - i ∧ i ≤ ds.length ∧ ∃ L' A' E', SI K H0 M0 L' A' σ' H' E' ∧ Evo A H1 A' H' ∧ forF t b (ds.drop i) E' = some fl, ⟨ds.length, by omega, Nat.zero_le _, L, A, E, si.mono s1, Evo.refl, h⟩, ?_⟩
  rintro i m σ2 H2 ⟨rfl, hi, L2', A2, E2, s2, e2, w2⟩
  obtain ⟨g1, g2⟩ := wk i A2 H2 e2.1 s2.er.dom
  by_cases hlt : i < ds.length
  · obtain ⟨go, yl⟩ := g1 _ (List.getElem?_eq_getElem hlt)
    rw [List.drop_eq_getElem_cons hlt] at w2
    simp only [forF] at w2
    obtain ⟨E3, h3, w2⟩ := Option.bind_eq_some_iff.mp w2
    obtain ⟨f, hf, w2⟩ := Option.bind_eq_some_iff.mp w2
    refine .inr ⟨go, fun σ' H' => i + 1 ≤ ds.length ∧ ∃ L' A' E', SI K H0 M0 L' A' σ' H' E' ∧ Evo A H1 A' H' ∧ forF t b (ds.drop (i + 1)) E' = some fl, fun σ' H' z => ⟨ds.length - (i + 1), by omega, rfl, z⟩, fun x H3 hy => ?_⟩
    obtain ⟨s3, rx⟩ := yl x H3 hy
    refine ⟨L2', A2, E2, _, E3, s2.er.mono s3, rx, h3, fun σ3 er3 _ => ?_⟩
    have si3 : SI K H0 M0 L2' A2 σ3 H3 E3 := s2.with s3 er3
    have ev3 : Evo A H1 A2 H3 := e2.trans (Evo.same s3)
    refine ⟨H0, M0, L2', A2, E3, f, si3, hf, ?_⟩
    cases f with
    | nx E' => exact fun L' A' σ' H' si' ev' => ⟨by omega, L', A', E', si', ev3.trans ev', w2⟩
    | ct E' => exact fun L' A' σ' H' si' ev' => ⟨by omega, L', A', E', si', ev3.trans ev', w2⟩
    | bk E' =>
      cases w2
      exact fun L' A' σ' H' si' ev' => k L' A' σ' H' si' ((ev1.trans ev3).trans ev')
    | rt d =>
      cases w2
      exact k
    | ro d =>
      cases w2
      exact k
  · have e : i = ds.length := by omega
    subst e
    rw [List.drop_length] at w2
    simp only [forF] at w2
    cases w2
    exact .inl ⟨g2 (Nat.le_refl _), k L2' A2 σ2 H2 s2 (ev1.trans e2)⟩
theorem rd_seq {K : PySem.W.Frag} {f g : Env' → Option Fl} {fz : List Nat} : ∀ D' σ H, rdS K (fun E => seqF f g (frz fz E)) D' σ H → tSeq (rdS K f) (rdS K g) D' σ H := by
  rintro D' σ H ⟨H0, M0, L, A, E, fl, si, h, k⟩
  obtain ⟨L1, A1, s1, e1⟩ := si.frz fz
  obtain ⟨f1, h1, h⟩ := Option.bind_eq_some_iff.mp h
  refine ⟨H0, M0, L1, A1, _, f1, s1, h1, ?_⟩
  cases f1 with
  | nx E' => exact fun L' A' σ' H' si' ev' => ⟨H0, M0, L', A', E', fl, si', h, k.evo (e1.trans ev')⟩
  | bk E' => cases h; exact fun L' A' σ' H' si' ev' => k L' A' σ' H' si' (e1.trans ev')
  | ct E' => cases h; exact fun L' A' σ' H' si' ev' => k L' A' σ' H' si' (e1.trans ev')
  | rt d => cases h; exact k
  | ro d => cases h; exact k

theorem sub_assign {o i : Expr} {pos : Pos} {env : Env} (h : plainB i = true) : ∀ v, assign (.Subscript o i pos) env v = (do
      let ov ← holding [v] (eval o env)
      let iv ← holding [v, ov] (eval i env)
      standAt pos
      holding [v, ov, iv] (setItem ov iv v)
      release [v, ov, iv] []) := by
  intro v
  cases i <;> first | rfl | cases h
/-! ### the theorem -/
variable (cf gl) (wn : Nat)
set_option maxHeartbeats 4000000 in
mutual
theorem ok1 : ∀ (s : Sm) (S : Ctx) (X : Cx) (st : Stmt), GoodS S cf gl X → ch1 s S st = true → PS X st (rdS X.K (ex1 cf gl wn s))
  | .asg t e, S, X, st, G, h => by
    simp only [ch1] at h
    split at h
    · rename_i tg v pos
      simp only [Bool.and_eq_true] at h
      obtain ⟨h1, h2, h3, h4, h5, h6⟩ := h
      simp only [ex1]
      by_cases hs : swB S tg v = false
      · refine ps_imp (ps_asg ((okE cf gl e).1 S X v G.toGood h2) (okG t S X tg G.toGood h1) (by show swapsWith v (some tg) _ _ = _; exact sws_no G h5 hs) (swp_none h6 h4) (asg1 h3)) ?_
        rintro D' σ H ⟨H0, M0, L, A, E, fl, si, h, k⟩
        obtain ⟨d, h1, h⟩ := Option.bind_eq_some_iff.mp h
        obtain ⟨E', h2, rfl⟩ := Option.map_eq_some_iff.mp h
        exact ⟨L, A, E, d, si.er, h1, fun v H1 s1 r1 => ⟨L, A, E, d, E', si.er.mono s1, r1, h2, fun σ' er' _ => k L A σ' H1 (si.with s1 er') (Evo.same s1)⟩⟩
      · have hs' : swB S tg v = true := by simpa using hs
        cases v <;> try (cases hs'; done)
        cases tg <;> try (cases hs'; done)
        cases e <;> try (simp only [chE, nonB, blB, intB, strB, gloB, nmE, lenOB] at h2; cases h2; done)
        rename_i l
        cases t with
        | tp ts => simp only [tgB] at h1; cases h1
        | nm i =>
          refine ps_imp (ps_storeL (l := l) G h1 (by simpa only [chE] using h2) h5) ?_
          rintro D' σ H ⟨H0, M0, L, A, E, fl, si, h, k⟩
          obtain ⟨d, h1, h⟩ := Option.bind_eq_some_iff.mp h
          obtain ⟨E', h2, rfl⟩ := Option.map_eq_some_iff.mp h
          simp only [ev] at h1
          obtain ⟨ds, h3, rfl⟩ := Option.map_eq_some_iff.mp h1
          simp only [asgT] at h2
          cases h2
          refine ⟨L, A, E, ds, si.er, h3, fun p vs H1 s1 hp hp' r => ?_⟩
          have hd := (si.er.mono s1).dom
          have hpA : p ∉ A := fun z => si.er.dom p z hp
          exact k L A _ H1 (si.with s1 ((si.er.mono s1).set (.lst (mask_some.mpr ⟨hpA, hp'⟩) (r.mono (mask_sub (fun a ha => List.mem_cons_of_mem _ ha) H1))))) (Evo.same s1)
    · cases h
  | .asgO i l, S, X, st, G, h => by
    simp only [ch1] at h
    split at h
    · simp only [Bool.and_eq_true] at h
      obtain ⟨h1, h2, h3⟩ := h
      simp only [ex1]
      refine ps_imp (ps_storeL G h1 h2 h3) ?_
      rintro D' σ H ⟨H0, M0, L, A, E, fl, si, h, k⟩
      obtain ⟨ds, h1, rfl⟩ := Option.map_eq_some_iff.mp h
      refine ⟨L, A, E, ds, si.er, h1, fun p vs H1 s1 hp hp' r => ?_⟩
      obtain ⟨si', ev'⟩ := si.own s1 (i := i) hp hp' r
      exact k _ _ _ _ si' ev'
    · cases h
  | .par i j a b, S, X, st, G, h => by
    simp only [ch1] at h
    split at h
    · simp only [Bool.and_eq_true, decide_eq_true_eq] at h
      obtain ⟨h1, h2, h3, h4, h5, h6⟩ := h
      have h4' := h4
      unfold par2B at h4'
      simp only [Bool.and_eq_true, decide_eq_true_eq, Bool.not_eq_true'] at h4'
      obtain ⟨hx, hy, _, _, ha, hb, _, _⟩ := h4'
      simp only [ex1]
      refine ps_imp (ps_par (i := i) (j := j) G.calm (by rw [G.N]; exact G.nd) (by rw [G.N]; exact h1) (by rw [G.N]; exact h2) h3 (lk G hx) (lk G hy)
        (va_cons ((okE cf gl a).1 S X _ G.toGood h5) (va_cons ((okE cf gl b).1 S X _ G.toGood h6) va_nil (star_cons hb)) (star_cons ha)) (swp2 G h4) rfl) ?_
      rintro D' σ H ⟨H0, M0, L, A, E, fl, si, h, k⟩
      obtain ⟨x, h1, h⟩ := Option.bind_eq_some_iff.mp h
      obtain ⟨y, h2, rfl⟩ := Option.map_eq_some_iff.mp h
      refine ⟨L, A, E, [x, y], si.er, by simp [consA, h1, h2], fun vs H1 s1 r1 => ?_⟩
      obtain ⟨v, w, rfl, rv, rw'⟩ := r1.inv2
      exact ⟨v, w, rfl, k L A _ H1 (si.with s1 (((si.er.mono s1).set rv).set rw')) (Evo.same s1)⟩
    · cases h
  | .par3 i j l a b c, S, X, st, G, h => by
    simp only [ch1] at h
    split at h
    · simp only [Bool.and_eq_true, decide_eq_true_eq] at h
      obtain ⟨h1, h2, h3, n1, n2, n3, h4, h5, h6, h7⟩ := h
      have h4' := h4
      unfold par3B at h4'
      simp only [Bool.and_eq_true, decide_eq_true_eq, Bool.not_eq_true'] at h4'
      obtain ⟨hx, hy, hz, _, _, _, _, _, ha, hb, hc, _, _⟩ := h4'
      simp only [ex1]
      refine ps_imp (ps_par3 (i := i) (j := j) (l := l) G.calm (by rw [G.N]; exact G.nd) (by rw [G.N]; exact h1) (by rw [G.N]; exact h2) (by rw [G.N]; exact h3) n1 n2 n3 (lk G hx) (lk G hy) (lk G hz)
        (va_cons ((okE cf gl a).1 S X _ G.toGood h5) (va_cons ((okE cf gl b).1 S X _ G.toGood h6) (va_cons ((okE cf gl c).1 S X _ G.toGood h7) va_nil (star_cons hc)) (star_cons hb)) (star_cons ha)) (swp3 G h4) rfl) ?_
      rintro D' σ H ⟨H0, M0, L, A, E, fl, si, h, k⟩
      obtain ⟨x, h1, h⟩ := Option.bind_eq_some_iff.mp h
      obtain ⟨y, h2, h⟩ := Option.bind_eq_some_iff.mp h
      obtain ⟨z, h3, rfl⟩ := Option.map_eq_some_iff.mp h
      refine ⟨L, A, E, [x, y, z], si.er, by simp [consA, h1, h2, h3], fun vs H1 s1 r1 => ?_⟩
      cases r1 with
      | cons ru r1 =>
        obtain ⟨v, w, rfl, rv, rw'⟩ := r1.inv2
        exact ⟨_, v, w, rfl, k L A _ H1 (si.with s1 ((((si.er.mono s1).set ru).set rv).set rw')) (Evo.same s1)⟩
    · cases h
  | .aug i o e, S, X, st, G, h => by
    simp only [ch1] at h
    split at h
    · simp only [Bool.and_eq_true, decide_eq_true_eq] at h
      obtain ⟨rfl, h1, h2, h3, h4⟩ := h
      obtain ⟨g1, g2⟩ := G.lc h3
      simp only [ex1]
      refine ps_imp (ps_aug (i := i) (ti := rD2 X.K (augF o)) (by rw [G.N]; exact G.nd) (by rw [G.N]; exact h2) g1 ((okE cf gl e).1 S X _ G.toGood h4) (iop_ok h1) g2) ?_
      rintro D' σ H ⟨H0, M0, L, A, E, fl, si, h, k⟩
      obtain ⟨x, hx, h⟩ := Option.bind_eq_some_iff.mp h
      obtain ⟨y, hy, h⟩ := Option.bind_eq_some_iff.mp h
      obtain ⟨z, hz, rfl⟩ := Option.map_eq_some_iff.mp h
      unfold look at hx
      split at hx
      · rename_i d' e'
        cases hx
        obtain ⟨v, f1, f2⟩ := si.er.val i x e'
        refine ⟨v, f1, L, A, E, y, si.er, hy, fun w H1 s1 r1 => ⟨A, x, y, z, (si.er.mono s1).dom, f2.mono (mask_same s1), r1, hz, fun u H2 s2 r2 => ?_⟩⟩
        exact k L A _ H2 (si.with (s1.trans s2) (((si.er.mono s1).mono s2).set r2)) (Evo.same (s1.trans s2))
      · cases hx
    · cases h
  | .app i e, S, X, st, G, h => by
    simp only [ch1] at h
    split at h
    · simp only [Bool.and_eq_true, decide_eq_true_eq] at h
      obtain ⟨rfl, h1, h2, h3, h4⟩ := h
      obtain ⟨g1, g2, g3, g4⟩ := G.nm h1
      simp only [ex1]
      refine ps_imp (ps_expr (pe_bm PySem.F.plainAttrs_list PySem.F.slot_list_append PySem.F.type_list_append mt_append (pe_var g1 g2 g3 g4) (va_cons ((okE cf gl e).1 S X _ G.toGood h2) va_nil (star_cons h3)) rfl (by rw [star_cons h3]; rfl) h4 (star_cons h3) rfl) rfl) ?_
      rintro D' σ H ⟨H0, M0, L, A, E, fl, si, h, k⟩
      unfold appF at h
      split at h
      · rename_i ds e'
        obtain ⟨d, h5, h6⟩ := Option.bind_eq_some_iff.mp h
        obtain ⟨h7, rfl⟩ := if_some h6
        obtain ⟨p, vs, f1, f2, f3, f4⟩ := si.er.own i ds e'
        refine ⟨.ref p, f1, .inl ⟨rfl, vs, .inl (.inl f3)⟩, L, A, E, [d], si.er, by simp [consA, h5], fun ws H1 s1 r1 => ?_⟩
        obtain ⟨v, rfl, rv⟩ := r1.inv1
        refine ⟨p, vs, v, rfl, rfl, s1 _ _ f3, by rw [f4.length, sizeLine_eq]; exact h7, ?_⟩
        obtain ⟨si', ev'⟩ := (si.mono s1).upd e' f1 f2 ((f4.mono (mask_same s1)).append (.one rv))
        exact k _ _ _ _ si' ((Evo.same s1).trans ev')
      · cases h
    · cases h
  | .seti i j e, S, X, st, G, h => by
    simp only [ch1] at h
    split at h
    · simp only [Bool.and_eq_true, Bool.not_eq_true'] at h
      obtain ⟨h1, h2, h3, h0, h4⟩ := h
      obtain ⟨g1, g2, g3, g4⟩ := G.nm h1
      simp only [ex1]
      refine ps_imp (ps_asg ((okE cf gl e).1 S X _ G.toGood h3) (pg_sub (pe_var g1 g2 g3 g4) ((okE cf gl j).1 S X _ G.toGood h2) set_list (sub_assign h0)) (by unfold swapsWithSole; exact sw_no h4) rfl rfl) ?_
      rintro D' σ H ⟨H0, M0, L, A, E, fl, si, h, k⟩
      unfold setiF at h
      split at h
      · rename_i ds e'
        obtain ⟨d, h5, h6⟩ := Option.bind_eq_some_iff.mp h
        obtain ⟨y, h7, h8⟩ := Option.bind_eq_some_iff.mp h6
        obtain ⟨p, vs, f1, f2, f3, f4⟩ := si.er.own i ds e'
        refine ⟨L, A, E, d, si.er, h5, fun v H1 s1 r1 => ⟨.ref p, f1, L, A, E, y, si.er.mono s1, h7, fun w H2 s2 r2 => ?_⟩⟩
        cases y with
        | int n =>
          obtain ⟨m, h9, rfl⟩ := Option.map_eq_some_iff.mp h8
          cases r2
          have s12 := s1.trans s2
          refine ⟨p, vs, n, m, rfl, rfl, s12 _ _ f3, by rw [f4.length]; exact h9, ?_⟩
          obtain ⟨si', ev'⟩ := (si.mono s12).upd e' f1 f2 (RepA.set (r1.mono (mask_same s2)) m (f4.mono (mask_same s12)))
          exact k _ _ _ _ si' ((Evo.same s12).trans ev')
        | _ => cases h8
      · cases h
    · cases h
  | .drop e, S, X, st, G, h => by
    simp only [ch1] at h
    split at h
    · simp only [Bool.and_eq_true, Bool.not_eq_true'] at h
      simp only [ex1]
      refine ps_imp (ps_expr ((okE cf gl e).1 S X _ G.toGood h.1) (sw_no h.2)) ?_
      rintro D' σ H ⟨H0, M0, L, A, E, fl, si, h, k⟩
      obtain ⟨d, h1, rfl⟩ := Option.map_eq_some_iff.mp h
      exact ⟨L, A, E, d, si.er, h1, fun v H1 s1 r1 => k L A σ H1 (si.mono s1) (Evo.same s1)⟩
    · cases h
  | .ret e, S, X, st, G, h => by
    simp only [ch1] at h
    split at h
    · simp only [ex1]
      refine ps_imp (ps_ret ((okE cf gl e).1 S X _ G.toGood h)) ?_
      rintro D' σ H ⟨H0, M0, L, A, E, fl, si, h, k⟩
      obtain ⟨d, h1, rfl⟩ := Option.map_eq_some_iff.mp h
      exact ⟨L, A, E, d, si.er, h1, fun v H1 s1 r1 => k v H1 (si.same.trans s1) ((si.mono s1).out r1)⟩
    · cases h
  | .retO i, S, X, st, G, h => by
    simp only [ch1] at h
    split at h
    · obtain ⟨g1, g2, g3, g4⟩ := G.nm h
      simp only [ex1]
      refine ps_imp (ps_ret (pe_var g1 g2 g3 g4)) ?_
      rintro D' σ H ⟨H0, M0, L, A, E, fl, si, h, k⟩
      unfold retOF at h
      split at h
      · rename_i ds e'
        cases h
        obtain ⟨p, vs, f1, f2, f3, f4⟩ := si.er.own i ds e'
        refine ⟨.ref p, f1, k p vs H si.same (si.new p f2) f3 (f4.mono (mask_sub (fun a ha => (si.mem a).mpr ?_) H))⟩
        rcases List.mem_cons.mp ha with rfl | ha
        · exact .inl f2
        · exact .inr ha
      · cases h
    · cases h
  | .retN, S, X, st, G, h => by
    simp only [ch1] at h
    split at h
    · simp only [ex1]
      refine ps_imp ps_retN ?_
      rintro D' σ H ⟨H0, M0, L, A, E, fl, si, h, k⟩
      cases h
      exact k _ H si.same .non
    · cases h
  | .ife c a b, S, X, st, G, h => by
    simp only [ch1] at h
    split at h
    · simp only [Bool.and_eq_true] at h
      obtain ⟨h1, h2, h3⟩ := h
      simp only [ex1]
      refine ps_imp (ps_if ((okE cf gl c).2 S X _ G.toGood h1) (oks a S X _ G h2) (oks b S X _ G h3)) ?_
      rintro D' σ H ⟨H0, M0, L, A, E, fl, si, h, k⟩
      obtain ⟨t, ht, h⟩ := Option.bind_eq_some_iff.mp h
      refine ⟨L, A, E, t, si.er, ht, fun H1 s1 => ?_⟩
      cases t with
      | true => exact ⟨H0, M0, L, A, E, fl, si.mono s1, by simpa using h, k.evo (Evo.same s1)⟩
      | false => exact ⟨H0, M0, L, A, E, fl, si.mono s1, by simpa using h, k.evo (Evo.same s1)⟩
    · cases h
  | .ifb is c a b, S, X, st, G, h => by
    simp only [ch1] at h
    split at h
    · simp only [Bool.and_eq_true] at h
      obtain ⟨h1, h2, h3⟩ := h
      simp only [ex1]
      refine ps_imp (ps_if ((okE cf gl c).2 S X _ G.toGood h1) (oks a S X _ G h2) (oks b S X _ G h3)) ?_
      rintro D' σ H ⟨H0, M0, L, A, E, fl, si, h, k⟩
      obtain ⟨t, ht, h⟩ := Option.bind_eq_some_iff.mp h
      obtain ⟨L1, A1, s1, _⟩ := si.frz is
      refine ⟨L1, A1, _, t, s1.er, ht, fun H1 s1 => ?_⟩
      cases t with
      | true => exact ⟨H0, M0, L, A, E, fl, si.mono s1, by simpa using h, k.evo (Evo.same s1)⟩
      | false => exact ⟨H0, M0, L, A, E, fl, si.mono s1, by simpa using h, k.evo (Evo.same s1)⟩
    · cases h
  | .whl c b, S, X, st, G, h => by
    simp only [ch1] at h
    split at h
    · simp only [Bool.and_eq_true] at h
      simp only [ex1]
      exact ps_imp (ps_while G.own ((okE cf gl c).2 S X _ G.toGood h.1) (oks b S X _ G h.2)) (rd_while wn)
    · cases h
  | .for_ t it b, S, X, st, G, h => by
    simp only [ch1] at h
    split at h
    · simp only [Bool.and_eq_true, Bool.not_eq_true'] at h
      obtain ⟨h1, h2, h3, h4⟩ := h
      simp only [ex1]
      exact ps_imp (ps_for G.own G.calm (okI cf gl it S X _ _ G.toGood h2) (okG t S X _ G.toGood h1) (oks b S X _ G h3) (noset h4)) rd_for
    · cases h
  | .pass, S, X, st, G, h => by
    simp only [ch1] at h
    split at h
    · simp only [ex1]
      refine ps_imp ps_pass ?_
      rintro D' σ H ⟨H0, M0, L, A, E, fl, si, h, k⟩
      cases h
      exact k L A σ H si Evo.refl
    · cases h
  | .brk, S, X, st, G, h => by
    simp only [ch1] at h
    split at h
    · simp only [ex1]
      refine ps_imp ps_break ?_
      rintro D' σ H ⟨H0, M0, L, A, E, fl, si, h, k⟩
      cases h
      exact k L A σ H si Evo.refl
    · cases h
  | .cont, S, X, st, G, h => by
    simp only [ch1] at h
    split at h
    · simp only [ex1]
      refine ps_imp ps_continue ?_
      rintro D' σ H ⟨H0, M0, L, A, E, fl, si, h, k⟩
      cases h
      exact k L A σ H si Evo.refl
    · cases h
  | .rais, S, X, st, G, h => by
    simp only [ex1]
    refine ps_imp ps_never ?_
    rintro D' σ H ⟨H0, M0, L, A, E, fl, si, h, k⟩
    cases h
theorem oks : ∀ (r : Sms) (S : Ctx) (X : Cx) (st : List Stmt), GoodS S cf gl X → chs r S st = true → PSs X st (rdS X.K (exs cf gl wn r))
  | .nil, S, X, st, G, h => by
    simp only [chs] at h
    split at h
    · simp only [exs]
      refine pss_imp pss_nil ?_
      rintro D' σ H ⟨H0, M0, L, A, E, fl, si, h, k⟩
      cases h
      exact k L A σ H si Evo.refl
    · cases h
  | .cons fz s r, S, X, st, G, h => by
    simp only [chs] at h
    split at h
    · simp only [Bool.and_eq_true] at h
      simp only [exs]
      exact pss_imp (pss_cons (ok1 s S X _ G h.1) (oks r S X _ G h.2)) rd_seq
    · cases h
end
end
end Vp

end

section
set_option Elab.async false
set_option linter.all false
set_option autoImplicit false
set_option maxRecDepth 100000
/-! Vp9: defs, their levels, the program's top. -/
namespace Vp
open PySem PySem.Spec PyProof.Rows L2

/-! ### binding of plain parameters -/
theorem zip_lookup : ∀ {ns : List Str} {us : List Value} {n : Str}, ns.length = us.length → n ∈ ns → ((ns.zip us).lookup n).isSome = true
  | [], _, _, _, h => by cases h
  | a :: ns, [], _, h, _ => by cases h
  | a :: ns, u :: us, n, hl, h => by
    rw [List.zip_cons_cons, List.lookup_cons]
    cases e : n == a with
    | true => rfl
    | false =>
      refine zip_lookup (Nat.succ.inj hl) ?_
      rcases List.mem_cons.mp h with rfl | h
      · simp at e
      · exact h
theorem zip_filterMap : ∀ {ns ms : List Str} {us ws : List Value}, ns.length = us.length → ms.length = ws.length → (ms ++ ns).Nodup → ns.filterMap (fun n => (((ms ++ ns).zip (ws ++ us)).lookup n).map (n, ·)) = ns.zip us
  | [], _, [], _, _, _, _ => rfl
  | [], _, _ :: _, _, h, _, _ => by cases h
  | a :: ns, _, [], _, h, _, _ => by cases h
  | a :: ns, ms, u :: us, ws, hl, hm, nd => by
    have e1 : ((ms ++ a :: ns).zip (ws ++ u :: us)).lookup a = some u := by
      have key : ∀ (ms : List Str) (ws : List Value), ms.length = ws.length → a ∉ ms → ((ms ++ a :: ns).zip (ws ++ u :: us)).lookup a = some u := by
        intro ms
        induction ms with
        | nil =>
          intro ws h _
          cases ws with
          | nil => simp [List.lookup_cons]
          | cons _ _ => cases h
        | cons b ms ih =>
          intro ws h hn
          cases ws with
          | nil => cases h
          | cons w ws =>
            simp only [List.cons_append, List.zip_cons_cons, List.lookup_cons]
            have : (a == b) = false := by simpa using fun z => hn (by rw [z]; exact List.mem_cons_self)
            rw [this]
            exact ih ws (Nat.succ.inj h) fun z => hn (List.mem_cons_of_mem _ z)
      refine key ms ws hm fun z => ?_
      rw [List.nodup_append] at nd
      exact nd.2.2 a z a List.mem_cons_self rfl
    rw [List.filterMap_cons, e1]
    simp only [Option.map_some, List.zip_cons_cons]
    congr 1
    have e2 : ms ++ a :: ns = (ms ++ [a]) ++ ns := by simp
    have e3 : ws ++ u :: us = (ws ++ [u]) ++ us := by simp
    rw [e2, e3]
    exact zip_filterMap (Nat.succ.inj hl) (by simp [hm]) (by rw [← e2]; exact nd)
theorem bind_plain {fd : FuncData} {as : List Arg} {us : List Value} (hp : fd.params = ⟨[], as, none, [], [], none, []⟩) (hd : fd.defaults = .none) (hn : (as.map (·.arg)).Nodup) (hl : us.length = as.length) : bindArgs fd ⟨us, []⟩ = pure ((as.map (·.arg)).zip us) := by
  have hlen : (as.map (·.arg)).length = us.length := by rw [List.length_map, hl]
  unfold bindArgs
  rw [hp, hd]
  have e0 : ¬ (us.length > (as.map (·.arg)).length) := by omega
  have e1 : (as.map (·.arg)).filter (fun n => (((as.map (·.arg)).zip us).lookup n).isNone) = [] := by
    rw [List.filter_eq_nil_iff]
    intro n hn
    have := zip_lookup hlen hn
    cases e : ((as.map (·.arg)).zip us).lookup n with
    | none =>
      rw [e] at this
      cases this
    | some v => simp
  have e2 := zip_filterMap (ns := as.map (·.arg)) (ms := []) (us := us) (ws := []) hlen rfl (by simpa using hn)
  simp only [List.nil_append] at e2
  have e3 : seqItems? .none = pure none := rfl
  clear hp hd hl
  generalize hns : as.map (·.arg) = ns at *
  have f0 : (decide (us.length > ns.length) && (none : Option Arg).isNone) = false := by rw [decide_eq_false e0]; rfl
  have f1 : ns.take (ns.length - (List.drop (((none : Option (Array Value)).getD #[]).toList.length - ns.length) ((none : Option (Array Value)).getD #[]).toList).length) = ns := by simp
  simp only [List.map_nil, List.nil_append, List.append_nil, List.forIn_nil, e3, pure_bind, hns, f0, f1, e1]
  simp [e2]

/-! ### defs as data -/
structure Fn where
  np : Nat
  ns : Nat
  body : Sms
def startE (ns : Nat) (ds : List D) : Env' := ds.map .f ++ List.replicate (ns - ds.length) .u
def outF : Fl → Option D
  | .rt d => some d
  | .nx _ => some .non
  | .ro ds => some (.lst ds)
  | _ => none
/-- .. a new list alone -/
def outO : Fl → Option D
  | .ro ds => some (.lst ds)
  | _ => none
section
variable (tab : Nat → Option Fn) (gl : Nat → Option D) (wn : Nat)
/-- a call of the def f, k calls deep at most -/
def callN : Nat → Nat → List D → Option D
  | 0, _, _ => none
  | k + 1, f, ds => (tab (f % ownN)).bind fun fn => if ds.length = fn.np then (exs (callN k) gl wn fn.body (startE fn.ns ds)).bind (if f < ownN then outF else outO) else none
end
structure Entry where
  id : Nat
  place : Nat
  N : List Str
  fn : Fn
structure Prog where
  ents : List Entry
  gls : List (Nat × Str × D)
  frees : List Str
  gcd : Bool
  gds : List (Nat × Str × List (Str × D)) := []
def Prog.tab (p : Prog) (f : Nat) : Option Fn := (p.ents.find? fun e => e.id == f).map (·.fn)
def dicOf (es : List (Str × D)) : D := .dic (es.map fun e => (.inr e.1, e.2))
theorem textK_dicOf : ∀ es : List (Str × D), textK (es.map fun e => ((.inr e.1 : Key), e.2)) = es
  | [] => rfl
  | (z, d) :: r => by
    show (z, d) :: textK (r.map fun e => ((.inr e.1 : Key), e.2)) = _
    rw [textK_dicOf r]
def Prog.gl (p : Prog) (n : Nat) : Option D := match p.gls.lookup n with
  | some g => some g.2
  | none => (p.gds.lookup n).map fun g => dicOf g.2
def Prog.call (p : Prog) (wn k f : Nat) (ds : List D) : Option D := callN p.tab p.gl wn k f ds
def stName : Stmt → Str
  | .FunctionDef (name := n) .. => n
  | _ => ""
def stAt (P : Program) (i : Nat) : Stmt := P.main.body.getD i (.Pass ⟨0, 0, 0, 0⟩)
def Prog.ctx (p : Prog) (P : Program) (e : Entry) : Ctx := ⟨e.N, defScope (stAt P e.place), fun _ => true, p.ents.map fun e => (e.id, stName (stAt P e.place)), p.gls.map fun g => (g.1, g.2.1), p.frees, p.gcd, p.gds.map fun g => (g.1, g.2.1)⟩
def argsB (a : Arguments) : Bool := a.posonlyargs.isEmpty && (a.vararg.isNone && (a.kwonlyargs.isEmpty && (a.kw_defaults.isEmpty && (a.kwarg.isNone && a.defaults.isEmpty))))
def psOf (st : Stmt) : List Str := (defArgs st).args.map (·.arg)
def scopeB (N ps : List Str) (sc : Scope) : Bool :=
  (sc.kind == .function) && (!sc.isCoroutine && (!sc.isGenerator && (decide N.Nodup && (decide (N.take ps.length = ps) && ((ps.all fun x => decide (sc.names.lookup x = some .local) || decide (sc.names.lookup x = some .cell)) && (sc.names.all fun y => y.2 != .free))))))
def Prog.entB (p : Prog) (P : Program) (e : Entry) : Bool :=
  argsB (defArgs (stAt P e.place)) && (scopeB e.N (psOf (stAt P e.place)) (defScope (stAt P e.place)) && (decide (e.fn.np = (psOf (stAt P e.place)).length) && (decide (e.fn.ns = e.N.length) && (chs e.fn.body (p.ctx P e) (defBody (stAt P e.place)) && decide (e.id < ownN)))))
theorem argsB_ok {a : Arguments} (h : argsB a = true) : a = ⟨[], a.args, none, [], [], none, []⟩ := by
  obtain ⟨a1, a2, a3, a4, a5, a6, a7⟩ := a
  simp only [argsB, Bool.and_eq_true, List.isEmpty_iff, Option.isNone_iff_eq_none] at h
  obtain ⟨rfl, rfl, rfl, rfl, rfl, rfl⟩ := h
  rfl
theorem scopeB_ok {N ps : List Str} {sc : Scope} (h : scopeB N ps sc = true) : FnScope N ps sc := by
  simp only [scopeB, Bool.and_eq_true, Bool.not_eq_true', decide_eq_true_eq, List.all_eq_true, Bool.or_eq_true] at h
  obtain ⟨h1, h2, h3, h4, h5, h6, h7⟩ := h
  exact ⟨eq_of_beq h1, h2, h3, h4, h5, h6, fun y hy z => by have := h7 y hy; rw [z] at this; cases this⟩

/-- what the head tells -/
structure Facts (p : Prog) (P : Program) (w : World) (K : PySem.W.Frag) (mg : Str → Option Value) : Prop where
  defs : ∀ e ∈ p.ents, ∃ (f : Addr) (fd : FuncData), FunD K (stName (stAt P e.place)) (stName (stAt P e.place)) (defArgs (stAt P e.place)) (defBody (stAt P e.place)) (defScope (stAt P e.place)) [] [] f fd ∧ mg (stName (stAt P e.place)) = some (.ref f)
  free : ∀ x, x ∈ p.frees → mg x = none
  gls : ∀ n x d, p.gls.lookup n = some (x, d) → ∃ v u, mg x = some u ∧ RelV v u ∧ ∀ H, Rep K H v d
  gcd : p.gcd = true → mg "gcd" = some (.builtin "math.gcd")
  gds : ∀ n x es, p.gds.lookup n = some (x, es) → ∃ pa, mg x = some (.ref pa) ∧ KDs K w pa es
theorem find_map {p : Prog} {P : Program} {f : Nat} {x : Str} (h : (p.ents.map fun e => (e.id, stName (stAt P e.place))).lookup f = some x) : ∃ e, p.ents.find? (fun e => e.id == f) = some e ∧ e ∈ p.ents ∧ e.id = f ∧ stName (stAt P e.place) = x := by
  have key : ∀ l : List Entry, (l.map fun e => (e.id, stName (stAt P e.place))).lookup f = some x → ∃ e, l.find? (fun e => e.id == f) = some e ∧ e ∈ l ∧ e.id = f ∧ stName (stAt P e.place) = x := by
    intro l
    induction l with
    | nil => intro h; cases h
    | cons a l ih =>
      intro h
      rw [List.map_cons, List.lookup_cons] at h
      rw [List.find?_cons]
      cases q : f == a.id with
      | true =>
        rw [q] at h
        have : (a.id == f) = true := by
          have := eq_of_beq q
          simp [this]
        rw [this]
        exact ⟨a, rfl, List.mem_cons_self, (eq_of_beq this), Option.some.inj h⟩
      | false =>
        rw [q] at h
        have : (a.id == f) = false := by
          have := ne_of_beq_false q
          simpa using fun z => this z.symm
        rw [this]
        obtain ⟨e, h1, h2, h3, h4⟩ := ih h
        exact ⟨e, h1, List.mem_cons_of_mem _ h2, h3, h4⟩
  exact key _ h
theorem lk_map {α : Type} {n : Nat} {x : Str} : ∀ {l : List (Nat × Str × α)}, (l.map fun g => (g.1, g.2.1)).lookup n = some x → ∃ a, l.lookup n = some (x, a)
  | [], h => by cases h
  | (m, y, b) :: r, h => by
    rw [List.map_cons, List.lookup_cons] at h
    rw [List.lookup_cons]
    cases q : n == m with
    | true =>
      rw [q] at h
      cases h
      exact ⟨b, rfl⟩
    | false =>
      rw [q] at h
      exact lk_map h
theorem gl_map {p : Prog} {n : Nat} {x : Str} {d : D} (h : (p.gls.map fun g => (g.1, g.2.1)).lookup n = some x) (hd : p.gl n = some d) : p.gls.lookup n = some (x, d) := by
  obtain ⟨a, ha⟩ := lk_map h
  unfold Prog.gl at hd
  rw [ha] at hd
  cases hd
  exact ha
section
theorem no_dic {K : PySem.W.Frag} {v : V} {kd : List (Key × D)} (h : ∀ H, Rep K H v (.dic kd)) : False := by
  have r := h fun _ => none
  cases r with
  | dic h1 _ =>
    rcases h1 with h1 | ⟨o, h1⟩
    · cases h1
    · cases h1
variable {p : Prog} {P : Program} {w : World} {K : PySem.W.Frag} {mg : Str → Option Value} {base : Heap} {wn : Nat}
theorem rep_get {K : PySem.W.Frag} {H : Hp} : ∀ {vs : List V} {ds : List D} {i : Nat} {d : D}, RepA K H vs ds → (ds.map Cell.f)[i]? = some (.f d) → ∃ v, (vs.map some)[i]? = some (some v) ∧ Rep K H v d := by
  intro vs ds i d r h
  rw [List.getElem?_map] at h
  obtain ⟨d', h1, h2⟩ := Option.map_eq_some_iff.mp h
  cases h2
  obtain ⟨v, h3, h4⟩ := r.get h1
  exact ⟨v, by rw [List.getElem?_map, h3]; rfl, h4⟩
theorem start_er {N : List Str} {H : Hp} {A : List Addr} {vs : List V} {ds : List D} {ns : Nat} (hn : ns = N.length) (hl : vs.length ≤ N.length) (hd : Dom A H) (r : RepA K (mask A H) vs ds) : ER K [] A (L2.start N vs) H (startE ns ds) := by
  have hlen := r.length
  refine ⟨?_, hd, fun a h => (by cases h), fun i d h => ?_, fun i es h => ?_, fun i j es fs q h => ?_⟩
  · unfold L2.start startE
    simp only [List.length_append, List.length_map, List.length_replicate]
    omega
  · unfold startE at h
    unfold L2.start
    by_cases hi : i < ds.length
    · rw [List.getElem?_append_left (by simpa using hi)] at h
      obtain ⟨v, h1, h2⟩ := rep_get r h
      exact ⟨v, by rw [List.getElem?_append_left (by simp; omega)]; exact h1, h2⟩
    · rw [List.getElem?_append_right (by simpa using hi), List.getElem?_replicate] at h
      split at h <;> cases h
  all_goals
    unfold startE at h
    by_cases hi : i < ds.length
    · rw [List.getElem?_append_left (by simpa using hi), List.getElem?_map] at h
      obtain ⟨_, _, h2⟩ := Option.map_eq_some_iff.mp h
      cases h2
    · rw [List.getElem?_append_right (by simpa using hi), List.getElem?_replicate] at h
      split at h <;> cases h
theorem Facts.gd (F : Facts p P w K mg) {n : Nat} {x : Str} {kd : List (Key × D)} (h : (p.gds.map fun g => (g.1, g.2.1)).lookup n = some x) (hd : p.gl n = some (.dic kd)) : ∃ pa, mg x = some (.ref pa) ∧ KDs K w pa (textK kd) := by
  obtain ⟨es, he⟩ := lk_map h
  unfold Prog.gl at hd
  cases q : p.gls.lookup n with
  | some g =>
    rw [q] at hd
    obtain ⟨y, d⟩ := g
    cases hd
    obtain ⟨v, u, _, _, r⟩ := F.gls n y _ q
    exact (no_dic r).elim
  | none =>
    rw [q, he] at hd
    have e : dicOf es = .dic kd := Option.some.inj hd
    unfold dicOf at e
    cases e
    rw [textK_dicOf]
    exact F.gds n x es he
theorem own_ne {n : Nat} (h : n < ownN) : n % ownN = n ∧ (n + ownN) % ownN = n ∧ ¬ n + ownN < ownN := by
  unfold ownN at *
  omega
theorem level (F : Facts p P w K mg) (hc : ∀ e ∈ p.ents, p.entB P e = true) : ∀ (k : Nat) (e : Entry), e ∈ p.ents → p.ents.find? (fun a => a.id == e.id) = some e →
    ∀ (f : Addr) (fd : FuncData), FunD K (stName (stAt P e.place)) (stName (stAt P e.place)) (defArgs (stAt P e.place)) (defBody (stAt P e.place)) (defScope (stAt P e.place)) [] [] f fd →
      FnOk P w K mg base CX0 k f fd (psOf (stAt P e.place)) (spD K (p.call wn k e.id)) ∧ FnOk P w K mg base CX0 k f fd (psOf (stAt P e.place)) (spDo K fun ds => (p.call wn k (e.id + ownN) ds).bind lstOf) := by
  intro k
  induction k with
  | zero =>
    intro e he hfind f fd D0
    refine ⟨⟨fun vs H Q E h => ?_, fun A outer s H args us vs Q E hr h0 hb hv h => ?_⟩, ⟨fun vs H Q E h => ?_, fun A outer s H args us vs Q E hr h0 hb hv h => ?_⟩⟩
    · obtain ⟨A, ds, d, _, _, h, _⟩ := h
      cases h
    · obtain ⟨A, ds, d, _, _, h, _⟩ := h
      cases h
    · obtain ⟨A, ds, d, _, _, h, _⟩ := h
      cases h
    · obtain ⟨A, ds, d, _, _, h, _⟩ := h
      cases h
  | succ k ih =>
    intro e he hfind f fd D0
    have hb := hc e he
    simp only [Prog.entB, Bool.and_eq_true, decide_eq_true_eq] at hb
    obtain ⟨ha, hs, hnp, hns, hch, hid⟩ := hb
    obtain ⟨o1, o2, o3⟩ := own_ne hid
    have S := scopeB_ok hs
    have un : ∀ {ds : List D} {d : D}, p.call wn (k + 1) e.id ds = some d → ds.length = (psOf (stAt P e.place)).length ∧ ∃ fl, exs (p.call wn k) p.gl wn e.fn.body (startE e.fn.ns ds) = some fl ∧ outF fl = some d := fun {ds d} h => by
      unfold Prog.call at h
      simp only [callN] at h
      rw [o1, if_pos hid] at h
      obtain ⟨fn, h1, h2⟩ := Option.bind_eq_some_iff.mp h
      unfold Prog.tab at h1
      rw [hfind] at h1
      cases h1
      split at h2
      · rename_i hl
        obtain ⟨fl, h3, h4⟩ := Option.bind_eq_some_iff.mp h2
        exact ⟨hl.trans hnp, fl, h3, h4⟩
      · cases h2
    have unO : ∀ {ds : List D} {es : List D}, (p.call wn (k + 1) (e.id + ownN) ds).bind lstOf = some es → ds.length = (psOf (stAt P e.place)).length ∧ exs (p.call wn k) p.gl wn e.fn.body (startE e.fn.ns ds) = some (.ro es) := fun {ds es} h => by
      obtain ⟨d, h, hd⟩ := Option.bind_eq_some_iff.mp h
      unfold Prog.call at h
      simp only [callN] at h
      rw [o2, if_neg o3] at h
      obtain ⟨fn, h1, h2⟩ := Option.bind_eq_some_iff.mp h
      unfold Prog.tab at h1
      rw [hfind] at h1
      cases h1
      split at h2
      · rename_i hl
        obtain ⟨fl, h3, h4⟩ := Option.bind_eq_some_iff.mp h2
        refine ⟨hl.trans hnp, ?_⟩
        cases fl with
        | ro xs =>
          cases h4
          cases hd
          exact h3
        | _ => cases h4
      · cases h2
    have hps : (psOf (stAt P e.place)).length ≤ e.N.length := by
      have := congrArg List.length S.pre
      rw [List.length_take] at this
      omega
    have bd : ∀ e' ∈ p.ents, ∀ (f2 : Addr) (fd2 : FuncData), FunD K (stName (stAt P e'.place)) (stName (stAt P e'.place)) (defArgs (stAt P e'.place)) (defBody (stAt P e'.place)) (defScope (stAt P e'.place)) [] [] f2 fd2 → Binds K fd2 (psOf (stAt P e'.place)) [] := fun e' g2 f2 fd2 D2 => by
      have hb2 := hc e' g2
      simp only [Prog.entB, Bool.and_eq_true, decide_eq_true_eq] at hb2
      refine D2.bindsN fun kV doc pm an cdv ct us hl => ?_
      refine bind_plain (as := (defArgs (stAt P e'.place)).args) ?_ rfl ?_ ?_
      · exact argsB_ok hb2.1
      · have S2 := scopeB_ok hb2.2.1
        have e0 : (e'.N.take (psOf (stAt P e'.place)).length).Nodup := S2.nd.sublist (List.take_sublist _ _)
        rw [S2.pre] at e0
        exact e0
      · rw [hl]
        unfold psOf
        rw [List.length_map]
    refine ⟨D0.ok S (fun vs H Q E h => ?_) (fun cdv A outer s H vs Q E hr h => ?_), D0.ok S (fun vs H Q E h => ?_) (fun cdv A outer s H vs Q E hr h => ?_)⟩
    · obtain ⟨A, ds, d, _, r, h, _⟩ := h
      rw [r.length]
      exact (un h).1
    · obtain ⟨M0, ds, d, hd, r, h, kk⟩ := h
      obtain ⟨hl, fl, h1, h2⟩ := un h
      refine ⟨rdS K (exs (p.call wn k) p.gl wn e.fn.body), PSs.nox (oks (p.call wn k) p.gl wn e.fn.body (p.ctx P e) _ _ ?_ hch), ?_⟩
      · refine ⟨⟨rfl, rfl, S.nd, rfl, fun x _ => rfl, ?_, fun x hx => F.free x hx, fun f' x hx => ?_, fun n x d hx hd => F.gls n x d (gl_map hx hd), F.gcd, fun f' x hx => ?_, fun n x kd hx hd => F.gd hx hd⟩, S.kind, rfl⟩
        · have := hr.un
          show (A.deeper _).units + 65 < cLine
          omega
        · obtain ⟨e', g1, g2, g3, g4⟩ := find_map hx
          obtain ⟨f2, fd2, D2, m2⟩ := F.defs e' g2
          subst g3 g4
          exact ⟨k, f2, fd2, psOf (stAt P e'.place), (ih e' g2 g1 f2 fd2 D2).1, hr, m2, D2.kp, bd e' g2 f2 fd2 D2⟩
        · obtain ⟨e', g1, g2, g3, g4⟩ := find_map hx
          obtain ⟨f2, fd2, D2, m2⟩ := F.defs e' g2
          subst g3 g4
          exact ⟨k, f2, fd2, psOf (stAt P e'.place), (ih e' g2 g1 f2 fd2 D2).2, hr, m2, D2.kp, bd e' g2 f2 fd2 D2⟩
      · refine ⟨H, M0, [], M0, _, fl, ⟨start_er hns (by rw [r.length, hl]; exact hps) hd r, fun a => by simp, Same.refl _, fun q hq => (by cases hq), hd⟩, h1, ?_⟩
        cases fl with
        | rt d' =>
          cases h2
          exact fun v H' s r => kk v H' s r
        | ro xs =>
          cases h2
          exact fun p vs H' s e1 e2 r => kk.ofO hd p vs H' s e1 e2 r
        | nx E' =>
          cases h2
          exact fun L' A' σ' H' si _ => kk _ H' si.same .non
        | bk E' => cases h2
        | ct E' => cases h2
    · obtain ⟨A, ds, d, _, r, h, _⟩ := h
      rw [r.length]
      exact (unO h).1
    · obtain ⟨M0, ds, es, hd, r, h, kk⟩ := h
      obtain ⟨hl, h1⟩ := unO h
      refine ⟨rdS K (exs (p.call wn k) p.gl wn e.fn.body), PSs.nox (oks (p.call wn k) p.gl wn e.fn.body (p.ctx P e) _ _ ?_ hch), ?_⟩
      · refine ⟨⟨rfl, rfl, S.nd, rfl, fun x _ => rfl, ?_, fun x hx => F.free x hx, fun f' x hx => ?_, fun n x d hx hd => F.gls n x d (gl_map hx hd), F.gcd, fun f' x hx => ?_, fun n x kd hx hd => F.gd hx hd⟩, S.kind, rfl⟩
        · have := hr.un
          show (A.deeper _).units + 65 < cLine
          omega
        · obtain ⟨e', g1, g2, g3, g4⟩ := find_map hx
          obtain ⟨f2, fd2, D2, m2⟩ := F.defs e' g2
          subst g3 g4
          exact ⟨k, f2, fd2, psOf (stAt P e'.place), (ih e' g2 g1 f2 fd2 D2).1, hr, m2, D2.kp, bd e' g2 f2 fd2 D2⟩
        · obtain ⟨e', g1, g2, g3, g4⟩ := find_map hx
          obtain ⟨f2, fd2, D2, m2⟩ := F.defs e' g2
          subst g3 g4
          exact ⟨k, f2, fd2, psOf (stAt P e'.place), (ih e' g2 g1 f2 fd2 D2).2, hr, m2, D2.kp, bd e' g2 f2 fd2 D2⟩
      · refine ⟨H, M0, [], M0, _, .ro es, ⟨start_er hns (by rw [r.length, hl]; exact hps) hd r, fun a => by simp, Same.refl _, fun q hq => (by cases hq), hd⟩, h1, ?_⟩
        exact fun p vs H' s e1 e2 r => kk p vs H' s e1 e2 r
end
end Vp

end

section
set_option Elab.async false
set_option linter.all false
set_option autoImplicit false
set_option maxRecDepth 100000
/-! Vp10: the program's top: what the head is asked for, and the law's end. -/
namespace Vp
open PySem PySem.Spec PyProof.Rows L2

/-! ### the module's data -/
mutual
def datB (K : PySem.W.Frag) : D → Value → Bool
  | .non, u => match u with
    | .none => true
    | _ => false
  | .bl b, u => match u with
    | .bool c => b == c
    | _ => false
  | .int i, u => match u with
    | .int j _ => decide (i = j)
    | _ => false
  | .str x, u => match u with
    | .str y _ => decide (x = y)
    | _ => false
  | .tup ds, u => match u with
    | .ref a => (match K.lookup a with
      | some ⟨.type c, _, .seq its _, _⟩ => decide (c = "tuple") && (decide (its.size ≤ sizeLine) && datsB K ds its.toList)
      | _ => false)
    | _ => false
  | .lst _, _ => false
  | .dic _, _ => false
  | .fls ds, u => match u with
    | .ref a => (match K.lookup a with
      | some ⟨.type c, none, .seq its _, _⟩ => decide (c = "list") && (decide (its.size ≤ sizeLine) && datsB K ds its.toList)
      | _ => false)
    | _ => false
def datsB (K : PySem.W.Frag) : List D → List Value → Bool
  | [], us => match us with
    | [] => true
    | _ :: _ => false
  | d :: ds, us => match us with
    | u :: us => datB K d u && datsB K ds us
    | [] => false
end
mutual
theorem datB_ok {K : PySem.W.Frag} : ∀ (d : D) (u : Value), datB K d u = true → ∃ v, RelV v u ∧ ∀ H, Rep K H v d
  | .non, u, h => by
    simp only [datB] at h
    split at h
    · exact ⟨.non, rfl, fun _ => .non⟩
    · cases h
  | .bl b, u, h => by
    simp only [datB] at h
    split at h
    · rw [eq_of_beq h]
      exact ⟨.bl _, rfl, fun _ => .bl _⟩
    · cases h
  | .int i, u, h => by
    simp only [datB] at h
    split at h
    · rw [of_decide_eq_true h]
      exact ⟨.int _, ⟨_, rfl⟩, fun _ => .int _⟩
    · cases h
  | .str x, u, h => by
    simp only [datB] at h
    split at h
    · rw [of_decide_eq_true h]
      exact ⟨.str _, ⟨_, rfl⟩, fun _ => .str _⟩
    · cases h
  | .tup ds, u, h => by
    simp only [datB] at h
    split at h
    · rename_i a
      split at h
      · rename_i c dd its n sl q
        simp only [Bool.and_eq_true, decide_eq_true_eq] at h
        obtain ⟨rfl, h2, h3⟩ := h
        obtain ⟨vs, r1, r2⟩ := datsB_ok ds its.toList h3
        exact ⟨.ref a, rfl, fun H => .tup (.inr ⟨_, its, n, q, rfl, rfl, h2, r1⟩) (r2 H)⟩
      · cases h
    · cases h
  | .lst _, u, h => by simp only [datB] at h; cases h
  | .dic _, u, h => by simp only [datB] at h; cases h
  | .fls ds, u, h => by
    simp only [datB] at h
    split at h
    · rename_i a
      split at h
      · rename_i c its n sl q
        simp only [Bool.and_eq_true, decide_eq_true_eq] at h
        obtain ⟨rfl, h2, h3⟩ := h
        obtain ⟨vs, r1, r2⟩ := datsB_ok ds its.toList h3
        exact ⟨.ref a, rfl, fun H => .fls (.inr ⟨_, its, n, q, rfl, rfl, rfl, h2, r1⟩) (r2 H)⟩
      · cases h
    · cases h
theorem datsB_ok {K : PySem.W.Frag} : ∀ (ds : List D) (us : List Value), datsB K ds us = true → ∃ vs, Vals vs us ∧ ∀ H, RepA K H vs ds
  | [], us, h => by
    simp only [datsB] at h
    split at h
    · exact ⟨[], .nil, fun _ => .nil⟩
    · cases h
  | d :: ds, us, h => by
    simp only [datsB] at h
    split at h
    · simp only [Bool.and_eq_true] at h
      obtain ⟨v, r1, r2⟩ := datB_ok d _ h.1
      obtain ⟨vs, r3, r4⟩ := datsB_ok ds _ h.2
      exact ⟨v :: vs, .cons r1 r3, fun H => .cons (r2 H) (r4 H)⟩
    · cases h
end
theorem lookup_mem {α : Type} {n : Nat} {a : α} : ∀ {l : List (Nat × α)}, l.lookup n = some a → (n, a) ∈ l
  | [], h => by cases h
  | (m, b) :: r, h => by
    rw [List.lookup_cons] at h
    cases q : n == m with
    | true =>
      rw [q] at h
      cases h
      rw [eq_of_beq q]
      exact List.mem_cons_self
    | false =>
      rw [q] at h
      exact List.mem_cons_of_mem _ (lookup_mem h)
/-! ### the module's dicts of text keys -/
def entsB (K : PySem.W.Frag) : List DictEntry → List (Str × D) → Bool
  | [], es => es.isEmpty
  | e :: l, es => match es with
    | [] => false
    | (z, d) :: r => (match e.key with
      | .str x _ => decide (x = z)
      | _ => false) && (datB K d e.val && entsB K l r)
theorem entsB_ok {K : PySem.W.Frag} : ∀ (l : List DictEntry) (es : List (Str × D)), entsB K l es = true →
    (∀ z d, es.lookup z = some d → ∃ e, l.find? (·.key.isStr z) = some e ∧ datB K d e.val = true) ∧ (∀ z, es.lookup z = none → l.find? (·.key.isStr z) = none) ∧ l.any (·.refKey) = false ∧
      ∀ P : Params, l.map (·.hash) = es.map (fun e => PyData.keyHash P e.1) → PySem.W.KeysLit P l
  | [], es, h => by
    simp only [entsB, List.isEmpty_iff] at h
    subst h
    exact ⟨(fun z d h => by cases h), fun z _ => rfl, rfl, fun P _ => trivial⟩
  | e :: l, [], h => by simp only [entsB] at h; cases h
  | e :: l, (z0, d0) :: r, h => by
    simp only [entsB, Bool.and_eq_true] at h
    obtain ⟨h1, h2, h3⟩ := h
    obtain ⟨hash, key, val⟩ := e
    cases key with
    | str x t =>
      simp only [decide_eq_true_eq] at h1
      subst h1
      obtain ⟨g1, g2, g3, g4⟩ := entsB_ok l r h3
      refine ⟨fun z d h => ?_, fun z h => ?_, ?_, fun P hh => ?_⟩
      · rw [List.lookup_cons] at h
        rw [List.find?_cons]
        cases q : z == x with
        | true =>
          rw [q] at h
          cases h
          have : (Value.str x t).isStr z = true := by rw [eq_of_beq q]; exact beq_self_eq_true x
          rw [this]
          exact ⟨_, rfl, h2⟩
        | false =>
          rw [q] at h
          have : (Value.str x t).isStr z = false := by
            show (x == z) = false
            have := ne_of_beq_false q
            simpa using fun y => this y.symm
          rw [this]
          exact g1 z d h
      · rw [List.lookup_cons] at h
        rw [List.find?_cons]
        cases q : z == x with
        | true => rw [q] at h; cases h
        | false =>
          rw [q] at h
          have : (Value.str x t).isStr z = false := by
            show (x == z) = false
            have := ne_of_beq_false q
            simpa using fun y => this y.symm
          rw [this]
          exact g2 z h
      · rw [List.any_cons, g3]
        rfl
      · rw [List.map_cons, List.map_cons, List.cons.injEq] at hh
        exact ⟨⟨x, t, rfl, hh.1⟩, g4 P hh.2⟩
    | _ => cases h1
/-! ### what is asked of the head -/
def defOfE (P : Program) (e : Entry) : He.DefD := ⟨(stName (stAt P e.place), none), stName (stAt P e.place), stName (stAt P e.place), defArgs (stAt P e.place), defBody (stAt P e.place), defScope (stAt P e.place), [], []⟩
def Prog.defs (p : Prog) (P : Program) : List He.DefD := p.ents.map (defOfE P)
def Prog.fas (p : Prog) (P : Program) : List He.Fa := (p.ents.map fun e => He.Fa.glo (stName (stAt P e.place))) ++ p.frees.map He.Fa.free
def Prog.glsB (p : Prog) (K : PySem.W.Frag) : Bool := (p.gls.all fun g => match PySem.W.nsIn K mainGlobals g.2.1 with
    | some (some u) => datB K g.2.2 u
    | _ => false) && (!p.gcd || (match PySem.W.nsIn K mainGlobals "gcd" with
    | some (some (.builtin s)) => decide (s = "math.gcd")
    | _ => false))
def Prog.gdsB (p : Prog) (K : PySem.W.Frag) : Bool := p.gds.all fun g => match PySem.W.nsIn K mainGlobals g.2.1 with
    | some (some (.ref pa)) => !(pa == sysModules) && (match K.lookup pa with
      | some ⟨.type c, none, .dict es _, sl⟩ => decide (c = "dict") && (decide (sl = #[]) && entsB K es.toList g.2.2)
      | _ => false)
    | _ => false
def Prog.gdsH (p : Prog) (K : PySem.W.Frag) : List (List Int) := p.gds.map fun g => match PySem.W.nsIn K mainGlobals g.2.1 with
    | some (some (.ref pa)) => (match K.lookup pa with
      | some ⟨_, _, .dict es _, _⟩ => es.toList.map (·.hash)
      | _ => [])
    | _ => []
def Prog.gdsV (p : Prog) (P : Params) : List (List Int) := p.gds.map fun g => g.2.2.map fun e => PyData.keyHash P e.1
abbrev ObsT : Type := He.AlD × (Bool × List (List Int))
def obsP (p : Prog) (P : Program) (K : PySem.W.Frag) : ObsT := (He.obsD (p.fas P) (p.defs P) K, (p.glsB K && p.gdsB K, p.gdsH K))
def valP (p : Prog) (P : Program) (w : World) : ObsT := (He.valD (p.defs P), (true, p.gdsV w.params))
def SaysP (p : Prog) (P : Program) (w : World) (K : PySem.W.Frag) : Prop := obsP p P K = valP p P w
/-- what objects name -/
def refsL (g : Addr → Option Obj) (as : List Addr) : List Addr := as.flatMap fun a => match g a with
  | some o => He.refsD o
  | none => []
/-- the objects looked at: the module's names, the defs, the constants to a depth -/
def asP (n : Nat) (p : Prog) (P : Program) (g : Addr → Option Obj) : List Addr :=
  mainGlobals :: ((p.ents.map fun e => He.ga (He.frG g [mainGlobals]) (stName (stAt P e.place))) ++ (refsL g (p.ents.map fun e => He.ga (He.frG g [mainGlobals]) (stName (stAt P e.place))) ++ deep n ((p.gls.map fun y => He.ga (He.frG g [mainGlobals]) y.2.1) ++ p.gds.map fun y => He.ga (He.frG g [mainGlobals]) y.2.1)))
where deep : Nat → List Addr → List Addr
  | 0, as => as
  | n + 1, as => as ++ deep n (refsL g as)
def obsPG (n : Nat) (p : Prog) (P : Program) (g : Addr → Option Obj) : ObsT := obsP p P (He.frG g (asP n p P g))
def hookP (n : Nat) (p : Prog) (P : Program) : PySem.W.Hook where
  α := ObsT
  obs := fun s => obsPG n p P s.heap.get?
  val := fun w => valP p P w
  says := fun w h => ∃ K : PySem.W.Frag, K.In h ∧ SaysP p P w K
  of := fun _ _ e => ⟨_, He.frG_in, e⟩
  keeps := fun _ _ _ ⟨K, hK, c⟩ k => ⟨K, PySem.W.Frag.In.keeps hK k, c⟩
def obT (n : Nat) (p : Prog) (P : Program) (s : PySem.W.SharedT) : ObsT := obsPG n p P (HandSHeadRun.getT s)
theorem obT_eq (n : Nat) (p : Prog) (P : Program) (s : PySem.W.SharedT) : obT n p P s = (hookP n p P).obs s.abs := by
  have e : HandSHeadRun.getT s = s.abs.heap.get? := funext (HandSHeadRun.getT_eq s)
  unfold obT
  rw [e]
  rfl
theorem SaysP.facts {p : Prog} {P : Program} {w : World} {K : PySem.W.Frag} {h : Heap} {mg : Str → Option Value} (c : SaysP p P w K) (X : K.In h) (G : h.Ns mainGlobals mg) : Facts p P w K mg := by
  have c1 : He.SaysD (p.fas P) (p.defs P) K := congrArg Prod.fst c
  have c20 : (p.glsB K && p.gdsB K) = true := congrArg (fun z : ObsT => z.2.1) c
  have cH : p.gdsH K = p.gdsV w.params := congrArg (fun z : ObsT => z.2.2) c
  obtain ⟨c2, cB⟩ := He.ba c20
  have c3 := (He.ba (show (((p.fas P).all fun f => f.ok K) && (p.defs P).all fun d => d.ok K) = true from congrArg (fun z : He.AlD => z.1) c1)).1
  have fa : ∀ f ∈ p.fas P, f.ok K = true := fun f hf => List.all_eq_true.mp c3 f hf
  unfold Prog.glsB at c2
  obtain ⟨g1, g2⟩ := He.ba c2
  refine ⟨fun e he => ?_, fun x hx => ?_, fun n x d hd => ?_, fun hg => ?_, fun n x es hd => ?_⟩
  · obtain ⟨i, hi⟩ := List.getElem?_of_mem he
    obtain ⟨fd, F⟩ := He.SaysD.def_ c1 i (d := defOfE P e) (by unfold Prog.defs; rw [List.getElem?_map, hi]; rfl)
    exact ⟨_, fd, F, He.glo_ok X G (fa _ (List.mem_append_left _ (List.mem_map_of_mem he)))⟩
  · exact He.free_ok X G (fa _ (List.mem_append_right _ (List.mem_map_of_mem hx)))
  · have h1 := List.all_eq_true.mp g1 (n, x, d) (lookup_mem hd)
    simp only at h1
    split at h1
    · rename_i u q
      obtain ⟨v, r1, r2⟩ := datB_ok d u h1
      exact ⟨v, u, PySem.W.mg_of X G q, r1, r2⟩
    · cases h1
  · rw [hg] at g2
    have g3 : (match PySem.W.nsIn K mainGlobals "gcd" with
      | some (some (.builtin s)) => decide (s = "math.gcd")
      | _ => false) = true := g2
    split at g3
    · rename_i s q
      rw [of_decide_eq_true g3] at q
      exact PySem.W.mg_of X G q
    · cases g3
  · have hm := lookup_mem hd
    have h1 := List.all_eq_true.mp cB (n, x, es) hm
    simp only at h1
    have hH : (match PySem.W.nsIn K mainGlobals x with
      | some (some (.ref pa)) => (match K.lookup pa with
        | some ⟨_, _, .dict es _, _⟩ => es.toList.map (·.hash)
        | _ => [])
      | _ => []) = es.map fun e => PyData.keyHash w.params e.1 := List.map_inj_left.mp cH (n, x, es) hm
    split at h1
    · rename_i pa q
      rw [q] at hH
      obtain ⟨s1, h2⟩ := He.ba h1
      split at h2
      · rename_i ents nn sl q2
        simp only at hH
        rw [q2] at hH
        simp only [Bool.and_eq_true, decide_eq_true_eq] at h2
        obtain ⟨rfl, rfl, h3⟩ := h2
        obtain ⟨g1, g2, g3, g4⟩ := entsB_ok _ _ h3
        have ns : ∀ z, PySem.W.nsIn K pa z = match ents.toList.find? (·.key.isStr z) with
            | some e => some (some e.val)
            | none => if ents.toList.any (·.refKey) then none else some none := fun z => by
          unfold PySem.W.nsIn
          rw [q2]
          rfl
        refine ⟨pa, PySem.W.mg_of X G q, ⟨_, _, q2, g4 _ hH⟩, by simpa using s1, fun z d hz => ?_, fun z hz => ?_⟩
        · obtain ⟨e, e1, e2⟩ := g1 z d hz
          obtain ⟨v, r1, r2⟩ := datB_ok d _ e2
          exact ⟨v, e.val, by rw [ns, e1], r1, r2⟩
        · rw [ns, g2 z hz, g3]
          rfl
      · cases h2
    · cases h1
/-! ### the law's end -/
theorem walkP {l : PySem.W.OpenLaw} {q : Program} {loose : List Str} {XP : (Str → Option Value) → Heap → Prop} {d : DefRec} {n wn k : Nat} (p : Prog) (e : Entry) (hn : l.most = some 63) (hdf : d.params.defaults = []) (hr : Room k callerA)
    (hc : ∀ e ∈ p.ents, p.entB l.prog e = true) (he : e ∈ p.ents) (hf : p.ents.find? (fun a => a.id == e.id) = some e) (hps : psOf (stAt l.prog e.place) = [("script" : Str)]) (hname : d.name = stName (stAt l.prog e.place))
    (law : ∀ ns : List Int, ns.length ≤ 63 → p.call wn k e.id [.fls (ns.map .int)] = some (.bl true)) :
    PySem.W.WalkO q loose XP (hookP n p l.prog).says l.row.toRowW d [] (fun f vs => PySem.call f vs) := by
  refine L2.walk_ofE (l := l) (n := 63) (k := k) (x := "script") (CX := CX0) hn (by rw [sizeLine_eq]; decide) hdf hr ?_ fun _ _ _ _ z => z
  intro w mg fa h Y G hmg
  obtain ⟨K, KX, c⟩ := Y
  have F := SaysP.facts c KX G
  obtain ⟨f, fd, D0, m0⟩ := F.defs e he
  rw [hname, m0] at hmg
  have ef : f = fa := V.ref.inj (Value.ref.inj (Option.some.inj hmg) ▸ rfl)
  subst ef
  have hb := hc e he
  simp only [Prog.entB, Bool.and_eq_true, decide_eq_true_eq] at hb
  have b := FunD.bindsA (ps := psOf (stAt l.prog e.place)) D0 fun kV doc pm an cdv ct us hl => by
    refine bind_plain (as := (defArgs (stAt l.prog e.place)).args) (argsB_ok hb.1) rfl ?_ ?_
    · have S2 := scopeB_ok hb.2.1
      have e0 : (e.N.take (psOf (stAt l.prog e.place)).length).Nodup := S2.nd.sublist (List.take_sublist _ _)
      rw [S2.pre] at e0
      exact e0
    · rw [hl]
      unfold psOf
      rw [List.length_map]
  refine ⟨K, fd, spD K (p.call wn k e.id), KX, fun s u => ?_, fun H a ns hl _ hS => ?_, fun base hb1 hb2 => ?_⟩
  · have := b s [u] (by rw [hps]; rfl)
    rw [hps] at this
    exact this
  · refine ⟨[], [.fls (ns.map .int)], .bl true, fun a ha => (by cases ha), .cons (.fls (by rw [mask_nil]; exact hS) (RepA.of_ints ns)) .nil, law ns hl, fun v H' s r => ?_⟩
    cases r
    rfl
  · have := level (P := l.prog) (w := w) (base := base) (wn := wn) F hc k e he hf f fd D0
    rw [hps] at this
    exact this.1
end Vp

end

section
set_option Elab.async false
set_option linter.all false
set_option autoImplicit false
set_option maxRecDepth 100000
/-! Vp11: the trees' values step by step: rewriting rules. -/
namespace Vp
open PySem PySem.Spec PyProof.Rows L2
section
variable {cf : Nat → List D → Option D} {gl : Nat → Option D} {wn : Nat} {E : Env'}
@[simp high] theorem bind_s {α β : Type} {a : α} {f : α → Option β} : (some a).bind f = f a := (rfl)
@[simp high] theorem map_s {α β : Type} {a : α} {f : α → β} : (some a).map f = some (f a) := (rfl)
@[simp] theorem ev_non : ev cf gl .non E = some .non := (rfl)
@[simp] theorem ev_bl {b : Bool} : ev cf gl (.bl b) E = some (.bl b) := (rfl)
@[simp] theorem ev_int {i : Int} : ev cf gl (.int i) E = some (.int i) := (rfl)
@[simp] theorem ev_str {s : Str} : ev cf gl (.str s) E = some (.str s) := (rfl)
@[simp] theorem ev_glo {n : Nat} : ev cf gl (.glo n) E = gl n := (rfl)
@[simp] theorem ev_loc {n : Nat} : ev cf gl (.loc n) E = look n E := (rfl)
@[simp] theorem ev_bin {o : BOp} {a b : Ex} : ev cf gl (.bin o a b) E = (ev cf gl a E).bind fun x => (ev cf gl b E).bind fun y => binD o x y := (rfl)
@[simp] theorem ev_neg {a : Ex} : ev cf gl (.neg a) E = (ev cf gl a E).bind negD := (rfl)
@[simp] theorem ev_nott {a : Ex} : ev cf gl (.nott a) E = ((ev cf gl a E).bind toB).map fun c => .bl (!c) := (rfl)
@[simp] theorem ev_and {a b : Ex} {r : Exs} : ev cf gl (.bool .And (.cons a (.cons b r))) E = ((ev cf gl a E).bind toB).bind fun c => if c = true then ev cf gl (.bool .And (.cons b r)) E else some (.bl false) := (rfl)
@[simp] theorem ev_or {a b : Ex} {r : Exs} : ev cf gl (.bool .Or (.cons a (.cons b r))) E = ((ev cf gl a E).bind toB).bind fun c => if c = true then some (.bl true) else ev cf gl (.bool .Or (.cons b r)) E := (rfl)
@[simp] theorem ev_one {o : BoolOp} {a : Ex} : ev cf gl (.bool o (.cons a .nil)) E = ev cf gl a E := (rfl)
@[simp] theorem ev_cmp {o : CmpOp} {a b : Ex} : ev cf gl (.cmp o a b) E = (ev cf gl a E).bind fun x => (ev cf gl b E).bind fun y => blD (cmpD o x y) := (rfl)
@[simp] theorem ev_chain {o o' : CmpOp} {a b c : Ex} : ev cf gl (.chain o o' a b c) E = (ev cf gl a E).bind fun x => (ev cf gl b E).bind fun y => (cmpD o x y).bind fun t => if t = true then (ev cf gl c E).bind fun z => blD (cmpD o' y z) else some (.bl false) := (rfl)
@[simp] theorem ev_ife {t a b : Ex} : ev cf gl (.ife t a b) E = (tev cf gl t E).bind fun c => if c = true then ev cf gl a E else ev cf gl b E := (rfl)
@[simp] theorem ev_tup {xs : Exs} : ev cf gl (.tup xs) E = ((evs cf gl xs E).bind short).map .tup := (rfl)
@[simp] theorem ev_sub {a i : Ex} : ev cf gl (.sub a i) E = (ev cf gl a E).bind fun x => (ev cf gl i E).bind fun y => ixD x y := (rfl)
@[simp] theorem ev_subO {n : Nat} {i : Ex} : ev cf gl (.subO n i) E = ixOwn n (ev cf gl i) E := (rfl)
@[simp] theorem ev_lenO {n : Nat} : ev cf gl (.lenO n) E = lenOwn n E := (rfl)
@[simp] theorem ev_inO {b : Bool} {n : Nat} {a : Ex} : ev cf gl (.inO b n a) E = inOwn b n (ev cf gl a) E := (rfl)
@[simp] theorem ev_sl {a : Ex} {l h : Opt} : ev cf gl (.sl a l h) E = ap3 slD (ev cf gl a) (partD (evP cf gl l)) (partD (evP cf gl h)) E := (rfl)
@[simp] theorem ev_call {f : Nat} {xs : Exs} : ev cf gl (.call f xs) E = (evs cf gl xs E).bind (cf f) := (rfl)
@[simp] theorem ev_bf {b : BF} {xs : Exs} : ev cf gl (.bf b xs) E = (evs cf gl xs E).bind (bfD b) := (rfl)
@[simp] theorem ev_gcd {xs : Exs} : ev cf gl (.gcd xs) E = (evs cf gl xs E).bind gcdD := (rfl)
@[simp] theorem ev_isi {T : TyN} {a : Ex} : ev cf gl (.isi T a) E = (ev cf gl a E).map fun d => .bl (isiB T d) := (rfl)
@[simp] theorem ev_bits {a : Ex} : ev cf gl (.bits a) E = bitsD (ev cf gl a) E := (rfl)
@[simp] theorem ev_lis {l : Lx} : ev cf gl (.lis l) E = (evL cf gl l E).map .lst := (rfl)
@[simp] theorem ev_dic {p : Prs} : ev cf gl (.dic p) E = dicD (evKs cf gl p) (evVs cf gl p) E := (rfl)
@[simp] theorem ev_mth {m : Mt} {a : Ex} {xs : Exs} : ev cf gl (.mth m a xs) E = (ev cf gl a E).bind fun x => (evs cf gl xs E).bind fun ds => mtD m x ds := (rfl)
@[simp] theorem ev_fst {xs : Exs} : ev cf gl (.fst xs) E = (jsE (evFs cf gl xs) Str.empty E).map .str := (rfl)
@[simp] theorem ev_gin {n : Nat} {a : Ex} : ev cf gl (.gin n a) E = (ev cf gl a E).bind fun x => (gl n).bind fun g => ginG g x := (rfl)
@[simp] theorem ev_gix {n : Nat} {a : Ex} : ev cf gl (.gix n a) E = (ev cf gl a E).bind fun x => (gl n).bind fun g => gixG g x := (rfl)
@[simp] theorem tev_mth {m : Mt} {a : Ex} {xs : Exs} : tev cf gl (.mth m a xs) E = (ev cf gl (.mth m a xs) E).bind truD := (rfl)
@[simp] theorem tev_gin {n : Nat} {a : Ex} : tev cf gl (.gin n a) E = (ev cf gl (.gin n a) E).bind toB := (rfl)
@[simp] theorem tev_gix {n : Nat} {a : Ex} : tev cf gl (.gix n a) E = (ev cf gl (.gix n a) E).bind truD := (rfl)
@[simp] theorem evFs_nil : evFs cf gl .nil = [] := (rfl)
@[simp] theorem evFs_cons {a : Ex} {r : Exs} : evFs cf gl (.cons a r) = (fun E => (ev cf gl a E).bind fmtD) :: evFs cf gl r := (rfl)
@[simp] theorem jsE_nil {acc : Str} : jsE [] acc E = some acc := (rfl)
@[simp] theorem jsE_cons {f : Env' → Option D} {fs : List (Env' → Option D)} {acc : Str} : jsE (f :: fs) acc E = (f E).bind fun
    | .str y => if (acc ++ y).length ≤ lineN then jsE fs (acc ++ y) E else none
    | _ => none := (rfl)
@[simp] theorem fmt_str {y : Str} : fmtD (.str y) = if y.length ≤ lineN then some (.str y) else none := (rfl)
@[simp] theorem fmt_int {i : Int} : fmtD (.int i) = if i.natAbs.log2 < 1920 then some (.str (toString i)) else none := (rfl)
@[simp] theorem evL_rg1 {a : Ex} : evL cf gl (.rg1 a) E = (ev cf gl a E).bind rng1D := (rfl)
@[simp] theorem evL_rg2 {a b : Ex} : evL cf gl (.rg2 a b) E = (ev cf gl a E).bind fun x => (ev cf gl b E).bind fun y => rng2D x y := (rfl)
@[simp] theorem evL_rvl {a : Ex} : evL cf gl (.rvl a) E = ((ev cf gl a E).bind lisOf).map List.reverse := (rfl)
@[simp] theorem evL_zpl {a b : Ex} : evL cf gl (.zpl a b) E = (ev cf gl a E).bind fun x => (ev cf gl b E).bind fun y => zipD x y := (rfl)
@[simp] theorem evL_spl {a b : Ex} : evL cf gl (.spl a b) E = (ev cf gl a E).bind fun x => (ev cf gl b E).bind fun y => splO x y := (rfl)
@[simp] theorem evL_call {f : Nat} {xs : Exs} : evL cf gl (.call f xs) E = (evs cf gl xs E).bind fun ds => (cf (f + ownN) ds).bind lstOf := (rfl)
@[simp] theorem lstOf_lst {ds : List D} : lstOf (.lst ds) = some ds := (rfl)
@[simp] theorem rng1D_int {j : Int} : rng1D (.int j) = if rgB 0 j = true then some (rgD 0 j) else none := (rfl)
@[simp] theorem rng2D_int {i j : Int} : rng2D (.int i) (.int j) = if rgB i j = true then some (rgD i j) else none := (rfl)
@[simp] theorem zipD_lst {xs ys : List D} : zipD (.lst xs) (.lst ys) = some ((xs.zip ys).map fun p => .tup [p.1, p.2]) := (rfl)
@[simp] theorem lisOf_lst {ds : List D} : lisOf (.lst ds) = some ds := (rfl)
@[simp] theorem add_str {x y : Str} : binD .add (.str x) (.str y) = if x.length + y.length ≤ lineN then some (.str (x ++ y)) else none := (rfl)
@[simp] theorem mul_str {x : Str} {k : Int} : binD .mul (.str x) (.int k) = if k ≤ 1000000 ∧ -1000000 ≤ k ∧ x.length * k.toNat ≤ 1000000 then some (.str (strTimes x k.toNat)) else none := (rfl)
@[simp] theorem len_str {x : Str} : bfD .len [.str x] = if x.length ≤ lineN then some (.int (x.length : Nat)) else none := (rfl)
@[simp] theorem ofStr_inj {a b : String} : (Str.ofString a = Str.ofString b) = (a = b) := by
  refine propext ⟨fun h => ?_, fun h => congrArg _ h⟩
  rw [Str.ofString_eq_toList, Str.ofString_eq_toList] at h
  have h : a.toList.map Char.toNat = b.toList.map Char.toNat := congrArg (fun s : Str => s.cps.toList) h
  have inj : ∀ {x y : Char}, x.toNat = y.toNat → x = y := fun {x y} h => Char.ext (UInt32.toNat_inj.mp h)
  have key : ∀ (l m : List Char), l.map Char.toNat = m.map Char.toNat → l = m := by
    intro l
    induction l with
    | nil => intro m h; cases m with | nil => rfl | cons _ _ => cases h
    | cons x l ih =>
      intro m h
      cases m with
      | nil => cases h
      | cons y m =>
        rw [List.map_cons, List.map_cons, List.cons.injEq] at h
        rw [inj h.1, ih m h.2]
  exact String.toList_inj.mp (key _ _ h)
@[simp] theorem evs_nil : evs cf gl .nil E = some [] := (rfl)
@[simp] theorem evs_cons {a : Ex} {r : Exs} : evs cf gl (.cons a r) E = (ev cf gl a E).bind fun x => (evs cf gl r E).map fun r => x :: r := (rfl)
@[simp] theorem evP_no : evP cf gl .no = none := (rfl)
@[simp] theorem evP_yes {a : Ex} : evP cf gl (.yes a) = some (ev cf gl a) := (rfl)
@[simp] theorem evC_no : evC cf gl .no E = some true := (rfl)
@[simp] theorem evC_yes {a : Ex} : evC cf gl (.yes a) E = tev cf gl a E := (rfl)
@[simp] theorem evL_lst {xs : Exs} : evL cf gl (.lst xs) E = (evs cf gl xs E).bind short := (rfl)
@[simp] theorem evL_bin {o : BOp} {a b : Ex} : evL cf gl (.bin o a b) E = (ev cf gl a E).bind fun x => (ev cf gl b E).bind fun y => binO o x y := (rfl)
@[simp] theorem evL_sl {a : Ex} {l h : Opt} : evL cf gl (.sl a l h) E = ap3 slO (ev cf gl a) (partD (evP cf gl l)) (partD (evP cf gl h)) E := (rfl)
@[simp] theorem evL_rev {a : Ex} : evL cf gl (.rev a) E = (ev cf gl a E).bind fun d => (lisOf d).map List.reverse := (rfl)
@[simp] theorem evL_bo {b : BO} {xs : Exs} : evL cf gl (.bo b xs) E = (evs cf gl xs E).bind (bfO b) := (rfl)
@[simp] theorem evL_comp {own : List Nat} {t : Tg} {e : Ex} {c : Opt} {it : Ix} : evL cf gl (.comp own t e c it) E = (evI cf gl it E).bind fun ds => if ds.length ≤ lineN then compL t (evC cf gl c) (ev cf gl e) (wipeE E own) ds else none := (rfl)
@[simp] theorem evI_ex {a : Ex} : evI cf gl (.ex a) E = (ev cf gl a E).bind itemsD := (rfl)
@[simp] theorem evI_fn {f : IFn} {xs : Exs} : evI cf gl (.fn f xs) E = (evs cf gl xs E).bind (ifD f) := (rfl)
@[simp] theorem tev_nott {a : Ex} : tev cf gl (.nott a) E = (tev cf gl a E).map (!·) := (rfl)
@[simp] theorem tev_and {a b : Ex} {r : Exs} : tev cf gl (.bool .And (.cons a (.cons b r))) E = (tev cf gl a E).bind fun c => if c = true then tev cf gl (.bool .And (.cons b r)) E else some false := (rfl)
@[simp] theorem tev_or {a b : Ex} {r : Exs} : tev cf gl (.bool .Or (.cons a (.cons b r))) E = (tev cf gl a E).bind fun c => if c = true then some true else tev cf gl (.bool .Or (.cons b r)) E := (rfl)
@[simp] theorem tev_one {o : BoolOp} {a : Ex} : tev cf gl (.bool o (.cons a .nil)) E = tev cf gl a E := (rfl)
@[simp] theorem tev_cmp {o : CmpOp} {a b : Ex} : tev cf gl (.cmp o a b) E = (ev cf gl a E).bind fun x => (ev cf gl b E).bind fun y => cmpD o x y := by
  show ((ev cf gl a E).bind fun x => (ev cf gl b E).bind fun y => blD (cmpD o x y)).bind toB = _
  cases ev cf gl a E with
  | none => rfl
  | some x =>
    cases ev cf gl b E with
    | none => rfl
    | some y =>
      show (blD (cmpD o x y)).bind toB = cmpD o x y
      cases cmpD o x y <;> rfl
@[simp] theorem tev_chain {o o' : CmpOp} {a b c : Ex} : tev cf gl (.chain o o' a b c) E = (ev cf gl (.chain o o' a b c) E).bind toB := (rfl)
@[simp] theorem tev_non : tev cf gl .non E = some false := (rfl)
@[simp] theorem tev_bl {b : Bool} : tev cf gl (.bl b) E = some b := (rfl)
@[simp] theorem tev_int {i : Int} : tev cf gl (.int i) E = some (i != 0) := (rfl)
@[simp] theorem tev_loc {n : Nat} : tev cf gl (.loc n) E = (look n E).bind truD := (rfl)
@[simp] theorem tev_bin {o : BOp} {a b : Ex} : tev cf gl (.bin o a b) E = (ev cf gl (.bin o a b) E).bind truD := (rfl)
@[simp] theorem tev_sub {a i : Ex} : tev cf gl (.sub a i) E = (ev cf gl (.sub a i) E).bind truD := (rfl)
@[simp] theorem tev_subO {n : Nat} {i : Ex} : tev cf gl (.subO n i) E = (ev cf gl (.subO n i) E).bind truD := (rfl)
@[simp] theorem tev_lenO {n : Nat} : tev cf gl (.lenO n) E = (ev cf gl (.lenO n) E).bind truD := (rfl)
@[simp] theorem tev_inO {b : Bool} {n : Nat} {a : Ex} : tev cf gl (.inO b n a) E = (ev cf gl (.inO b n a) E).bind toB := (rfl)
@[simp] theorem tev_call {f : Nat} {xs : Exs} : tev cf gl (.call f xs) E = (ev cf gl (.call f xs) E).bind truD := (rfl)
@[simp] theorem tev_bf {b : BF} {xs : Exs} : tev cf gl (.bf b xs) E = (ev cf gl (.bf b xs) E).bind truD := (rfl)
@[simp] theorem tev_isi {T : TyN} {a : Ex} : tev cf gl (.isi T a) E = (ev cf gl (.isi T a) E).bind truD := (rfl)
@[simp] theorem tev_glo {n : Nat} : tev cf gl (.glo n) E = (gl n).bind truD := (rfl)
@[simp] theorem tev_gcd {xs : Exs} : tev cf gl (.gcd xs) E = (ev cf gl (.gcd xs) E).bind truD := (rfl)
@[simp] theorem tev_sl {a : Ex} {l h : Opt} : tev cf gl (.sl a l h) E = (ev cf gl (.sl a l h) E).bind truD := (rfl)
@[simp] theorem tev_lis {l : Lx} : tev cf gl (.lis l) E = (ev cf gl (.lis l) E).bind truD := (rfl)
@[simp] theorem tev_bits {a : Ex} : tev cf gl (.bits a) E = (ev cf gl (.bits a) E).bind truD := (rfl)

/-! environments -/
@[simp] theorem look_zero {d : D} {r : Env'} : look 0 (.f d :: r) = some d := (rfl)
@[simp] theorem look_succ {n : Nat} {c : Cell} {r : Env'} : look (n + 1) (c :: r) = look n r := (rfl)
@[simp] theorem wipeE_nil : wipeE E [] = E := (rfl)
@[simp] theorem wipeE_cons {v : Nat} {vs : List Nat} : wipeE E (v :: vs) = (wipeE E vs).set v .u := (rfl)
@[simp] theorem frz_nil : frz [] E = E := (rfl)
@[simp] theorem ixOwn_zero {ds : List D} {r : Env'} {fb : Env' → Option D} : ixOwn 0 fb (.o ds :: r) = (fb (.o ds :: r)).bind fun | .int j => atI ds j | _ => none := (rfl)
@[simp] theorem asgT_nm {i : Nat} {d : D} : asgT (.nm i) d E = some (E.set i (.f d)) := (rfl)
@[simp] theorem asgT_tp {ts : List Tg} {ds : List D} : asgT (.tp ts) (.tup ds) E = asgTs ts ds E := (rfl)
@[simp] theorem asgTs_nil : asgTs [] [] E = some E := (rfl)
@[simp] theorem asgTs_cons {t : Tg} {ts : List Tg} {d : D} {ds : List D} : asgTs (t :: ts) (d :: ds) E = (asgT t d E).bind fun E' => asgTs ts ds E' := (rfl)
@[simp] theorem lineN_eq : lineN = 16777216 := (rfl)
@[simp] theorem short_ok {ds : List D} : short ds = if ds.length ≤ lineN then some ds else none := (rfl)

/-! operators -/
@[simp] theorem add_int {i j : Int} : binD .add (.int i) (.int j) = some (.int (i + j)) := (rfl)
@[simp] theorem sub_int {i j : Int} : binD .sub (.int i) (.int j) = some (.int (i - j)) := (rfl)
@[simp] theorem mod_int {i j : Int} : binD .mod (.int i) (.int j) = if 0 < j then some (.int (i % j)) else none := (rfl)
@[simp] theorem mul_int {i j : Int} : binD .mul (.int i) (.int j) = if mulOk i j then some (.int (i * j)) else none := (rfl)
@[simp] theorem fdiv_int {i j : Int} : binD .fdiv (.int i) (.int j) = if divOk j then some (.int (i / j)) else none := (rfl)
@[simp] theorem xor_int {i j : Int} : binD .xor (.int i) (.int j) = some (.int (Builtin.bitXor i j)) := (rfl)
@[simp] theorem pow_int {i j : Int} : binD .pow (.int i) (.int j) = if 0 ≤ j ∧ j ≤ 1000000 ∧ i.natAbs < 18446744073709551616 then some (.int (i ^ j.toNat)) else none := (rfl)
@[simp] theorem neg_int {i : Int} : negD (.int i) = some (.int (-i)) := (rfl)
@[simp] theorem eq_int {i j : Int} : cmpD .Eq (.int i) (.int j) = some (decide (i = j)) := (rfl)
@[simp] theorem ne_int {i j : Int} : cmpD .NotEq (.int i) (.int j) = some (!decide (i = j)) := (rfl)
@[simp] theorem eq_str {i j : Str} : cmpD .Eq (.str i) (.str j) = some (decide (i = j)) := (rfl)
@[simp] theorem ne_str {i j : Str} : cmpD .NotEq (.str i) (.str j) = some (!decide (i = j)) := (rfl)
@[simp] theorem lt_int {i j : Int} : cmpD .Lt (.int i) (.int j) = some (decide (i < j)) := (rfl)
@[simp] theorem le_int {i j : Int} : cmpD .LtE (.int i) (.int j) = some (decide (i ≤ j)) := (rfl)
@[simp] theorem gt_int {i j : Int} : cmpD .Gt (.int i) (.int j) = some (decide (j < i)) := (rfl)
@[simp] theorem ge_int {i j : Int} : cmpD .GtE (.int i) (.int j) = some (decide (j ≤ i)) := (rfl)
@[simp] theorem is_non {d : D} : cmpD .Is d .non = some (match d with | .non => true | _ => false) := (rfl)
@[simp] theorem isnot_non {d : D} : cmpD .IsNot d .non = some (!(match d with | .non => true | _ => false)) := by cases d <;> rfl
@[simp] theorem is_bl {x y : Bool} : cmpD .Is (.bl x) (.bl y) = some (decide (x = y)) := (rfl)
@[simp] theorem isnot_bl {x y : Bool} : cmpD .IsNot (.bl x) (.bl y) = some (!decide (x = y)) := (rfl)
@[simp] theorem blD_s {b : Bool} : blD (some b) = some (.bl b) := (rfl)
@[simp] theorem toB_bl {b : Bool} : toB (.bl b) = some b := (rfl)
@[simp] theorem truD_bl {b : Bool} : truD (.bl b) = some b := (rfl)
@[simp] theorem truD_int {i : Int} : truD (.int i) = some (i != 0) := (rfl)
@[simp] theorem truD_non : truD .non = some false := (rfl)
@[simp] theorem truD_lst {ds : List D} : truD (.lst ds) = some !ds.isEmpty := (rfl)
@[simp] theorem truD_tup {ds : List D} : truD (.tup ds) = some !ds.isEmpty := (rfl)
@[simp] theorem eq_bl {i j : Bool} : cmpD .Eq (.bl i) (.bl j) = some (decide (i = j)) := by cases i <;> cases j <;> decide +kernel
@[simp] theorem ne_bl {i j : Bool} : cmpD .NotEq (.bl i) (.bl j) = some (!decide (i = j)) := by cases i <;> cases j <;> decide +kernel
@[simp] theorem addO_lst {xs ys : List D} : binO .add (.lst xs) (.lst ys) = if xs.length + ys.length ≤ lineN then some (xs ++ ys) else none := (rfl)
@[simp] theorem add_lst {xs ys : List D} : binD .add (.lst xs) (.lst ys) = if xs.length + ys.length ≤ lineN then some (.lst (xs ++ ys)) else none := (rfl)
@[simp] theorem items_lst {ds : List D} : itemsD (.lst ds) = some ds := (rfl)
@[simp] theorem items_tup {ds : List D} : itemsD (.tup ds) = some ds := (rfl)
@[simp] theorem items_fls {ds : List D} : itemsD (.fls ds) = some ds := (rfl)
@[simp] theorem len_lst {ds : List D} : bfD .len [.lst ds] = some (.int (ds.length : Nat)) := (rfl)
@[simp] theorem len_tup {ds : List D} : bfD .len [.tup ds] = some (.int (ds.length : Nat)) := (rfl)
@[simp] theorem len_fls {ds : List D} : bfD .len [.fls ds] = some (.int (ds.length : Nat)) := (rfl)
@[simp] theorem abs_int {i : Int} : bfD .abs [.int i] = some (.int (if i < 0 then -i else i)) := (rfl)
@[simp] theorem max2_int {i j : Int} : bfD .max2 [.int i, .int j] = some (.int (if j > i then j else i)) := (rfl)
@[simp] theorem min2_int {i j : Int} : bfD .min2 [.int i, .int j] = some (.int (if j < i then j else i)) := (rfl)
@[simp] theorem int_int {i : Int} : bfD .int [.int i] = some (.int i) := (rfl)
@[simp] theorem int_bl {b : Bool} : bfD .int [.bl b] = some (.int (if b then 1 else 0)) := (rfl)
@[simp] theorem rng1_int {j : Int} : ifD .rng1 [.int j] = if small62 j then some ((List.range j.toNat).map fun i => .int (0 + (i : Nat))) else none := (rfl)
@[simp] theorem rng2_int {i j : Int} : ifD .rng2 [.int i, .int j] = if small62 i && small62 j then some ((List.range (j - i).toNat).map fun k => .int (i + (k : Nat))) else none := (rfl)
theorem intsOf_map : ∀ (ns : List Int), intsOf (ns.map .int) = some ns
  | [] => rfl
  | i :: r => by
    show (intsOf (r.map .int)).map (i :: ·) = _
    rw [intsOf_map r]; rfl
theorem blsOf_map : ∀ (ns : List Bool), blsOf (ns.map .bl) = some ns
  | [] => rfl
  | i :: r => by
    show (blsOf (r.map .bl)).map (i :: ·) = _
    rw [blsOf_map r]; rfl
theorem all_bls {ns : List Bool} : bfD .alll [.lst (ns.map .bl)] = some (.bl (ns.all id)) := by
  show ((some (ns.map D.bl)).bind blsOf).map _ = _
  rw [Option.bind_some, blsOf_map]; rfl
theorem any_bls {ns : List Bool} : bfD .anyl [.lst (ns.map .bl)] = some (.bl (ns.any id)) := by
  show ((some (ns.map D.bl)).bind blsOf).map _ = _
  rw [Option.bind_some, blsOf_map]; rfl
theorem sum_ints {ns : List Int} : bfD .suml [.lst (ns.map .int)] = some (.int ns.sum) := by
  show ((some (ns.map D.int)).bind intsOf).map _ = _
  rw [Option.bind_some, intsOf_map]; rfl
theorem sorted_ints {ns : List Int} : bfO .sorted [.lst (ns.map .int)] = some ((isort ns).map .int) := by
  show ((some (ns.map D.int)).bind intsOf).map _ = _
  rw [Option.bind_some, intsOf_map]; rfl
/-! items -/
@[simp] theorem ix_lst {ds : List D} {i : Int} : ixD (.lst ds) (.int i) = atI ds i := (rfl)
@[simp] theorem ix_tup {ds : List D} {i : Int} : ixD (.tup ds) (.int i) = atI ds i := (rfl)
@[simp] theorem ix_dic {kd : List (Key × D)} {y : Str} : ixD (.dic kd) (.str y) = getK kd (.inr y) := (rfl)
@[simp] theorem ix_fls {ds : List D} {i : Int} : ixD (.fls ds) (.int i) = atI ds i := (rfl)
theorem atI_nat {α : Type} {ds : List α} {k : Nat} (h : k < ds.length) : atI ds (k : Int) = ds[k]? := by
  unfold atI ixN
  rw [if_pos (Int.natCast_nonneg k), if_pos (by omega)]
  simp
theorem atI_get {α : Type} {ds : List α} {i : Int} {k : Nat} {d : α} (hi : i = (k : Int)) (h : ds[k]? = some d) : atI ds i = some d := by
  subst hi
  rw [atI_nat (List.getElem?_eq_some_iff.mp h).1, h]
theorem atI_ints {ns : List Int} {i : Int} (h0 : 0 ≤ i) (h : i.toNat < ns.length) : atI (ns.map D.int) i = some (.int ns[i.toNat]) :=
  atI_get (k := i.toNat) (by omega) (by rw [List.getElem?_map, List.getElem?_eq_getElem h]; rfl)

/-! side conditions -/
theorem mulOk_l {i j : Int} (h1 : -18446744073709551616 < i) (h2 : i < 18446744073709551616) : mulOk i j = true := by
  unfold mulOk
  simp only [Bool.or_eq_true, decide_eq_true_eq]
  exact .inr (.inl (by omega))
theorem mulOk_r {i j : Int} (h1 : -18446744073709551616 < j) (h2 : j < 18446744073709551616) : mulOk i j = true := by
  unfold mulOk
  simp only [Bool.or_eq_true, decide_eq_true_eq]
  exact .inr (.inr (by omega))
theorem mulOk_pow {i j : Int} (a b : Nat) (h1 : i.natAbs < 2 ^ (a + 1)) (h2 : j.natAbs < 2 ^ (b + 1)) (h : a + b < 1000000) : mulOk i j = true := by
  unfold mulOk
  simp only [Bool.or_eq_true, decide_eq_true_eq]
  refine .inl ?_
  have e1 : i.natAbs.log2 ≤ a := by
    by_cases z : i.natAbs = 0
    · rw [z]; simp
    · exact Nat.lt_succ_iff.mp ((Nat.log2_lt z).mpr h1)
  have e2 : j.natAbs.log2 ≤ b := by
    by_cases z : j.natAbs = 0
    · rw [z]; simp
    · exact Nat.lt_succ_iff.mp ((Nat.log2_lt z).mpr h2)
  omega
theorem divOk_pow {j : Int} (a : Nat) (h0 : 0 < j) (h1 : j.natAbs < 2 ^ (a + 1)) (h : a < 9000) : divOk j = true := by
  unfold divOk
  simp only [Bool.and_eq_true, decide_eq_true_eq]
  exact ⟨h0, by have := (Nat.log2_lt (by omega)).mpr h1; omega⟩
theorem divOk_small {j : Int} (h0 : 0 < j) (h1 : j < 18446744073709551616) : divOk j = true := divOk_pow 63 h0 (by omega) (by omega)
theorem small62_of {i : Int} (h0 : -4611686018427387904 ≤ i) (h1 : i < 4611686018427387904) : small62 i = true := by
  unfold small62
  simp [h0, h1]

/-! statements -/
@[simp] theorem exs_nil : exs cf gl wn .nil E = some (.nx E) := (rfl)
theorem exs_cons {fz : List Nat} {s : Sm} {r : Sms} : exs cf gl wn (.cons fz s r) E = seqF (ex1 cf gl wn s) (exs cf gl wn r) (frz fz E) := rfl
theorem seqF_def {f g : Env' → Option Fl} : seqF f g E = (f E).bind fun
  | .nx E' => g E'
  | fl => some fl := rfl
theorem exs_nx {fz : List Nat} {s : Sm} {r : Sms} {E' : Env'} {x : Option Fl} (h : ex1 cf gl wn s (frz fz E) = some (.nx E')) (k : exs cf gl wn r E' = x) : exs cf gl wn (.cons fz s r) E = x := by
  rw [exs_cons, seqF_def, h]
  exact k
theorem exs_rt {fz : List Nat} {s : Sm} {r : Sms} {d : D} (h : ex1 cf gl wn s (frz fz E) = some (.rt d)) : exs cf gl wn (.cons fz s r) E = some (.rt d) := by
  rw [exs_cons, seqF_def, h]
  rfl
@[simp] theorem ex1_asg {t : Tg} {e : Ex} : ex1 cf gl wn (.asg t e) E = (ev cf gl e E).bind fun d => (asgT t d E).map .nx := (rfl)
@[simp] theorem ex1_asgO {i : Nat} {l : Lx} : ex1 cf gl wn (.asgO i l) E = (evL cf gl l E).map fun ds => .nx (E.set i (.o ds)) := (rfl)
@[simp] theorem ex1_par {i j : Nat} {a b : Ex} : ex1 cf gl wn (.par i j a b) E = (ev cf gl a E).bind fun x => (ev cf gl b E).map fun y => .nx ((E.set i (.f x)).set j (.f y)) := (rfl)
@[simp] theorem ex1_par3 {i j l : Nat} {a b c : Ex} : ex1 cf gl wn (.par3 i j l a b c) E = (ev cf gl a E).bind fun x => (ev cf gl b E).bind fun y => (ev cf gl c E).map fun z => .nx (((E.set i (.f x)).set j (.f y)).set l (.f z)) := (rfl)
@[simp] theorem ex1_aug {i : Nat} {o : BOp} {e : Ex} : ex1 cf gl wn (.aug i o e) E = (look i E).bind fun x => (ev cf gl e E).bind fun y => (augF o x y).map fun z => .nx (E.set i (.f z)) := (rfl)
@[simp] theorem ex1_app {i : Nat} {e : Ex} : ex1 cf gl wn (.app i e) E = appF i (ev cf gl e) E := (rfl)
@[simp] theorem ex1_seti {i : Nat} {j e : Ex} : ex1 cf gl wn (.seti i j e) E = setiF i (ev cf gl j) (ev cf gl e) E := (rfl)
@[simp] theorem ex1_drop {e : Ex} : ex1 cf gl wn (.drop e) E = (ev cf gl e E).map fun _ => .nx E := (rfl)
@[simp] theorem ex1_ret {e : Ex} : ex1 cf gl wn (.ret e) E = (ev cf gl e E).map .rt := (rfl)
@[simp] theorem ex1_retO {i : Nat} : ex1 cf gl wn (.retO i) E = retOF i E := (rfl)
theorem retOF_ok {i : Nat} {ds : List D} (h : E[i]? = some (.o ds)) : retOF i E = some (.ro ds) := by
  unfold retOF
  rw [h]
theorem exs_ro {fz : List Nat} {s : Sm} {r : Sms} {ds : List D} (h : ex1 cf gl wn s (frz fz E) = some (.ro ds)) : exs cf gl wn (.cons fz s r) E = some (.ro ds) := by
  rw [exs_cons, seqF_def, h]
  rfl
@[simp] theorem outF_ro {ds : List D} : outF (.ro ds) = some (.lst ds) := (rfl)
@[simp] theorem outO_ro {ds : List D} : outO (.ro ds) = some (.lst ds) := (rfl)
@[simp] theorem ex1_retN : ex1 cf gl wn .retN E = some (.rt .non) := (rfl)
@[simp] theorem ex1_ife {c : Ex} {a b : Sms} : ex1 cf gl wn (.ife c a b) E = (tev cf gl c E).bind fun t => if t = true then exs cf gl wn a E else exs cf gl wn b E := (rfl)
@[simp] theorem ex1_ifb {is : List Nat} {c : Ex} {a b : Sms} : ex1 cf gl wn (.ifb is c a b) E = (tev cf gl c (frz is E)).bind fun t => if t = true then exs cf gl wn a E else exs cf gl wn b E := (rfl)
@[simp] theorem ex1_whl {c : Ex} {b : Sms} : ex1 cf gl wn (.whl c b) E = whileF (tev cf gl c) (exs cf gl wn b) wn E := (rfl)
@[simp] theorem ex1_for {t : Tg} {it : Ix} {b : Sms} : ex1 cf gl wn (.for_ t it b) E = (evI cf gl it E).bind fun ds => forF t (exs cf gl wn b) ds E := (rfl)
@[simp] theorem ex1_pass : ex1 cf gl wn .pass E = some (.nx E) := (rfl)
@[simp] theorem ex1_brk : ex1 cf gl wn .brk E = some (.bk E) := (rfl)
@[simp] theorem ex1_cont : ex1 cf gl wn .cont E = some (.ct E) := (rfl)
@[simp] theorem aug_add {i j : Int} : augF .add (.int i) (.int j) = some (.int (i + j)) := (rfl)
@[simp] theorem aug_sub {i j : Int} : augF .sub (.int i) (.int j) = some (.int (i - j)) := (rfl)
@[simp] theorem outF_rt {d : D} : outF (.rt d) = some d := (rfl)
@[simp] theorem outF_nx : outF (.nx E) = some .non := (rfl)
theorem callN_eq {tab : Nat → Option Fn} {k f np ns : Nat} {body : Sms} {ds : List D} (ht : tab f = some ⟨np, ns, body⟩) (hl : ds.length = np) (hf : f < ownN := by decide) : callN tab gl wn (k + 1) f ds = (exs (callN tab gl wn k) gl wn body (startE ns ds)).bind outF := by
  rw [callN, Nat.mod_eq_of_lt hf, ht, Option.bind_some, if_pos hl, if_pos hf]
theorem callO_eq {tab : Nat → Option Fn} {k f np ns : Nat} {body : Sms} {ds : List D} (ht : tab f = some ⟨np, ns, body⟩) (hl : ds.length = np) (hf : f < ownN := by decide) : callN tab gl wn (k + 1) (f + ownN) ds = (exs (callN tab gl wn k) gl wn body (startE ns ds)).bind outO := by
  obtain ⟨_, e1, e2⟩ := own_ne hf
  rw [callN, e1, ht, Option.bind_some, if_pos hl, if_neg e2]
/-! loops -/
theorem whileF_step {c : Env' → Option Bool} {b : Env' → Option Fl} {n : Nat} {E' : Env'} (h : c E = some true) (h1 : b E = some (.nx E')) : whileF c b (n + 1) E = whileF c b n E' := by
  show (c E).bind _ = _
  rw [h]
  simp only [Option.bind_some, if_true, h1]
theorem whileF_end {c : Env' → Option Bool} {b : Env' → Option Fl} {n : Nat} (h : c E = some false) : whileF c b (n + 1) E = some (.nx E) := by
  show (c E).bind _ = _
  rw [h]
  simp
/-- a while loop with a measure -/
theorem whileF_inv {c : Env' → Option Bool} {b : Env' → Option Fl} (I : Nat → Env' → Prop) (step : ∀ m E, I m E → c E = some false ∨ ∃ E' m', c E = some true ∧ b E = some (.nx E') ∧ m' < m ∧ I m' E') :
    ∀ n m E, m < n → I m E → ∃ E' m', whileF c b n E = some (.nx E') ∧ I m' E' ∧ c E' = some false
  | 0, m, E, h, _ => by omega
  | n + 1, m, E, h, i => by
    rcases step m E i with s | ⟨E', m', s1, s2, s3, s4⟩
    · exact ⟨E, m, whileF_end s, i, s⟩
    · rw [whileF_step s1 s2]
      exact whileF_inv I step n m' E' (by omega) s4
@[simp] theorem forF_nil {t : Tg} {b : Env' → Option Fl} : forF t b [] E = some (.nx E) := (rfl)
theorem forF_cons {t : Tg} {b : Env' → Option Fl} {d : D} {r : List D} {E1 E2 : Env'} (h1 : asgT t d E = some E1) (h2 : b E1 = some (.nx E2)) : forF t b (d :: r) E = forF t b r E2 := by
  show (asgT t d E).bind _ = _
  rw [h1]
  simp only [Option.bind_some, h2]
theorem forF_ct {t : Tg} {b : Env' → Option Fl} {d : D} {r : List D} {E1 E2 : Env'} (h1 : asgT t d E = some E1) (h2 : b E1 = some (.ct E2)) : forF t b (d :: r) E = forF t b r E2 := by
  show (asgT t d E).bind _ = _
  rw [h1]
  simp only [Option.bind_some, h2]
theorem forF_rt {t : Tg} {b : Env' → Option Fl} {d : D} {r : List D} {E1 : Env'} {x : D} (h1 : asgT t d E = some E1) (h2 : b E1 = some (.rt x)) : forF t b (d :: r) E = some (.rt x) := by
  show (asgT t d E).bind _ = _
  rw [h1]
  simp only [Option.bind_some, h2]
/-- a for loop that goes through -/
theorem forF_inv {t : Tg} {b : Env' → Option Fl} : ∀ (ds : List D) (I : Nat → Env' → Prop) (E : Env'), I 0 E →
    (∀ i d E, ds[i]? = some d → I i E → ∃ E1 E2, asgT t d E = some E1 ∧ (b E1 = some (.nx E2) ∨ b E1 = some (.ct E2)) ∧ I (i + 1) E2) → ∃ E', forF t b ds E = some (.nx E') ∧ I ds.length E'
  | [], I, E, h0, _ => ⟨E, rfl, h0⟩
  | d :: r, I, E, h0, st => by
    obtain ⟨E1, E2, s1, s2, s3⟩ := st 0 d E rfl h0
    obtain ⟨E', e1, e2⟩ := forF_inv r (fun i => I (i + 1)) E2 s3 fun i d' E h hi => st (i + 1) d' E h hi
    refine ⟨E', ?_, e2⟩
    rcases s2 with s2 | s2
    · rw [forF_cons s1 s2, e1]
    · rw [forF_ct s1 s2, e1]
/-- a for loop that ends with a return at its n-th turn -/
theorem forF_find {t : Tg} {b : Env' → Option Fl} {x : D} : ∀ (ds : List D) (I : Nat → Env' → Prop) (E : Env') (n : Nat) (dn : D), I 0 E → ds[n]? = some dn →
    (∀ i d E, i < n → ds[i]? = some d → I i E → ∃ E1 E2, asgT t d E = some E1 ∧ (b E1 = some (.nx E2) ∨ b E1 = some (.ct E2)) ∧ I (i + 1) E2) → (∀ E, I n E → ∃ E1, asgT t dn E = some E1 ∧ b E1 = some (.rt x)) → forF t b ds E = some (.rt x)
  | [], I, E, n, dn, h0, hd, _, _ => by cases hd
  | d :: r, I, E, 0, dn, h0, hd, _, hx => by
    cases hd
    obtain ⟨E1, h1, h2⟩ := hx E h0
    exact forF_rt h1 h2
  | d :: r, I, E, n + 1, dn, h0, hd, st, hx => by
    obtain ⟨E1, E2, s1, s2, s3⟩ := st 0 d E (by omega) rfl h0
    have e := forF_find r (fun i => I (i + 1)) E2 n dn s3 hd (fun i d' E hi h hi' => st (i + 1) d' E (by omega) h hi') hx
    rcases s2 with s2 | s2
    · rw [forF_cons s1 s2, e]
    · rw [forF_ct s1 s2, e]
/-- a comprehension whose items are known -/
theorem compL_map {t : Tg} {fe : Env' → Option D} {g : D → D} : ∀ {ds : List D}, (∀ d ∈ ds, ∃ E1, asgT t d E = some E1 ∧ fe E1 = some (g d)) → compL t (fun _ => some true) fe E ds = some (ds.map g)
  | [], _ => rfl
  | d :: r, h => by
    obtain ⟨E1, h1, h2⟩ := h d List.mem_cons_self
    show (asgT t d E).bind _ = _
    simp only [h1, Option.bind_some, if_true, h2, compL_map fun x hx => h x (List.mem_cons_of_mem _ hx)]
    rfl
theorem compL_fil {t : Tg} {ft : Env' → Option Bool} {fe : Env' → Option D} {p : D → Bool} {g : D → D} : ∀ {ds : List D}, (∀ d ∈ ds, ∃ E1, asgT t d E = some E1 ∧ ft E1 = some (p d) ∧ (p d = true → fe E1 = some (g d))) → compL t ft fe E ds = some ((ds.filter p).map g)
  | [], _ => rfl
  | d :: r, h => by
    obtain ⟨E1, h1, h2, h3⟩ := h d List.mem_cons_self
    have e := compL_fil fun x hx => h x (List.mem_cons_of_mem _ hx)
    show (asgT t d E).bind _ = _
    simp only [h1, Option.bind_some, h2]
    cases hp : p d with
    | true => simp [h3 hp, e, hp]
    | false => simp [e, hp]
theorem compL_filM {α : Type} {t : Tg} {ft : Env' → Option Bool} {fe : Env' → Option D} {v : α → D} {p : α → Bool} {g : α → D} {xs : List α} (h : ∀ x ∈ xs, ∃ E1, asgT t (v x) E = some E1 ∧ ft E1 = some (p x) ∧ (p x = true → fe E1 = some (g x))) : compL t ft fe E (xs.map v) = some ((xs.filter p).map g) := by
  induction xs with
  | nil => rfl
  | cons x r ih =>
    obtain ⟨E1, h1, h2, h3⟩ := h x List.mem_cons_self
    have e := ih fun y hy => h y (List.mem_cons_of_mem _ hy)
    show (asgT t (v x) E).bind _ = _
    simp only [h1, Option.bind_some, h2]
    cases hp : p x with
    | true => simp [h3 hp, e, hp]
    | false => simp [e, hp]
theorem compL_mapM {α : Type} {t : Tg} {ft : Env' → Option Bool} {fe : Env' → Option D} {v : α → D} {g : α → D} {xs : List α} (hf : ∀ E, ft E = some true) (h : ∀ x ∈ xs, ∃ E1, asgT t (v x) E = some E1 ∧ fe E1 = some (g x)) : compL t ft fe E (xs.map v) = some (xs.map g) := by
  have e := compL_filM (p := fun _ => true) (g := g) (ft := ft) (fe := fe) (t := t) (E := E) (v := v) (xs := xs) fun x hx => by
    obtain ⟨E1, h1, h2⟩ := h x hx
    exact ⟨E1, h1, hf E1, fun _ => h2⟩
  rw [e, List.filter_eq_self.mpr fun _ _ => rfl]
theorem appF_ok {i : Nat} {f : Env' → Option D} {ds : List D} {d : D} (h : E[i]? = some (.o ds)) (hf : f E = some d) (hl : ds.length < lineN) : appF i f E = some (.nx (E.set i (.o (ds ++ [d])))) := by
  unfold appF
  rw [h]
  show ((f E).bind fun d => if ds.length < lineN then some (Fl.nx (E.set i (.o (ds ++ [d])))) else none) = _
  rw [hf, Option.bind_some, if_pos hl]
theorem setiF_ok {i : Nat} {fj fe : Env' → Option D} {ds : List D} {d : D} {j : Nat} (h : E[i]? = some (.o ds)) (he : fe E = some d) (hj : fj E = some (.int (j : Int))) (hl : j < ds.length) : setiF i fj fe E = some (.nx (E.set i (.o (ds.set j d)))) := by
  unfold setiF
  rw [h]
  show ((fe E).bind fun d => (fj E).bind fun | .int k => (ixN ds.length k).map fun j => Fl.nx (E.set i (.o (ds.set j d))) | _ => none) = _
  rw [he, Option.bind_some, hj, Option.bind_some]
  show (ixN ds.length (j : Int)).map _ = _
  rw [show ixN ds.length (j : Int) = some j from by unfold ixN; rw [if_pos (Int.natCast_nonneg j), if_pos (by omega)]; simp]
  rfl
theorem eqD_tup {a b : List D} : eqD (.tup a) (.tup b) = if SeqAt.shaped (D.py (.tup a)) = true ∧ SeqAt.shaped (D.py (.tup b)) = true then some (PyData.eqv (D.py (.tup a)) (D.py (.tup b))) else none := rfl
theorem sh_pair {a b : Int} : SeqAt.shaped (D.py (.tup [.int a, .int b])) = true := rfl
theorem eq_tup_refl {a : List D} (h : SeqAt.shaped (D.py (.tup a)) = true) : cmpD .Eq (.tup a) (.tup a) = some true := by
  show eqD (.tup a) (.tup a) = _
  rw [eqD_tup, if_pos ⟨h, h⟩, SeqAt.eqv_refl _ (SeqAt.canLay_of_shaped h)]
theorem eq_pair {a b c d : Int} : cmpD .Eq (.tup [.int a, .int b]) (.tup [.int c, .int d]) = some (decide (a = c) && decide (b = d)) := by
  show eqD (.tup [.int a, .int b]) (.tup [.int c, .int d]) = _
  rw [eqD_tup, if_pos ⟨sh_pair, sh_pair⟩]
  show some ((a == c) && ((b == d) && true)) = _
  rw [Bool.and_true]
  rfl
end
end Vp

end

section
set_option linter.all false
set_option autoImplicit false
/-! defs that many laws share, as trees -/
namespace Vp.Sh
open Vp
/-- raised -/
def b9 : Sms := (.cons [] (.asg (.nm 2) (.int 1))
 (.cons [] (.whl (.cmp .Gt (.loc 1) (.int 0))
  (.cons [] (.ife (.cmp .Eq (.bin .mod (.loc 1) (.int 2)) (.int 1))
  (.cons [] (.asg (.nm 2) (.bin .mul (.loc 2) (.loc 0)))
 .nil)
  .nil)
 (.cons [] (.asg (.nm 0) (.bin .mul (.loc 0) (.loc 0)))
 (.cons [] (.asg (.nm 1) (.bin .fdiv (.loc 1) (.int 2)))
 .nil))))
 (.cons [] (.ret (.loc 2))
 .nil)))

/-- _law_cell -/
def b83 : Sms := (.cons [] (.ife (.cmp .Lt (.loc 1) (.bf .len (.cons (.loc 0) .nil)))
  (.cons [] (.ret (.bf .int (.cons (.sub (.loc 0) (.loc 1)) .nil)))
 .nil)
  .nil)
 (.cons [] (.ret (.int 0))
 .nil))

/-- _law_numbers -/
def b84 : Sms := (.cons [] (.asgO 3 (.lst .nil))
 (.cons [] (.ife (.cmp .GtE (.loc 0) (.bin .pow (.int 10) (.int 18)))
  (.cons [] (.for_ (.nm 4) (.fn .rng1 (.cons (.loc 1) .nil))
  (.cons [] (.app 3 (.bin .mod (.bf .int (.cons (.loc 0) .nil)) (.loc 2)))
 (.cons [] (.asg (.nm 0) (.bin .fdiv (.bf .int (.cons (.loc 0) .nil)) (.loc 2)))
 .nil)))
 (.cons [3] (.ret (.loc 3))
 .nil))
  .nil)
 (.cons [] (.for_ (.nm 4) (.fn .rng1 (.cons (.loc 1) .nil))
  (.cons [] (.asg (.nm 5) (.bin .mod (.bf .int (.cons (.bin .add (.bin .add (.bin .mul (.loc 0) (.int 48271)) (.bin .mul (.loc 4) (.int 69621))) (.int 7)) .nil)) (.int 2147483647)))
 (.cons [] (.asg (.nm 5) (.bin .mod (.bf .int (.cons (.bin .add (.bin .add (.bin .add (.bin .mul (.loc 5) (.loc 5)) (.bin .mul (.loc 5) (.int 40692))) (.bin .mul (.loc 4) (.int 16807))) (.int 11)) .nil)) (.int 2147483399)))
 (.cons [] (.app 3 (.bin .mod (.bf .int (.cons (.bin .fdiv (.loc 5) (.int 32)) .nil)) (.loc 2)))
 .nil))))
 (.cons [3] (.ret (.loc 3))
 .nil))))

/-- _law_same -/
def b85 : Sms := (.cons [] (.ife (.isi .list (.loc 1))
  (.cons [] (.ife (.bool .Or (.cons (.nott (.isi .list (.loc 0))) (.cons (.cmp .NotEq (.bf .len (.cons (.loc 0) .nil)) (.bf .len (.cons (.loc 1) .nil))) .nil)))
  (.cons [] (.ret (.bl false))
 .nil)
  .nil)
 .nil)
  (.cons [] (.ife (.isi .tuple (.loc 1))
  (.cons [] (.ife (.bool .Or (.cons (.nott (.isi .tuple (.loc 0))) (.cons (.cmp .NotEq (.bf .len (.cons (.loc 0) .nil)) (.bf .len (.cons (.loc 1) .nil))) .nil)))
  (.cons [] (.ret (.bl false))
 .nil)
  .nil)
 .nil)
  (.cons [] (.ife (.cmp .Is (.loc 1) .non)
  (.cons [] (.ret (.cmp .Is (.loc 0) .non))
 .nil)
  (.cons [] (.ife (.isi .bool (.loc 1))
  (.cons [] (.ret (.bool .And (.cons (.isi .bool (.loc 0)) (.cons (.cmp .Eq (.loc 0) (.loc 1)) .nil))))
 .nil)
  (.cons [] (.ife (.isi .int (.loc 1))
  (.cons [] (.ret (.bool .And (.cons (.isi .int (.loc 0)) (.cons (.nott (.isi .bool (.loc 0))) (.cons (.cmp .Eq (.loc 0) (.loc 1)) .nil)))))
 .nil)
  (.cons [] (.ret (.bool .And (.cons (.isi .str (.loc 0)) (.cons (.cmp .Eq (.loc 0) (.loc 1)) .nil))))
 .nil))
 .nil))
 .nil))
 .nil))
 .nil))
 (.cons [] (.for_ (.nm 2) (.fn .rng1 (.cons (.bf .len (.cons (.loc 1) .nil)) .nil))
  (.cons [] (.ife (.nott (.call 85 (.cons (.sub (.loc 0) (.loc 2)) (.cons (.sub (.loc 1) (.loc 2)) .nil))))
  (.cons [] (.ret (.bl false))
 .nil)
  .nil)
 .nil))
 (.cons [] (.ret (.bl true))
 .nil)))

end Vp.Sh

end

section
set_option Elab.async false
set_option linter.all false
set_option autoImplicit false
set_option maxRecDepth 100000
/-! what the shared defs compute -/
namespace Vp.Sh
open Vp L2 PySem
set_option maxHeartbeats 0
section
variable {tab : Nat → Option Fn} {gl : Nat → Option D} {wn : Nat}
theorem natAbs_pow_lt {b : Int} {c : Nat} (h : b.natAbs < 2 ^ c) (j : Nat) : (b ^ j).natAbs < 2 ^ (c * j + 1) := by
  rw [Int.natAbs_pow]
  have h1 : b.natAbs ^ j ≤ (2 ^ c) ^ j := Nat.pow_le_pow_left (Nat.le_of_lt h) j
  rw [← Nat.pow_mul] at h1
  have h2 : 2 ^ (c * j) < 2 ^ (c * j + 1) := Nat.pow_lt_pow_right (by omega) (by omega)
  omega
def rBody : Sms := .cons [] (.ife (.cmp .Eq (.bin .mod (.loc 1) (.int 2)) (.int 1))
    (.cons [] (.asg (.nm 2) (.bin .mul (.loc 2) (.loc 0))) .nil) .nil) (.cons [] (.asg (.nm 0) (.bin .mul (.loc 0) (.loc 0))) (.cons [] (.asg (.nm 1) (.bin .fdiv (.loc 1) (.int 2))) .nil))
theorem rBody_ok {cf : Nat → List D → Option D} {x q y : Int} (m1 : mulOk x x = true) (m2 : mulOk y x = true) : exs cf gl wn rBody [.f (.int x), .f (.int q), .f (.int y)] = some (.nx [.f (.int (x * x)), .f (.int (q / 2)), .f (.int (if q % 2 = 1 then y * x else y))]) := by
  have d2 : divOk 2 = true := by decide
  unfold rBody
  by_cases h : q % 2 = 1
  · simp [exs_cons, seqF_def, m1, m2, d2, h]
  · simp [exs_cons, seqF_def, m1, m2, d2, h]
theorem raised {k : Nat} {b e : Int} {c : Nat} (ht : tab 9 = some ⟨2, 3, b9⟩) (he : 0 ≤ e) (hb : b.natAbs < 2 ^ c) (hs : 2 * (c * e.toNat) < 1000000) (hw : e.toNat < 2 ^ (wn - 1)) (hw0 : 1 ≤ wn) :
    callN tab gl wn (k + 1) 9 [.int b, .int e] = some (.int (b ^ e.toNat)) := by
  rw [callN_eq ht rfl]
  obtain ⟨E', m', h1, ⟨j, q, f, h2, h3, h4, h5⟩, h6⟩ := whileF_inv (c := tev (callN tab gl wn k) gl (.cmp .Gt (.loc 1) (.int 0))) (b := exs (callN tab gl wn k) gl wn rBody)
    (fun m E => ∃ j q f : Nat, E = [.f (.int (b ^ j)), .f (.int q), .f (.int (b ^ f))] ∧ f + j * q = e.toNat ∧ 1 ≤ j ∧ q < 2 ^ m) (by
      rintro m E ⟨j, q, f, rfl, h3, h4, h5⟩
      by_cases hq : q = 0
      · left
        subst hq
        simp
      · right
        have hj : j ≤ e.toNat := by
          have : j * 1 ≤ j * q := Nat.mul_le_mul_left j (by omega)
          omega
        have hf : f ≤ e.toNat := by omega
        have hcj : c * j ≤ c * e.toNat := Nat.mul_le_mul_left c hj
        have hcf : c * f ≤ c * e.toNat := Nat.mul_le_mul_left c hf
        have m1 : mulOk (b ^ j) (b ^ j) = true := mulOk_pow (c * j) (c * j) (natAbs_pow_lt hb j) (natAbs_pow_lt hb j) (by omega)
        have m2 : mulOk (b ^ f) (b ^ j) = true := mulOk_pow (c * f) (c * j) (natAbs_pow_lt hb f) (natAbs_pow_lt hb j) (by omega)
        have d2 : divOk 2 = true := by decide
        have hm : m ≠ 0 := by
          rintro rfl
          omega
        have e1 : b ^ j * b ^ j = b ^ (2 * j) := by rw [Nat.two_mul, Int.pow_add]
        have e2 : b ^ f * b ^ j = b ^ (f + j) := by rw [Int.pow_add]
        have e3 : (q : Int) / 2 = ((q / 2 : Nat) : Int) := by omega
        have e4 : q / 2 < 2 ^ (m - 1) := by
          obtain ⟨n, rfl⟩ : ∃ n, m = n + 1 := ⟨m - 1, by omega⟩
          rw [Nat.pow_succ] at h5
          simp only [Nat.add_sub_cancel]
          omega
        by_cases hodd : q % 2 = 1
        · have o1 : (q : Int) % 2 = 1 := by omega
          refine ⟨[.f (.int (b ^ (2 * j))), .f (.int ((q / 2 : Nat) : Int)), .f (.int (b ^ (f + j)))], m - 1, ?_, ?_, by omega, 2 * j, q / 2, f + j, rfl, ?_, by omega, e4⟩
          · simp [Nat.pos_of_ne_zero hq]
          · rw [rBody_ok m1 m2, if_pos o1, e1, e2, e3]
          · have : 2 * j * (q / 2) + j = j * q := by
              have : q = 2 * (q / 2) + 1 := by omega
              have e5 : j * q = j * (2 * (q / 2) + 1) := congrArg (j * ·) this
              rw [e5, Nat.mul_add, Nat.mul_one, Nat.mul_comm 2 j, Nat.mul_assoc]
            omega
        · have o1 : ¬ (q : Int) % 2 = 1 := by omega
          refine ⟨[.f (.int (b ^ (2 * j))), .f (.int ((q / 2 : Nat) : Int)), .f (.int (b ^ f))], m - 1, ?_, ?_, by omega, 2 * j, q / 2, f, rfl, ?_, by omega, e4⟩
          · simp [Nat.pos_of_ne_zero hq]
          · rw [rBody_ok m1 m2, if_neg o1, e1, e3]
          · have : 2 * j * (q / 2) = j * q := by
              have : q = 2 * (q / 2) := by omega
              have e5 : j * q = j * (2 * (q / 2)) := congrArg (j * ·) this
              rw [e5, Nat.mul_comm 2 j, Nat.mul_assoc]
            omega) wn (wn - 1) [.f (.int b), .f (.int e), .f (.int 1)] (by omega) ⟨1, e.toNat, 0, by rw [Int.pow_succ, Int.pow_zero, Int.one_mul, Int.toNat_of_nonneg he], by omega, by omega, hw⟩
  subst h2
  have hq : q = 0 := by
    simp at h6
    omega
  subst hq
  have hf : f = e.toNat := by omega
  subst hf
  have hh : exs (callN tab gl wn k) gl wn b9 (startE 3 [.int b, .int e]) = some (.rt (.int (b ^ e.toNat))) := by
    refine exs_nx (E' := [.f (.int b), .f (.int e), .f (.int 1)]) (by simp [startE]) ?_
    refine exs_nx (E' := _) (by rw [frz_nil, ex1_whl]; exact h1) ?_
    refine exs_rt ?_
    simp
  rw [hh]
  rfl
/-- a cell of the script -/
theorem cell {k : Nat} {ns : List Int} {i : Nat} (ht : tab 83 = some ⟨2, 2, b83⟩) : callN tab gl wn (k + 1) 83 [.fls (ns.map .int), .int (i : Int)] = some (.int (ns[i]?.getD 0)) := by
  rw [callN_eq ht rfl]
  have hh : exs (callN tab gl wn k) gl wn b83 (startE 2 [.fls (ns.map .int), .int (i : Int)]) = some (.rt (.int (ns[i]?.getD 0))) := by
    unfold b83
    by_cases h : i < ns.length
    · have e1 : atI (ns.map D.int) (i : Int) = some (.int ns[i]) := by rw [atI_nat (by simpa using h)]; simp [h]
      refine exs_rt ?_
      simp [startE, exs_cons, seqF_def, h, e1]
    · refine exs_nx (E' := startE 2 [.fls (ns.map .int), .int (i : Int)]) ?_ (exs_rt ?_)
      · simp [startE, h]
      · simp [h]
  rw [hh]
  rfl
/-- numbers drawn -/
def nBody1 : Sms := (.cons [] (.app 3 (.bin .mod (.bf .int (.cons (.loc 0) .nil)) (.loc 2)))
 (.cons [] (.asg (.nm 0) (.bin .fdiv (.bf .int (.cons (.loc 0) .nil)) (.loc 2)))
 .nil))
def nBody2 : Sms := (.cons [] (.asg (.nm 5) (.bin .mod (.bf .int (.cons (.bin .add (.bin .add (.bin .mul (.loc 0) (.int 48271)) (.bin .mul (.loc 4) (.int 69621))) (.int 7)) .nil)) (.int 2147483647)))
 (.cons [] (.asg (.nm 5) (.bin .mod (.bf .int (.cons (.bin .add (.bin .add (.bin .add (.bin .mul (.loc 5) (.loc 5)) (.bin .mul (.loc 5) (.int 40692))) (.bin .mul (.loc 4) (.int 16807))) (.int 11)) .nil)) (.int 2147483399)))
 (.cons [] (.app 3 (.bin .mod (.bf .int (.cons (.bin .fdiv (.loc 5) (.int 32)) .nil)) (.loc 2)))
 .nil)))
theorem appF_3 {a b c : Cell} {ds : List D} {f : Env' → Option D} {r : Env'} (h : ds.length < lineN) : appF 3 f (a :: b :: c :: .o ds :: r) = (f (a :: b :: c :: .o ds :: r)).bind fun x => some (.nx (a :: b :: c :: .o (ds ++ [x]) :: r)) := by
  show ((f _).bind fun d => if ds.length < lineN then some (Fl.nx _) else none) = _
  simp only [if_pos h]
  rfl
theorem nBody1_ok {cf : Nat → List D → Option D} {cell count limit : Int} {ns : List Int} {c4 c5 : Cell} (h0 : 0 < limit) (h1 : limit < 1000000000000000000) (hn : ns.length < 1000000) :
    exs cf gl wn nBody1 [.f (.int cell), .f (.int count), .f (.int limit), .o (ns.map .int), c4, c5] = some (.nx [.f (.int (cell / limit)), .f (.int count), .f (.int limit), .o ((ns ++ [cell % limit]).map .int), c4, c5]) := by
  have d1 : divOk limit = true := divOk_small h0 (by omega)
  unfold nBody1
  refine exs_nx (E' := [.f (.int cell), .f (.int count), .f (.int limit), .o ((ns ++ [cell % limit]).map .int), c4, c5]) ?_ ?_
  · rw [frz_nil, ex1_app, appF_3 (by rw [List.length_map]; exact Nat.lt_trans hn (by decide))]
    simp [h0]
  · simp [exs_cons, seqF_def, d1]
theorem nBody2_ok {cf : Nat → List D → Option D} {cell count limit j : Int} {ns : List Int} {c5 : Cell} (h0 : 0 < limit) (h1 : limit < 1000000000000000000) (hn : ns.length < 1000000) : ∃ z y : Int, 0 ≤ z ∧ z < limit ∧
    exs cf gl wn nBody2 [.f (.int cell), .f (.int count), .f (.int limit), .o (ns.map .int), .f (.int j), c5] = some (.nx [.f (.int cell), .f (.int count), .f (.int limit), .o ((ns ++ [z]).map .int), .f (.int j), .f (.int y)]) := by
  have d1 : divOk 32 = true := by decide
  have d2 : divOk limit = true := divOk_small h0 (by omega)
  have m1 : mulOk cell 48271 = true := mulOk_r (by omega) (by omega)
  have m2 : mulOk j 69621 = true := mulOk_r (by omega) (by omega)
  have m3 : mulOk j 16807 = true := mulOk_r (by omega) (by omega)
  unfold nBody2
  generalize hx : (cell * 48271 + j * 69621 + 7) % 2147483647 = x
  have x0 : 0 ≤ x ∧ x < 2147483647 := by omega
  have m4 : mulOk x x = true := mulOk_r (by omega) (by omega)
  have m5 : mulOk x 40692 = true := mulOk_r (by omega) (by omega)
  generalize hy : (x * x + x * 40692 + j * 16807 + 11) % 2147483399 = y
  refine ⟨y / 32 % limit, y, Int.emod_nonneg _ (by omega), Int.emod_lt_of_pos _ h0, ?_⟩
  refine exs_nx (E' := [.f (.int cell), .f (.int count), .f (.int limit), .o (ns.map .int), .f (.int j), .f (.int x)]) ?_ ?_
  · simp [m1, m2, hx]
  refine exs_nx (E' := [.f (.int cell), .f (.int count), .f (.int limit), .o (ns.map .int), .f (.int j), .f (.int y)]) ?_ ?_
  · simp [m3, m4, m5, hy]
  refine exs_nx (E' := [.f (.int cell), .f (.int count), .f (.int limit), .o ((ns ++ [y / 32 % limit]).map .int), .f (.int j), .f (.int y)]) ?_ rfl
  rw [frz_nil, ex1_app, appF_3 (by rw [List.length_map]; exact Nat.lt_trans hn (by decide))]
  simp [h0, d1]
theorem numbers {k : Nat} {cell count limit : Int} (ht : tab 84 = some ⟨3, 6, b84⟩) (h0 : 0 < limit) (h1 : limit < 1000000000000000000) (hc0 : 0 ≤ count) (hc : count < 1000000) :
    ∃ ns : List Int, callN tab gl wn (k + 1) 84 [.int cell, .int count, .int limit] = some (.lst (ns.map .int)) ∧ ns.length = count.toNat ∧ ∀ n ∈ ns, 0 ≤ n ∧ n < limit := by
  have sm : small62 count = true := small62_of (by omega) (by omega)
  have hrange : evI (callN tab gl wn k) gl (.fn .rng1 (.cons (.loc 1) .nil)) [.f (.int cell), .f (.int count), .f (.int limit), .o [], .u, .u] = some ((List.range count.toNat).map fun i => .int (0 + (i : Nat))) := by simp [sm]
  have fin : ∀ {s : Sm} {r : Sms} (ns : List Int) (c0 c4 c5 : Cell), exs (callN tab gl wn k) gl wn (.cons [3] (.ret (.loc 3)) .nil) [c0, .f (.int count), .f (.int limit), .o (ns.map .int), c4, c5] = some (.rt (.lst (ns.map .int))) := by
    intro s r ns c0 c4 c5
    refine exs_rt ?_
    show ex1 _ _ _ _ [c0, .f (.int count), .f (.int limit), .f (.lst (ns.map .int)), c4, c5] = _
    simp
  rw [callN_eq ht rfl]
  by_cases hb : 1000000000000000000 ≤ cell
  · obtain ⟨E', e1, ns, x, c4, c5, rfl, e2, e3⟩ := forF_inv (t := .nm 4) (b := exs (callN tab gl wn k) gl wn nBody1) ((List.range count.toNat).map fun i => .int (0 + (i : Nat)))
      (fun i E => ∃ (ns : List Int) (x : Int) (c4 c5 : Cell), E = [.f (.int x), .f (.int count), .f (.int limit), .o (ns.map .int), c4, c5] ∧ ns.length = i ∧ ∀ n ∈ ns, 0 ≤ n ∧ n < limit)
      [.f (.int cell), .f (.int count), .f (.int limit), .o [], .u, .u] ⟨[], cell, .u, .u, rfl, rfl, fun n h => by cases h⟩ (by
        rintro i d E hd ⟨ns, x, c4, c5, rfl, h2, h3⟩
        have hi : i < count.toNat := by simpa using (List.getElem?_eq_some_iff.mp hd).1
        refine ⟨_, _, rfl, .inl (nBody1_ok h0 h1 (by omega)), ns ++ [x % limit], x / limit, _, _, rfl, by simp [h2], fun n hn => ?_⟩
        rcases List.mem_append.mp hn with hn | hn
        · exact h3 n hn
        · rw [List.mem_singleton.mp hn]
          exact ⟨Int.emod_nonneg _ (by omega), Int.emod_lt_of_pos _ h0⟩)
    refine ⟨ns, ?_, by simpa using e2, e3⟩
    have hh : exs (callN tab gl wn k) gl wn b84 (startE 6 [.int cell, .int count, .int limit]) = some (.rt (.lst (ns.map .int))) := by
      unfold b84
      refine exs_nx (E' := [.f (.int cell), .f (.int count), .f (.int limit), .o [], .u, .u]) (by simp [startE]) ?_
      refine exs_rt ?_
      rw [frz_nil, ex1_ife]
      have hc : tev (callN tab gl wn k) gl (.cmp .GtE (.loc 0) (.bin .pow (.int 10) (.int 18))) [.f (.int cell), .f (.int count), .f (.int limit), .o [], .u, .u] = some true := by
        simp [hb]
      rw [hc, Option.bind_some, if_pos rfl]
      refine exs_nx (E' := _) ?_ (fin (s := .pass) (r := .nil) ns (.f (.int x)) c4 c5)
      rw [frz_nil, ex1_for, hrange, Option.bind_some]
      exact e1
    rw [hh]
    rfl
  · obtain ⟨E', e1, ns, c4, c5, rfl, e2, e3⟩ := forF_inv (t := .nm 4) (b := exs (callN tab gl wn k) gl wn nBody2) ((List.range count.toNat).map fun i => .int (0 + (i : Nat)))
      (fun i E => ∃ (ns : List Int) (c4 c5 : Cell), E = [.f (.int cell), .f (.int count), .f (.int limit), .o (ns.map .int), c4, c5] ∧ ns.length = i ∧ ∀ n ∈ ns, 0 ≤ n ∧ n < limit)
      [.f (.int cell), .f (.int count), .f (.int limit), .o [], .u, .u] ⟨[], .u, .u, rfl, rfl, fun n h => by cases h⟩ (by
        rintro i d E hd ⟨ns, c4, c5, rfl, h2, h3⟩
        have hi : i < count.toNat := by simpa using (List.getElem?_eq_some_iff.mp hd).1
        have hd2 : d = .int (0 + (i : Nat)) := by
          rw [List.getElem?_map, List.getElem?_range hi] at hd
          exact (Option.some.inj hd).symm
        subst hd2
        obtain ⟨z, y, z0, z1, hz⟩ := nBody2_ok (gl := gl) (wn := wn) (cf := callN tab gl wn k) (cell := cell) (count := count) (j := 0 + (i : Nat)) (ns := ns) (c5 := c5) h0 h1 (by omega)
        refine ⟨_, _, rfl, .inl hz, ns ++ [z], _, _, rfl, by simp [h2], fun n hn => ?_⟩
        rcases List.mem_append.mp hn with hn | hn
        · exact h3 n hn
        · rw [List.mem_singleton.mp hn]
          exact ⟨z0, z1⟩)
    refine ⟨ns, ?_, by simpa using e2, e3⟩
    have hh : exs (callN tab gl wn k) gl wn b84 (startE 6 [.int cell, .int count, .int limit]) = some (.rt (.lst (ns.map .int))) := by
      unfold b84
      refine exs_nx (E' := [.f (.int cell), .f (.int count), .f (.int limit), .o [], .u, .u]) (by simp [startE]) ?_
      refine exs_nx (E' := [.f (.int cell), .f (.int count), .f (.int limit), .o [], .u, .u]) ?_ ?_
      · rw [frz_nil, ex1_ife]
        have hc : tev (callN tab gl wn k) gl (.cmp .GtE (.loc 0) (.bin .pow (.int 10) (.int 18))) [.f (.int cell), .f (.int count), .f (.int limit), .o [], .u, .u] = some false := by
          simp
          omega
        rw [hc, Option.bind_some, if_neg (by decide)]
        rfl
      refine exs_nx (E' := _) ?_ (fin (s := .pass) (r := .nil) ns (.f (.int cell)) c4 c5)
      rw [frz_nil, ex1_for, hrange, Option.bind_some]
      exact e1
    rw [hh]
    rfl
end
end Vp.Sh

end

section
set_option Elab.async false
set_option linter.all false
set_option autoImplicit false
set_option maxRecDepth 100000
set_option maxHeartbeats 0
/-! _law_same on two of the same -/
namespace Vp.Sh
open Vp L2 PySem
def good : Nat → D → Bool
  | _, .non => true
  | _, .bl _ => true
  | _, .int _ => true
  | _, .str _ => true
  | n + 1, .lst ds => decide (ds.length < 1000000) && ds.all (good n)
  | n + 1, .tup ds => decide (ds.length < 1000000) && ds.all (good n)
  | _, _ => false
section
variable {tab : Nat → Option Fn} {gl : Nat → Option D} {wn : Nat}
def sBody : Sms := (.cons [] (.ife (.nott (.call 85 (.cons (.sub (.loc 0) (.loc 2)) (.cons (.sub (.loc 1) (.loc 2)) .nil))))
  (.cons [] (.ret (.bl false))
 .nil)
  .nil)
 .nil)
def sTail : Sms := (.cons [] (.for_ (.nm 2) (.fn .rng1 (.cons (.bf .len (.cons (.loc 1) .nil)) .nil)) sBody) (.cons [] (.ret (.bl true))
 .nil))
theorem sBody_ok {cf : Nat → List D → Option D} {d x : D} {i : Int} (hx : ixD d (.int i) = some x) (h : cf 85 [x, x] = some (.bl true)) : exs cf gl wn sBody [.f d, .f d, .f (.int i)] = some (.nx [.f d, .f d, .f (.int i)]) := by
  have e : tev cf gl (.nott (.call 85 (.cons (.sub (.loc 0) (.loc 2)) (.cons (.sub (.loc 1) (.loc 2)) .nil)))) [.f d, .f d, .f (.int i)] = some false := by
    simp [hx, h]
  refine exs_nx (E' := [.f d, .f d, .f (.int i)]) ?_ rfl
  rw [frz_nil, ex1_ife, e]
  rfl
theorem sTail_ok {cf : Nat → List D → Option D} {d : D} {ds : List D} (hx : ∀ i, ixD d (.int i) = atI ds i) (hl : bfD .len [d] = some (.int (ds.length : Nat))) (hn : ds.length < 1000000) (h : ∀ x ∈ ds, cf 85 [x, x] = some (.bl true)) :
    exs cf gl wn sTail [.f d, .f d, .u] = some (.rt (.bl true)) := by
  have sm : small62 (ds.length : Nat) = true := small62_of (by omega) (by omega)
  obtain ⟨E', e1, c, rfl⟩ := forF_inv (t := .nm 2) (b := exs cf gl wn sBody) ((List.range ds.length).map fun i => .int (0 + (i : Nat))) (fun i E => ∃ c, E = [.f d, .f d, c]) [.f d, .f d, .u] ⟨_, rfl⟩ (by
    rintro i x E hd ⟨c, rfl⟩
    have hi : i < ds.length := by simpa using (List.getElem?_eq_some_iff.mp hd).1
    have hd2 : x = .int (0 + (i : Nat)) := by
      rw [List.getElem?_map, List.getElem?_range hi] at hd
      exact (Option.some.inj hd).symm
    subst hd2
    refine ⟨[.f d, .f d, .f (.int (0 + (i : Nat)))], [.f d, .f d, .f (.int (0 + (i : Nat)))], rfl, .inl (sBody_ok ?_ (h _ (List.getElem_mem hi))), _, rfl⟩
    rw [hx, Int.zero_add, atI_nat hi, List.getElem?_eq_getElem hi])
  refine exs_nx (E' := [.f d, .f d, c]) ?_ (exs_rt (by simp))
  rw [frz_nil, ex1_for]
  have e2 : evI cf gl (.fn .rng1 (.cons (.bf .len (.cons (.loc 1) .nil)) .nil)) [.f d, .f d, .u] = some ((List.range ds.length).map fun i => .int (0 + (i : Nat))) := by
    rw [evI_fn, evs_cons, ev_bf, evs_cons, ev_loc, look_succ, look_zero, evs_nil, Option.bind_some, Option.map_some, Option.bind_some, hl, Option.bind_some, Option.map_some, Option.bind_some, rng1_int, if_pos sm]
    rfl
  rw [e2, Option.bind_some]
  exact e1
theorem isi_simp (T : TyN) (d : D) : isiB T d = match d with
  | .bl _ => decide (T = .bool) || decide (T = .int)
  | .int _ => decide (T = .int)
  | .str _ => decide (T = .str)
  | .lst _ => decide (T = .list)
  | .tup _ => decide (T = .tuple)
  | .fls _ => decide (T = .list)
  | _ => false := by cases d <;> cases T <;> rfl
theorem same (ht : tab 85 = some ⟨2, 3, b85⟩) : ∀ (n k : Nat) (d : D), good n d = true → n < k → callN tab gl wn k 85 [d, d] = some (.bl true) := by
  intro n
  induction n with
  | zero =>
    intro k d h hk
    obtain ⟨k, rfl⟩ : ∃ j, k = j + 1 := ⟨k - 1, by omega⟩
    rw [callN_eq ht rfl]
    have hh : exs (callN tab gl wn k) gl wn b85 (startE 3 [d, d]) = some (.rt (.bl true)) := by
      unfold b85
      cases d <;> first | (cases h; done) | (simp [exs_cons, seqF_def, isi_simp, startE])
    rw [hh]
    rfl
  | succ n ih =>
    intro k d h hk
    obtain ⟨k, rfl⟩ : ∃ j, k = j + 1 := ⟨k - 1, by omega⟩
    rw [callN_eq ht rfl]
    have hh : exs (callN tab gl wn k) gl wn b85 (startE 3 [d, d]) = some (.rt (.bl true)) := by
      cases d with
      | lst ds =>
        simp only [good, Bool.and_eq_true, decide_eq_true_eq, List.all_eq_true] at h
        have t := sTail_ok (cf := callN tab gl wn k) (gl := gl) (wn := wn) (d := .lst ds) (fun i => rfl) rfl h.1 fun x hx => ih k x (h.2 x hx) (by omega)
        refine exs_nx (E' := [.f (.lst ds), .f (.lst ds), .u]) ?_ t
        simp [startE, exs_cons, seqF_def, isi_simp]
      | tup ds =>
        simp only [good, Bool.and_eq_true, decide_eq_true_eq, List.all_eq_true] at h
        have t := sTail_ok (cf := callN tab gl wn k) (gl := gl) (wn := wn) (d := .tup ds) (fun i => rfl) rfl h.1 fun x hx => ih k x (h.2 x hx) (by omega)
        refine exs_nx (E' := [.f (.tup ds), .f (.tup ds), .u]) ?_ t
        simp [startE, exs_cons, seqF_def, isi_simp]
      | dic _ => cases h
      | fls _ => cases h
      | _ =>
        unfold b85
        simp [exs_cons, seqF_def, isi_simp, startE]
    rw [hh]
    rfl
end
end Vp.Sh

end

section
set_option linter.all false
set_option autoImplicit false
/-! the defs of several laws as trees, and one table of them -/
namespace Vp.U
open Vp
/-- bias_of -/
def b12 : Sms := (.cons [] (.ret (.bin .sub (.call 9 (.cons (.int 2) (.cons (.bin .sub (.sub (.loc 0) (.int 1)) (.int 1)) .nil))) (.int 1)))
 .nil)
/-- top_exponent -/
def b13 : Sms := (.cons [] (.ret (.bin .sub (.call 9 (.cons (.int 2) (.cons (.sub (.loc 0) (.int 1)) .nil))) (.int 1)))
 .nil)
/-- parts_of -/
def b14 : Sms := (.cons [] (.asg (.tp [(.nm 4), (.nm 5), (.nm 6)]) (.loc 0))
 (.cons [] (.asg (.nm 2) (.bin .mod (.loc 1) (.call 9 (.cons (.int 2) (.cons (.loc 6) .nil)))))
 (.cons [] (.asg (.nm 3) (.bin .fdiv (.loc 1) (.call 9 (.cons (.int 2) (.cons (.loc 6) .nil)))))
 (.cons [] (.ret (.tup (.cons (.bin .fdiv (.loc 3) (.call 9 (.cons (.int 2) (.cons (.loc 5) .nil)))) (.cons (.bin .mod (.loc 3) (.call 9 (.cons (.int 2) (.cons (.loc 5) .nil)))) (.cons (.loc 2) .nil)))))
 .nil))))
/-- pattern_of -/
def b15 : Sms := (.cons [] (.asg (.tp [(.nm 4), (.nm 5), (.nm 6)]) (.loc 0))
 (.cons [] (.ret (.bin .add (.bin .mul (.bin .add (.bin .mul (.loc 1) (.call 9 (.cons (.int 2) (.cons (.loc 5) .nil)))) (.loc 2)) (.call 9 (.cons (.int 2) (.cons (.loc 6) .nil)))) (.loc 3)))
 .nil))
/-- kind_of -/
def b16 : Sms := (.cons [] (.asg (.tp [(.nm 2), (.nm 3), (.nm 4)]) (.call 14 (.cons (.loc 0) (.cons (.loc 1) .nil))))
 (.cons [] (.ife (.bool .Or (.cons (.cmp .Eq (.sub (.loc 0) (.int 0)) (.str ("full" : String))) (.cons (.cmp .NotEq (.loc 3) (.call 13 (.cons (.loc 0) .nil))) .nil)))
  (.cons [] (.ret (.str ("number" : String)))
 .nil)
  .nil)
 (.cons [] (.ret (.ife (.cmp .Eq (.loc 4) (.int 0)) (.str ("endless" : String)) (.str ("none" : String))))
 .nil)))
/-- scale_of -/
def b17 : Sms := (.cons [] (.asg (.tp [(.nm 3), (.nm 4), (.nm 5)]) (.call 14 (.cons (.loc 0) (.cons (.loc 1) .nil))))
 (.cons [] (.asg (.nm 2) (.ife (.cmp .Eq (.loc 4) (.int 0)) (.loc 5) (.bin .add (.call 9 (.cons (.int 2) (.cons (.sub (.loc 0) (.int 2)) .nil))) (.loc 5))))
 (.cons [] (.ret (.tup (.cons (.loc 2) (.cons (.bin .sub (.bin .sub (.bf .max2 (.cons (.loc 4) (.cons (.int 1) .nil))) (.call 12 (.cons (.loc 0) .nil))) (.sub (.loc 0) (.int 2))) .nil))))
 .nil)))
/-- greatest -/
def b19 : Sms := (.cons [] (.asg (.nm 2) (.ife (.cmp .Eq (.sub (.loc 0) (.int 0)) (.str ("full" : String))) (.call 13 (.cons (.loc 0) .nil)) (.bin .sub (.call 13 (.cons (.loc 0) .nil)) (.int 1))))
 (.cons [] (.ret (.call 15 (.cons (.loc 0) (.cons (.loc 1) (.cons (.loc 2) (.cons (.bin .sub (.call 9 (.cons (.int 2) (.cons (.sub (.loc 0) (.int 2)) .nil))) (.int 1)) .nil))))))
 .nil))
/-- own_sign -/
def b62 : Sms := (.cons [] (.asg (.nm 2) (.sub (.call 14 (.cons (.loc 0) (.cons (.loc 1) .nil))) (.int 0)))
 (.cons [] (.ret (.tup (.cons (.loc 2) (.cons (.bin .sub (.loc 1) (.bin .mul (.loc 2) (.call 15 (.cons (.loc 0) (.cons (.int 1) (.cons (.int 0) (.cons (.int 0) .nil))))))) .nil))))
 .nil))
/-- lowest_power -/
def b110 : Sms := (.cons [] (.ret (.bin .sub (.bin .sub (.int 1) (.call 12 (.cons (.loc 0) .nil))) (.sub (.loc 0) (.int 2))))
 .nil)
/-- endless_total -/
def b114 : Sms := (.cons [] (.ret (.ife (.loc 0) (.tup (.cons (.int 0) (.cons (.int 0) (.cons (.int 1) (.cons (.int 0) .nil))))) (.tup (.cons (.int 0) (.cons (.int 1) (.cons (.int 0) (.cons (.int 0) .nil)))))))
 .nil)
/-- steps_in -/
def b115 : Sms := (.cons [] (.asg (.tp [(.nm 3), (.nm 4)]) (.call 62 (.cons (.loc 0) (.cons (.loc 1) .nil))))
 (.cons [] (.asg (.tp [(.nm 5), (.nm 6)]) (.call 17 (.cons (.loc 0) (.cons (.loc 4) .nil))))
 (.cons [] (.asg (.nm 2) (.bin .mul (.loc 5) (.call 9 (.cons (.int 2) (.cons (.bin .sub (.loc 6) (.call 110 (.cons (.loc 0) .nil))) .nil)))))
 (.cons [] (.ret (.ife (.loc 3) (.neg (.loc 2)) (.loc 2)))
 .nil))))
/-- total_of -/
def b116 : Sms := (.cons [] (.asg (.nm 2) (.call 16 (.cons (.loc 0) (.cons (.loc 1) .nil))))
 (.cons [] (.ife (.cmp .Eq (.loc 2) (.str ("none" : String)))
  (.cons [] (.ret (.glo 117))
 .nil)
  .nil)
 (.cons [] (.ife (.cmp .Eq (.loc 2) (.str ("endless" : String)))
  (.cons [] (.ret (.call 114 (.cons (.sub (.call 62 (.cons (.loc 0) (.cons (.loc 1) .nil))) (.int 0)) .nil)))
 .nil)
  .nil)
 (.cons [] (.ret (.tup (.cons (.bin .mul (.call 115 (.cons (.loc 0) (.cons (.loc 1) .nil))) (.call 9 (.cons (.int 2) (.cons (.neg (.call 110 (.cons (.loc 0) .nil))) .nil)))) (.cons (.int 0) (.cons (.int 0) (.cons (.int 0) .nil))))))
 .nil))))
/-- product_total -/
def b157 : Sms := (.cons [] (.asg (.nm 3) (.tup (.cons (.call 16 (.cons (.loc 0) (.cons (.loc 1) .nil))) (.cons (.call 16 (.cons (.loc 0) (.cons (.loc 2) .nil))) .nil))))
 (.cons [] (.ife (.cmp .In (.str ("none" : String)) (.loc 3))
  (.cons [] (.ret (.glo 117))
 .nil)
  .nil)
 (.cons [] (.ife (.cmp .In (.str ("endless" : String)) (.loc 3))
  (.cons [] (.ret (.call 158 (.cons (.loc 0) (.cons (.loc 3) (.cons (.loc 1) (.cons (.loc 2) .nil))))))
 .nil)
  .nil)
 (.cons [] (.ret (.tup (.cons (.bin .mul (.call 115 (.cons (.loc 0) (.cons (.loc 1) .nil))) (.call 115 (.cons (.loc 0) (.cons (.loc 2) .nil)))) (.cons (.int 0) (.cons (.int 0) (.cons (.int 0) .nil))))))
 .nil))))
/-- endless_product -/
def b158_1 : Sms := (.cons [] (.ife (.bool .And (.cons (.cmp .Eq (.loc 4) (.str ("number" : String))) (.cons (.cmp .Eq (.sub (.call 62 (.cons (.loc 0) (.cons (.loc 5) .nil))) (.int 1)) (.int 0)) .nil)))
  (.cons [] (.ret (.glo 117))
 .nil)
  .nil)
 .nil)
def b158 : Sms := (.cons [] (.for_ (.tp [(.nm 4), (.nm 5)]) (.fn .zip (.cons (.loc 1) (.cons (.tup (.cons (.loc 2) (.cons (.loc 3) .nil))) .nil)))
  b158_1)
 (.cons [] (.ret (.call 114 (.cons (.bin .xor (.sub (.call 62 (.cons (.loc 0) (.cons (.loc 2) .nil))) (.int 0)) (.sub (.call 62 (.cons (.loc 0) (.cons (.loc 3) .nil))) (.int 0))) .nil)))
 .nil))
/-- together -/
def b118 : Sms := (.cons [] (.ret (.bf .tupof (.cons (.lis (.comp [2, 3] (.tp [(.nm 2), (.nm 3)]) (.bin .add (.loc 2) (.loc 3)) .no (.fn .zip (.cons (.loc 0) (.cons (.loc 1) .nil))))) .nil)))
 .nil)
/-- added -/
def b119 : Sms := (.cons [] (.ret (.call 118 (.cons (.loc 1) (.cons (.call 116 (.cons (.loc 0) (.cons (.loc 2) .nil))) .nil))))
 .nil)
/-- list_total -/
def b125_1 : Sms := (.cons [] (.asg (.nm 2) (.call 119 (.cons (.loc 0) (.cons (.loc 2) (.cons (.loc 3) .nil)))))
 .nil)
def b125 : Sms := (.cons [] (.asg (.nm 2) (.glo 113))
 (.cons [] (.for_ (.nm 3) (.ex (.loc 1))
  b125_1)
 (.cons [] (.ret (.loc 2))
 .nil)))
/-- dot -/
def b159_1 : Sms := (.cons [] (.asg (.nm 3) (.call 118 (.cons (.loc 3) (.cons (.call 157 (.cons (.loc 0) (.cons (.loc 4) (.cons (.loc 5) .nil)))) .nil))))
 .nil)
def b159 : Sms := (.cons [] (.asg (.nm 3) (.glo 113))
 (.cons [] (.for_ (.tp [(.nm 4), (.nm 5)]) (.fn .zip (.cons (.loc 1) (.cons (.loc 2) .nil)))
  b159_1)
 (.cons [] (.ret (.loc 3))
 .nil)))
/-- bits_for -/
def b160 : Sms := (.cons [] (.asg (.nm 3) (.call 19 (.cons (.loc 0) (.cons (.int 0) .nil))))
 (.cons [] (.asg (.nm 4) (.ife (.loc 2) (.call 157 (.cons (.loc 0) (.cons (.loc 3) (.cons (.loc 3) .nil)))) (.call 116 (.cons (.loc 0) (.cons (.loc 3) .nil)))))
 (.cons [] (.ret (.bin .add (.bits (.bin .mul (.loc 1) (.sub (.loc 4) (.int 0)))) (.int 1)))
 .nil)))
/-- _law_common -/
def b126_1 : Sms := (.cons [] (.ife (.cmp .Eq (.loc 1) (.int 0))
  (.cons [] (.ret (.loc 0))
 .nil)
  .nil)
 (.cons [] (.par 0 1 (.loc 1) (.bin .mod (.bf .int (.cons (.loc 0) .nil)) (.loc 1)))
 .nil))
def b126 : Sms := (.cons [] (.asg (.nm 0) (.bf .abs (.cons (.loc 0) .nil)))
 (.cons [] (.asg (.nm 1) (.bf .abs (.cons (.loc 1) .nil)))
 (.cons [] (.for_ (.nm 2) (.fn .rng1 (.cons (.int 2000) .nil))
  b126_1)
 (.cons [] (.ret (.loc 0))
 .nil))))
/-- _law_frac -/
def b127 : Sms := (.cons [] (.ife (.cmp .Lt (.loc 1) (.int 0))
  (.cons [] (.asg (.nm 0) (.bin .sub (.int 0) (.loc 0)))
 (.cons [] (.asg (.nm 1) (.bin .sub (.int 0) (.loc 1)))
 .nil))
  .nil)
 (.cons [] (.asg (.nm 2) (.call 126 (.cons (.loc 0) (.cons (.loc 1) .nil))))
 (.cons [] (.ret (.tup (.cons (.bin .fdiv (.loc 0) (.loc 2)) (.cons (.bin .fdiv (.loc 1) (.loc 2)) .nil))))
 .nil)))
/-- _law_times -/
def b129 : Sms := (.cons [] (.ret (.call 127 (.cons (.bin .mul (.sub (.loc 0) (.int 0)) (.sub (.loc 1) (.int 0))) (.cons (.bin .mul (.sub (.loc 0) (.int 1)) (.sub (.loc 1) (.int 1))) .nil))))
 .nil)
/-- _law_over -/
def b130 : Sms := (.cons [] (.ret (.call 127 (.cons (.bin .mul (.sub (.loc 0) (.int 0)) (.sub (.loc 1) (.int 1))) (.cons (.bin .mul (.sub (.loc 0) (.int 1)) (.sub (.loc 1) (.int 0))) .nil))))
 .nil)
/-- _law_form -/
def b132 : Sms := (.cons [] (.ret (.tup (.cons (.sub (.lis (.lst (.cons (.str ("ieee" : String)) (.cons (.str ("full" : String)) .nil)))) (.bin .mod (.sub (.loc 0) (.loc 1)) (.int 2))) (.cons (.bin .add (.int 2) (.bin .mod (.sub (.loc 0) (.bin .add (.loc 1) (.int 1))) (.int 3))) (.cons (.bin .add (.int 1) (.bin .mod (.sub (.loc 0) (.bin .add (.loc 1) (.int 2))) (.int 4))) .nil)))))
 .nil)
/-- _law_power -/
def b133_1 : Sms := (.cons [] (.asg (.nm 2) (.bin .mul (.loc 2) (.loc 0)))
 .nil)
def b133 : Sms := (.cons [] (.asg (.nm 2) (.int 1))
 (.cons [] (.for_ (.nm 3) (.fn .rng1 (.cons (.bf .abs (.cons (.loc 1) .nil)) .nil))
  b133_1)
 (.cons [] (.ife (.cmp .Lt (.loc 1) (.int 0))
  (.cons [] (.ret (.tup (.cons (.int 1) (.cons (.loc 2) .nil))))
 .nil)
  .nil)
 (.cons [] (.ret (.tup (.cons (.loc 2) (.cons (.int 1) .nil))))
 .nil))))
/-- _law_bias -/
def b134 : Sms := (.cons [] (.ret (.bin .sub (.sub (.call 133 (.cons (.int 2) (.cons (.bin .sub (.sub (.loc 0) (.int 1)) (.int 1)) .nil))) (.int 0)) (.int 1)))
 .nil)
/-- _law_parts -/
def b135 : Sms := (.cons [] (.asg (.nm 2) (.sub (.call 133 (.cons (.int 2) (.cons (.sub (.loc 0) (.int 2)) .nil))) (.int 0)))
 (.cons [] (.asg (.nm 3) (.sub (.call 133 (.cons (.int 2) (.cons (.sub (.loc 0) (.int 1)) .nil))) (.int 0)))
 (.cons [] (.ret (.tup (.cons (.bin .fdiv (.bin .fdiv (.loc 1) (.loc 2)) (.loc 3)) (.cons (.bin .mod (.bin .fdiv (.loc 1) (.loc 2)) (.loc 3)) (.cons (.bin .mod (.loc 1) (.loc 2)) .nil)))))
 .nil)))
/-- _law_special -/
def b136 : Sms := (.cons [] (.asg (.tp [(.nm 2), (.nm 3), (.nm 4)]) (.call 135 (.cons (.loc 0) (.cons (.loc 1) .nil))))
 (.cons [] (.ret (.bool .And (.cons (.cmp .Eq (.sub (.loc 0) (.int 0)) (.str ("ieee" : String))) (.cons (.cmp .Eq (.loc 3) (.bin .sub (.sub (.call 133 (.cons (.int 2) (.cons (.sub (.loc 0) (.int 1)) .nil))) (.int 0)) (.int 1))) .nil))))
 .nil))
/-- _law_size -/
def b137 : Sms := (.cons [] (.asg (.tp [(.nm 3), (.nm 4), (.nm 5)]) (.call 135 (.cons (.loc 0) (.cons (.loc 1) .nil))))
 (.cons [] (.asg (.nm 2) (.loc 5))
 (.cons [] (.ife (.cmp .Gt (.loc 4) (.int 0))
  (.cons [] (.asg (.nm 2) (.bin .add (.loc 2) (.sub (.call 133 (.cons (.int 2) (.cons (.sub (.loc 0) (.int 2)) .nil))) (.int 0))))
 .nil)
  .nil)
 (.cons [] (.ret (.call 129 (.cons (.tup (.cons (.loc 2) (.cons (.int 1) .nil))) (.cons (.call 133 (.cons (.int 2) (.cons (.bin .sub (.bin .sub (.bf .max2 (.cons (.loc 4) (.cons (.int 1) .nil))) (.call 134 (.cons (.loc 0) .nil))) (.sub (.loc 0) (.int 2))) .nil))) .nil))))
 .nil))))
/-- _law_half -/
def b138 : Sms := (.cons [] (.ret (.sub (.call 133 (.cons (.int 2) (.cons (.bin .add (.sub (.loc 0) (.int 1)) (.sub (.loc 0) (.int 2))) .nil))) (.int 0)))
 .nil)
/-- _law_top -/
def b139 : Sms := (.cons [] (.ife (.cmp .Eq (.sub (.loc 0) (.int 0)) (.str ("full" : String)))
  (.cons [] (.ret (.bin .sub (.call 138 (.cons (.loc 0) .nil)) (.int 1)))
 .nil)
  .nil)
 (.cons [] (.ret (.bin .sub (.bin .sub (.call 138 (.cons (.loc 0) .nil)) (.sub (.call 133 (.cons (.int 2) (.cons (.sub (.loc 0) (.int 2)) .nil))) (.int 0))) (.int 1)))
 .nil))
/-- _law_value -/
def b147 : Sms := (.cons [] (.asg (.nm 2) (.call 137 (.cons (.loc 0) (.cons (.bin .mod (.loc 1) (.call 138 (.cons (.loc 0) .nil))) .nil))))
 (.cons [] (.ife (.cmp .GtE (.loc 1) (.call 138 (.cons (.loc 0) .nil)))
  (.cons [] (.ret (.tup (.cons (.bin .sub (.int 0) (.sub (.loc 2) (.int 0))) (.cons (.sub (.loc 2) (.int 1)) .nil))))
 .nil)
  .nil)
 (.cons [] (.ret (.loc 2))
 .nil)))
/-- _law_kind -/
def b148 : Sms := (.cons [] (.asg (.tp [(.nm 2), (.nm 3), (.nm 4)]) (.call 135 (.cons (.loc 0) (.cons (.loc 1) .nil))))
 (.cons [] (.ife (.nott (.call 136 (.cons (.loc 0) (.cons (.loc 1) .nil))))
  (.cons [] (.ret (.str ("number" : String)))
 .nil)
  .nil)
 (.cons [] (.ret (.sub (.lis (.lst (.cons (.str ("none" : String)) (.cons (.str ("endless" : String)) .nil)))) (.bf .int (.cons (.cmp .Eq (.loc 4) (.int 0)) .nil))))
 .nil)))
/-- _law_unit -/
def b149 : Sms := (.cons [] (.ret (.call 133 (.cons (.int 2) (.cons (.bin .mul (.int 2) (.bin .sub (.bin .sub (.int 1) (.call 134 (.cons (.loc 0) .nil))) (.sub (.loc 0) (.int 2)))) .nil))))
 .nil)
/-- _law_together -/
def b151 : Sms := (.cons [] (.ret (.tup (.cons (.bin .add (.sub (.loc 0) (.int 0)) (.sub (.loc 1) (.int 0))) (.cons (.bin .add (.sub (.loc 0) (.int 1)) (.sub (.loc 1) (.int 1))) (.cons (.bin .add (.sub (.loc 0) (.int 2)) (.sub (.loc 1) (.int 2))) (.cons (.bin .add (.sub (.loc 0) (.int 3)) (.sub (.loc 1) (.int 3))) .nil))))))
 .nil)
/-- _law_some_patterns -/
def b155_1 : Sms := (.cons [] (.asg (.nm 6) (.bin .mod (.loc 5) (.bin .mul (.int 2) (.call 138 (.cons (.loc 0) .nil)))))
 (.cons [] (.ife (.bool .And (.cons (.loc 3) (.cons (.call 136 (.cons (.loc 0) (.cons (.loc 6) .nil))) .nil)))
  (.cons [] (.asg (.nm 6) (.bin .mod (.loc 6) (.bin .add (.call 139 (.cons (.loc 0) .nil)) (.int 1))))
 .nil)
  .nil)
 (.cons [] (.app 4 (.loc 6))
 .nil)))
def b155 : Sms := (.cons [] (.asgO 4 (.lst .nil))
 (.cons [] (.for_ (.nm 5) (.ex (.sl (.loc 1) (.yes (.int 0)) (.yes (.loc 2))))
  b155_1)
 (.cons [4] (.ret (.loc 4))
 .nil)))
/-- _law_product -/
def b161_1 : Sms := (.cons [] (.ife (.bool .And (.cons (.cmp .Eq (.sub (.loc 3) (.loc 4)) (.str ("number" : String))) (.cons (.cmp .Eq (.sub (.call 147 (.cons (.loc 0) (.cons (.sub (.lis (.lst (.cons (.loc 1) (.cons (.loc 2) .nil)))) (.loc 4)) .nil))) (.int 0)) (.int 0)) .nil)))
  (.cons [] (.ret (.tup (.cons (.int 0) (.cons (.int 0) (.cons (.int 0) (.cons (.int 1) .nil))))))
 .nil)
  .nil)
 .nil)
def b161 : Sms := (.cons [] (.asg (.nm 3) (.lis (.lst (.cons (.call 148 (.cons (.loc 0) (.cons (.loc 1) .nil))) (.cons (.call 148 (.cons (.loc 0) (.cons (.loc 2) .nil))) .nil)))))
 (.cons [] (.ife (.cmp .In (.str ("none" : String)) (.loc 3))
  (.cons [] (.ret (.tup (.cons (.int 0) (.cons (.int 0) (.cons (.int 0) (.cons (.int 1) .nil))))))
 .nil)
  .nil)
 (.cons [] (.ife (.cmp .In (.str ("endless" : String)) (.loc 3))
  (.cons [] (.for_ (.nm 4) (.fn .rng1 (.cons (.int 2) .nil))
  b161_1)
 (.cons [] (.asg (.nm 5) (.bin .add (.bf .int (.cons (.cmp .GtE (.loc 1) (.call 138 (.cons (.loc 0) .nil))) .nil)) (.bf .int (.cons (.cmp .GtE (.loc 2) (.call 138 (.cons (.loc 0) .nil))) .nil))))
 (.cons [] (.ret (.tup (.cons (.int 0) (.cons (.bf .int (.cons (.cmp .NotEq (.loc 5) (.int 1)) .nil)) (.cons (.bf .int (.cons (.cmp .Eq (.loc 5) (.int 1)) .nil)) (.cons (.int 0) .nil))))))
 .nil)))
  .nil)
 (.cons [] (.ret (.tup (.cons (.sub (.call 130 (.cons (.call 129 (.cons (.call 147 (.cons (.loc 0) (.cons (.loc 1) .nil))) (.cons (.call 147 (.cons (.loc 0) (.cons (.loc 2) .nil))) .nil))) (.cons (.call 149 (.cons (.loc 0) .nil)) .nil))) (.int 0)) (.cons (.int 0) (.cons (.int 0) (.cons (.int 0) .nil))))))
 .nil))))
/-- _law_holds -/
def b162 : Sms := (.cons [] (.ret (.bool .And (.cons (.cmp .GtE (.loc 0) (.bin .sub (.int 0) (.sub (.call 133 (.cons (.int 2) (.cons (.bin .sub (.loc 1) (.int 1)) .nil))) (.int 0)))) (.cons (.cmp .Lt (.loc 0) (.sub (.call 133 (.cons (.int 2) (.cons (.bin .sub (.loc 1) (.int 1)) .nil))) (.int 0))) .nil))))
 .nil)
/-- fraction -/
def b2 : Sms := (.cons [] (.ife (.cmp .Lt (.loc 1) (.int 0))
  (.cons [] (.par 0 1 (.neg (.loc 0)) (.neg (.loc 1)))
 .nil)
  .nil)
 (.cons [] (.asg (.nm 2) (.gcd (.cons (.loc 0) (.cons (.loc 1) .nil))))
 (.cons [] (.ret (.tup (.cons (.bin .fdiv (.loc 0) (.loc 2)) (.cons (.bin .fdiv (.loc 1) (.loc 2)) .nil))))
 .nil)))
/-- whole -/
def b3 : Sms := (.cons [] (.ret (.tup (.cons (.loc 0) (.cons (.int 1) .nil))))
 .nil)
/-- minus -/
def b5 : Sms := (.cons [] (.ret (.call 2 (.cons (.bin .sub (.bin .mul (.sub (.loc 0) (.int 0)) (.sub (.loc 1) (.int 1))) (.bin .mul (.sub (.loc 1) (.int 0)) (.sub (.loc 0) (.int 1)))) (.cons (.bin .mul (.sub (.loc 0) (.int 1)) (.sub (.loc 1) (.int 1))) .nil))))
 .nil)
/-- times -/
def b6 : Sms := (.cons [] (.ret (.call 2 (.cons (.bin .mul (.sub (.loc 0) (.int 0)) (.sub (.loc 1) (.int 0))) (.cons (.bin .mul (.sub (.loc 0) (.int 1)) (.sub (.loc 1) (.int 1))) .nil))))
 .nil)
/-- over -/
def b7 : Sms := (.cons [] (.ret (.call 2 (.cons (.bin .mul (.sub (.loc 0) (.int 0)) (.sub (.loc 1) (.int 1))) (.cons (.bin .mul (.sub (.loc 0) (.int 1)) (.sub (.loc 1) (.int 0))) .nil))))
 .nil)
/-- is_less -/
def b8 : Sms := (.cons [] (.ret (.cmp .Lt (.bin .mul (.sub (.loc 0) (.int 0)) (.sub (.loc 1) (.int 1))) (.bin .mul (.sub (.loc 1) (.int 0)) (.sub (.loc 0) (.int 1)))))
 .nil)
/-- floor_of -/
def b10 : Sms := (.cons [] (.ret (.bin .fdiv (.sub (.loc 0) (.int 0)) (.sub (.loc 0) (.int 1))))
 .nil)
/-- power -/
def b11 : Sms := (.cons [] (.ret (.ife (.cmp .GtE (.loc 1) (.int 0)) (.tup (.cons (.call 9 (.cons (.loc 0) (.cons (.loc 1) .nil))) (.cons (.int 1) .nil))) (.call 2 (.cons (.int 1) (.cons (.call 9 (.cons (.loc 0) (.cons (.neg (.loc 1)) .nil))) .nil)))))
 .nil)
/-- size_of -/
def b18 : Sms := (.cons [] (.asg (.tp [(.nm 2), (.nm 3)]) (.call 17 (.cons (.loc 0) (.cons (.loc 1) .nil))))
 (.cons [] (.ret (.call 6 (.cons (.call 3 (.cons (.loc 2) .nil)) (.cons (.call 11 (.cons (.int 2) (.cons (.loc 3) .nil))) .nil))))
 .nil))
/-- endless -/
def b20 : Sms := (.cons [] (.ret (.call 15 (.cons (.loc 0) (.cons (.loc 1) (.cons (.call 13 (.cons (.loc 0) .nil)) (.cons (.int 0) .nil))))))
 .nil)
/-- no_number -/
def b21 : Sms := (.cons [] (.ret (.call 15 (.cons (.loc 0) (.cons (.int 0) (.cons (.call 13 (.cons (.loc 0) .nil)) (.cons (.call 9 (.cons (.int 2) (.cons (.bin .sub (.sub (.loc 0) (.int 2)) (.int 1)) .nil))) .nil))))))
 .nil)
/-- top_size -/
def b22 : Sms := (.cons [] (.ret (.call 11 (.cons (.int 2) (.cons (.bin .sub (.call 13 (.cons (.loc 0) .nil)) (.call 12 (.cons (.loc 0) .nil))) .nil))))
 .nil)
/-- exponent_of -/
def b38 : Sms := (.cons [] (.asg (.nm 1) (.bin .sub (.bits (.sub (.loc 0) (.int 0))) (.bits (.sub (.loc 0) (.int 1)))))
 (.cons [] (.ret (.ife (.call 8 (.cons (.loc 0) (.cons (.call 11 (.cons (.int 2) (.cons (.loc 1) .nil))) .nil))) (.bin .sub (.loc 1) (.int 1)) (.loc 1)))
 .nil))
/-- below -/
def b39 : Sms := (.cons [] (.ife (.nott (.call 8 (.cons (.loc 1) (.cons (.call 18 (.cons (.loc 0) (.cons (.call 19 (.cons (.loc 0) (.cons (.int 0) .nil))) .nil))) .nil))))
  (.cons [] (.ret (.call 19 (.cons (.loc 0) (.cons (.int 0) .nil))))
 .nil)
  .nil)
 (.cons [] (.ife (.cmp .Eq (.sub (.loc 1) (.int 0)) (.int 0))
  (.cons [] (.ret (.int 0))
 .nil)
  .nil)
 (.cons [] (.asg (.nm 2) (.bf .max2 (.cons (.bin .add (.call 38 (.cons (.loc 1) .nil)) (.call 12 (.cons (.loc 0) .nil))) (.cons (.int 0) .nil))))
 (.cons [] (.asg (.nm 3) (.call 11 (.cons (.int 2) (.cons (.bin .sub (.bin .sub (.bf .max2 (.cons (.loc 2) (.cons (.int 1) .nil))) (.call 12 (.cons (.loc 0) .nil))) (.sub (.loc 0) (.int 2))) .nil))))
 (.cons [] (.asg (.nm 4) (.call 10 (.cons (.call 7 (.cons (.loc 1) (.cons (.loc 3) .nil))) .nil)))
 (.cons [] (.ret (.call 15 (.cons (.loc 0) (.cons (.int 0) (.cons (.loc 2) (.cons (.bin .mod (.loc 4) (.call 9 (.cons (.int 2) (.cons (.sub (.loc 0) (.int 2)) .nil)))) .nil))))))
 .nil))))))
/-- above -/
def b40 : Sms := (.cons [] (.ife (.cmp .Eq (.loc 1) (.call 19 (.cons (.loc 0) (.cons (.int 0) .nil))))
  (.cons [] (.ret (.ife (.cmp .Eq (.sub (.loc 0) (.int 0)) (.str ("full" : String))) (.loc 1) (.call 20 (.cons (.loc 0) (.cons (.int 0) .nil)))))
 .nil)
  .nil)
 (.cons [] (.ret (.bin .add (.loc 1) (.int 1)))
 .nil))
/-- stand_in -/
def b41 : Sms := (.cons [] (.ret (.ife (.bool .And (.cons (.cmp .Eq (.sub (.loc 0) (.int 0)) (.str ("ieee" : String))) (.cons (.cmp .Eq (.loc 1) (.call 20 (.cons (.loc 0) (.cons (.int 0) .nil)))) .nil))) (.call 22 (.cons (.loc 0) .nil)) (.call 18 (.cons (.loc 0) (.cons (.loc 1) .nil)))))
 .nil)
/-- nearer -/
def b42 : Sms := (.cons [] (.asg (.nm 4) (.call 5 (.cons (.loc 1) (.cons (.call 41 (.cons (.loc 0) (.cons (.loc 2) .nil))) .nil))))
 (.cons [] (.asg (.nm 5) (.call 5 (.cons (.call 41 (.cons (.loc 0) (.cons (.loc 3) .nil))) (.cons (.loc 1) .nil))))
 (.cons [] (.ife (.call 8 (.cons (.loc 4) (.cons (.loc 5) .nil)))
  (.cons [] (.ret (.loc 2))
 .nil)
  .nil)
 (.cons [] (.ife (.call 8 (.cons (.loc 5) (.cons (.loc 4) .nil)))
  (.cons [] (.ret (.loc 3))
 .nil)
  .nil)
 (.cons [] (.ret (.ife (.cmp .Eq (.bin .mod (.loc 2) (.int 2)) (.int 0)) (.loc 2) (.loc 3)))
 .nil)))))
/-- takes_low -/
def b43 : Sms := (.cons [] (.ret (.bool .Or (.cons (.cmp .Eq (.loc 0) (.str ("zero" : String))) (.cons (.cmp .Eq (.cmp .Eq (.loc 0) (.str ("down" : String))) (.cmp .Eq (.loc 1) (.int 0))) .nil))))
 .nil)
/-- rounded_size -/
def b44 : Sms := (.cons [] (.asg (.nm 4) (.call 39 (.cons (.loc 0) (.cons (.loc 3) .nil))))
 (.cons [] (.ife (.cmp .Eq (.call 18 (.cons (.loc 0) (.cons (.loc 4) .nil))) (.loc 3))
  (.cons [] (.ret (.loc 4))
 .nil)
  .nil)
 (.cons [] (.asg (.nm 5) (.call 40 (.cons (.loc 0) (.cons (.loc 4) .nil))))
 (.cons [] (.ife (.cmp .Eq (.loc 5) (.loc 4))
  (.cons [] (.ret (.loc 4))
 .nil)
  .nil)
 (.cons [] (.ife (.cmp .Eq (.loc 1) (.str ("even" : String)))
  (.cons [] (.ret (.call 42 (.cons (.loc 0) (.cons (.loc 3) (.cons (.loc 4) (.cons (.loc 5) .nil))))))
 .nil)
  .nil)
 (.cons [] (.ret (.ife (.call 43 (.cons (.loc 1) (.cons (.loc 2) .nil))) (.loc 4) (.loc 5)))
 .nil))))))
/-- rounded -/
def b45 : Sms := (.cons [] (.ret (.bin .add (.call 44 (.cons (.loc 0) (.cons (.loc 1) (.cons (.loc 2) (.cons (.loc 3) .nil))))) (.bin .mul (.loc 2) (.call 15 (.cons (.loc 0) (.cons (.int 1) (.cons (.int 0) (.cons (.int 0) .nil))))))))
 .nil)
/-- unit_of -/
def b111 : Sms := (.cons [] (.ret (.call 11 (.cons (.int 2) (.cons (.bin .mul (.int 2) (.call 110 (.cons (.loc 0) .nil))) .nil))))
 .nil)
/-- taken_off -/
def b120 : Sms := (.cons [] (.ret (.bf .tupof (.cons (.lis (.comp [3, 4] (.tp [(.nm 3), (.nm 4)]) (.bin .sub (.loc 3) (.loc 4)) .no (.fn .zip (.cons (.loc 1) (.cons (.call 116 (.cons (.loc 0) (.cons (.loc 2) .nil))) .nil))))) .nil)))
 .nil)
/-- kind_of_total -/
def b121 : Sms := (.cons [] (.asg (.tp [(.nm 1), (.nm 2), (.nm 3), (.nm 4)]) (.loc 0))
 (.cons [] (.ife (.bool .Or (.cons (.cmp .Gt (.loc 4) (.int 0)) (.cons (.bool .And (.cons (.cmp .Gt (.loc 2) (.int 0)) (.cons (.cmp .Gt (.loc 3) (.int 0)) .nil))) .nil)))
  (.cons [] (.ret (.str ("none" : String)))
 .nil)
  .nil)
 (.cons [] (.ife (.cmp .Gt (.loc 2) (.int 0))
  (.cons [] (.ret (.str ("up" : String)))
 .nil)
  .nil)
 (.cons [] (.ret (.ife (.cmp .Gt (.loc 3) (.int 0)) (.str ("down" : String)) (.str ("number" : String))))
 .nil))))
/-- sign_and_size -/
def b122 : Sms := (.cons [] (.asg (.nm 2) (.sub (.loc 1) (.int 0)))
 (.cons [] (.ret (.tup (.cons (.bf .int (.cons (.cmp .Lt (.loc 2) (.int 0)) .nil)) (.cons (.call 6 (.cons (.call 3 (.cons (.bf .abs (.cons (.loc 2) .nil)) .nil)) (.cons (.call 111 (.cons (.loc 0) .nil)) .nil))) .nil))))
 .nil))
/-- rounded_total -/
def b123 : Sms := (.cons [] (.asg (.nm 3) (.call 121 (.cons (.loc 2) .nil)))
 (.cons [] (.ife (.cmp .Eq (.loc 3) (.str ("none" : String)))
  (.cons [] (.ret (.call 21 (.cons (.loc 0) .nil)))
 .nil)
  .nil)
 (.cons [] (.ife (.cmp .NotEq (.loc 3) (.str ("number" : String)))
  (.cons [] (.ret (.call 20 (.cons (.loc 0) (.cons (.bf .int (.cons (.cmp .Eq (.loc 3) (.str ("down" : String))) .nil)) .nil))))
 .nil)
  .nil)
 (.cons [] (.asg (.tp [(.nm 4), (.nm 5)]) (.call 122 (.cons (.loc 0) (.cons (.loc 2) .nil))))
 (.cons [] (.ret (.call 45 (.cons (.loc 0) (.cons (.loc 1) (.cons (.loc 4) (.cons (.loc 5) .nil))))))
 .nil)))))
/-- split_sum -/
def b169 : Sms := (.cons [] (.asg (.nm 3) (.call 118 (.cons (.call 116 (.cons (.loc 0) (.cons (.loc 1) .nil))) (.cons (.call 116 (.cons (.loc 0) (.cons (.loc 2) .nil))) .nil))))
 (.cons [] (.ife (.cmp .Gt (.bf .abs (.cons (.sub (.loc 3) (.int 0)) .nil)) (.sub (.call 116 (.cons (.loc 0) (.cons (.call 19 (.cons (.loc 0) (.cons (.int 0) .nil))) .nil))) (.int 0)))
  (.cons [] (.ret .non)
 .nil)
  .nil)
 (.cons [] (.asg (.nm 4) (.call 123 (.cons (.loc 0) (.cons (.str ("even" : String)) (.cons (.loc 3) .nil)))))
 (.cons [] (.asg (.nm 5) (.call 123 (.cons (.loc 0) (.cons (.str ("even" : String)) (.cons (.call 120 (.cons (.loc 0) (.cons (.loc 3) (.cons (.loc 4) .nil)))) .nil)))))
 (.cons [] (.ret (.tup (.cons (.loc 4) (.cons (.loc 5) .nil))))
 .nil)))))
/-- _law_minus -/
def b128 : Sms := (.cons [] (.ret (.call 127 (.cons (.bin .sub (.bin .mul (.sub (.loc 0) (.int 0)) (.sub (.loc 1) (.int 1))) (.bin .mul (.sub (.loc 1) (.int 0)) (.sub (.loc 0) (.int 1)))) (.cons (.bin .mul (.sub (.loc 0) (.int 1)) (.sub (.loc 1) (.int 1))) .nil))))
 .nil)
/-- _law_less -/
def b131 : Sms := (.cons [] (.ret (.cmp .Lt (.bin .mul (.sub (.loc 0) (.int 0)) (.sub (.loc 1) (.int 1))) (.bin .mul (.sub (.loc 1) (.int 0)) (.sub (.loc 0) (.int 1)))))
 .nil)
/-- _law_behind -/
def b140 : Sms := (.cons [] (.ife (.cmp .Lt (.loc 1) (.call 139 (.cons (.loc 0) .nil)))
  (.cons [] (.ret (.call 137 (.cons (.loc 0) (.cons (.bin .add (.loc 1) (.int 1)) .nil))))
 .nil)
  .nil)
 (.cons [] (.ret (.call 133 (.cons (.int 2) (.cons (.bin .sub (.bin .sub (.sub (.call 133 (.cons (.int 2) (.cons (.sub (.loc 0) (.int 1)) .nil))) (.int 0)) (.int 1)) (.call 134 (.cons (.loc 0) .nil))) .nil))))
 .nil))
/-- _law_round -/
def b141_1 : Sms := (.cons [] (.asg (.nm 8) (.bin .fdiv (.bin .add (.loc 4) (.loc 5)) (.int 2)))
 (.cons [] (.ife (.cmp .Gt (.bin .sub (.loc 5) (.loc 4)) (.int 1))
  (.cons [] (.ife (.call 131 (.cons (.loc 3) (.cons (.call 137 (.cons (.loc 0) (.cons (.loc 8) .nil))) .nil)))
  (.cons [] (.asg (.nm 5) (.loc 8))
 .nil)
  (.cons [] (.asg (.nm 4) (.loc 8))
 .nil))
 .nil)
  .nil)
 .nil))
def b141 : Sms := (.cons [] (.asg (.nm 4) (.int 0))
 (.cons [] (.asg (.nm 5) (.bin .add (.call 139 (.cons (.loc 0) .nil)) (.int 1)))
 (.cons [] (.for_ (.nm 6) (.fn .rng1 (.cons (.int 90) .nil))
  b141_1)
 (.cons [] (.asg (.nm 7) (.loc 4))
 (.cons [] (.ife (.bool .And (.cons (.cmp .NotEq (.call 137 (.cons (.loc 0) (.cons (.loc 4) .nil))) (.loc 3)) (.cons (.bool .Or (.cons (.cmp .Eq (.sub (.loc 0) (.int 0)) (.str ("ieee" : String))) (.cons (.cmp .Lt (.loc 4) (.call 139 (.cons (.loc 0) .nil))) .nil))) .nil)))
  (.cons [] (.asg (.nm 9) (.call 140 (.cons (.loc 0) (.cons (.loc 4) .nil))))
 (.cons [] (.asg (.nm 10) (.call 128 (.cons (.loc 3) (.cons (.call 137 (.cons (.loc 0) (.cons (.loc 4) .nil))) .nil))))
 (.cons [] (.asg (.nm 11) (.call 128 (.cons (.loc 9) (.cons (.loc 3) .nil))))
 (.cons [] (.ife (.bool .And (.cons (.cmp .Eq (.loc 1) (.str ("even" : String))) (.cons (.bool .Or (.cons (.call 131 (.cons (.loc 11) (.cons (.loc 10) .nil))) (.cons (.bool .And (.cons (.cmp .Eq (.loc 11) (.loc 10)) (.cons (.cmp .Eq (.bin .mod (.loc 4) (.int 2)) (.int 1)) .nil))) .nil))) .nil)))
  (.cons [] (.asg (.nm 7) (.bin .add (.loc 4) (.int 1)))
 .nil)
  .nil)
 (.cons [] (.ife (.bool .Or (.cons (.bool .And (.cons (.cmp .Eq (.loc 1) (.str ("down" : String))) (.cons (.cmp .Eq (.loc 2) (.int 1)) .nil))) (.cons (.bool .And (.cons (.cmp .Eq (.loc 1) (.str ("up" : String))) (.cons (.cmp .Eq (.loc 2) (.int 0)) .nil))) .nil)))
  (.cons [] (.asg (.nm 7) (.bin .add (.loc 4) (.int 1)))
 .nil)
  .nil)
 .nil)))))
  .nil)
 (.cons [] (.ret (.bin .add (.loc 7) (.bin .mul (.loc 2) (.call 138 (.cons (.loc 0) .nil)))))
 .nil))))))
/-- _law_total_of -/
def b150 : Sms := (.cons [] (.asg (.nm 2) (.call 148 (.cons (.loc 0) (.cons (.loc 1) .nil))))
 (.cons [] (.ife (.cmp .Eq (.loc 2) (.str ("none" : String)))
  (.cons [] (.ret (.tup (.cons (.int 0) (.cons (.int 0) (.cons (.int 0) (.cons (.int 1) .nil))))))
 .nil)
  .nil)
 (.cons [] (.ife (.cmp .Eq (.loc 2) (.str ("endless" : String)))
  (.cons [] (.ret (.tup (.cons (.int 0) (.cons (.bf .int (.cons (.cmp .Lt (.loc 1) (.call 138 (.cons (.loc 0) .nil))) .nil)) (.cons (.bf .int (.cons (.cmp .GtE (.loc 1) (.call 138 (.cons (.loc 0) .nil))) .nil)) (.cons (.int 0) .nil))))))
 .nil)
  .nil)
 (.cons [] (.ret (.tup (.cons (.sub (.call 130 (.cons (.call 147 (.cons (.loc 0) (.cons (.loc 1) .nil))) (.cons (.call 149 (.cons (.loc 0) .nil)) .nil))) (.int 0)) (.cons (.int 0) (.cons (.int 0) (.cons (.int 0) .nil))))))
 .nil))))
/-- _law_rounded -/
def b153 : Sms := (.cons [] (.asg (.tp [(.nm 4), (.nm 5), (.nm 6), (.nm 7)]) (.loc 2))
 (.cons [] (.ife (.bool .Or (.cons (.cmp .Gt (.loc 7) (.int 0)) (.cons (.bool .And (.cons (.cmp .Gt (.loc 5) (.int 0)) (.cons (.cmp .Gt (.loc 6) (.int 0)) .nil))) .nil)))
  (.cons [] (.ret (.bin .add (.bin .add (.call 139 (.cons (.loc 0) .nil)) (.int 1)) (.sub (.call 133 (.cons (.int 2) (.cons (.bin .sub (.sub (.loc 0) (.int 2)) (.int 1)) .nil))) (.int 0))))
 .nil)
  .nil)
 (.cons [] (.ife (.cmp .Gt (.bin .add (.loc 5) (.loc 6)) (.int 0))
  (.cons [] (.ret (.bin .add (.bin .add (.call 139 (.cons (.loc 0) .nil)) (.int 1)) (.bin .mul (.bf .int (.cons (.cmp .Gt (.loc 6) (.int 0)) .nil)) (.call 138 (.cons (.loc 0) .nil)))))
 .nil)
  .nil)
 (.cons [] (.asg (.nm 3) (.call 129 (.cons (.tup (.cons (.bf .abs (.cons (.loc 4) .nil)) (.cons (.int 1) .nil))) (.cons (.call 149 (.cons (.loc 0) .nil)) .nil))))
 (.cons [] (.ret (.call 141 (.cons (.loc 0) (.cons (.loc 1) (.cons (.bf .int (.cons (.cmp .Lt (.loc 4) (.int 0)) .nil)) (.cons (.loc 3) .nil))))))
 .nil)))))
/-- _law_split_due -/
def b170 : Sms := (.cons [] (.asg (.nm 3) (.call 151 (.cons (.call 150 (.cons (.loc 0) (.cons (.loc 1) .nil))) (.cons (.call 150 (.cons (.loc 0) (.cons (.loc 2) .nil))) .nil))))
 (.cons [] (.ife (.cmp .Gt (.bf .abs (.cons (.sub (.loc 3) (.int 0)) .nil)) (.sub (.call 150 (.cons (.loc 0) (.cons (.call 139 (.cons (.loc 0) .nil)) .nil))) (.int 0)))
  (.cons [] (.ret .non)
 .nil)
  .nil)
 (.cons [] (.asg (.nm 4) (.call 153 (.cons (.loc 0) (.cons (.str ("even" : String)) (.cons (.loc 3) .nil)))))
 (.cons [] (.asg (.nm 5) (.bin .sub (.sub (.loc 3) (.int 0)) (.sub (.call 150 (.cons (.loc 0) (.cons (.loc 4) .nil))) (.int 0))))
 (.cons [] (.ret (.tup (.cons (.loc 4) (.cons (.call 153 (.cons (.loc 0) (.cons (.str ("even" : String)) (.cons (.tup (.cons (.loc 5) (.cons (.int 0) (.cons (.int 0) (.cons (.int 0) .nil))))) .nil)))) (.cons (.loc 5) .nil)))))
 .nil)))))
/-- is_whole -/
def b1 : Sms := (.cons [] (.ret (.bool .And (.cons (.isi .int (.loc 0)) (.cons (.nott (.isi .bool (.loc 0))) .nil))))
 .nil)
/-- steps_of -/
def b537_1 : Sms := (.cons [] (.app 3 (.call 123 (.cons (.loc 0) (.cons (.loc 1) (.cons (.call 119 (.cons (.loc 0) (.cons (.loc 4) (.cons (.loc 5) .nil)))) .nil)))))
 (.cons [] (.asg (.nm 4) (.call 116 (.cons (.loc 0) (.cons (.subO 3 (.neg (.int 1))) .nil))))
 .nil))
def b537 : Sms := (.cons [] (.asgO 3 (.lst .nil))
 (.cons [] (.asg (.nm 4) (.glo 113))
 (.cons [] (.for_ (.nm 5) (.ex (.loc 2))
  b537_1)
 (.cons [] (.retO 3)
 .nil))))
/-- once_of -/
def b165_1 : Sms := (.cons [] (.asg (.nm 4) (.call 119 (.cons (.loc 0) (.cons (.loc 4) (.cons (.loc 5) .nil)))))
 (.cons [] (.app 3 (.call 123 (.cons (.loc 0) (.cons (.loc 1) (.cons (.loc 4) .nil)))))
 .nil))
def b165 : Sms := (.cons [] (.asgO 3 (.lst .nil))
 (.cons [] (.asg (.nm 4) (.glo 113))
 (.cons [] (.for_ (.nm 5) (.ex (.loc 2))
  b165_1)
 (.cons [3] (.ret (.loc 3))
 .nil))))
/-- find_steps -/
def b166 : Sms := (.cons [] (.asg (.nm 3) (.lis (.zpl (.call 537 (.cons (.loc 0) (.cons (.loc 1) (.cons (.loc 2) .nil)))) (.call 165 (.cons (.loc 0) (.cons (.loc 1) (.cons (.loc 2) .nil)))))))
 (.cons [] (.asg (.nm 4) (.lis (.comp [5, 6] (.tp [(.nm 5), (.nm 6)]) (.bin .add (.loc 5) (.int 1)) (.yes (.cmp .NotEq (.sub (.loc 6) (.int 0)) (.sub (.loc 6) (.int 1)))) (.fn .enum (.cons (.loc 3) .nil)))))
 (.cons [] (.ret (.ife (.loc 4) (.tup (.cons (.str ("parts" : String)) (.cons (.sub (.loc 4) (.int 0)) .nil))) (.tup (.cons (.str ("same" : String)) .nil))))
 .nil)))
/-- judge_steps -/
def b167 : Sms := (.cons [] (.par 4 5 (.call 537 (.cons (.loc 0) (.cons (.loc 1) (.cons (.loc 2) .nil)))) (.call 165 (.cons (.loc 0) (.cons (.loc 1) (.cons (.loc 2) .nil)))))
 (.cons [] (.ife (.cmp .Eq (.bf .len (.cons (.loc 3) .nil)) (.int 1))
  (.cons [] (.ret (.bool .And (.cons (.cmp .Eq (.sub (.loc 3) (.int 0)) (.str ("same" : String))) (.cons (.cmp .Eq (.loc 4) (.loc 5)) .nil))))
 .nil)
  .nil)
 (.cons [] (.ife (.bool .Or (.cons (.cmp .NotEq (.bf .len (.cons (.loc 3) .nil)) (.int 2)) (.cons (.cmp .NotEq (.sub (.loc 3) (.int 0)) (.str ("parts" : String))) (.cons (.nott (.call 1 (.cons (.sub (.loc 3) (.int 1)) .nil))) .nil))))
  (.cons [] (.ret (.bl false))
 .nil)
  .nil)
 (.cons [] (.ret (.bool .And (.cons (.chain .LtE .LtE (.int 1) (.sub (.loc 3) (.int 1)) (.bf .len (.cons (.loc 4) .nil))) (.cons (.cmp .NotEq (.sub (.loc 4) (.bin .sub (.sub (.loc 3) (.int 1)) (.int 1))) (.sub (.loc 5) (.bin .sub (.sub (.loc 3) (.int 1)) (.int 1)))) .nil))))
 .nil))))
/-- are_digits -/
def b23 : Sms := (.cons [] (.ret (.bool .And (.cons (.cmp .NotEq (.loc 0) (.str ("" : String))) (.cons (.bf .alll (.cons (.lis (.comp [2] (.nm 2) (.cmp .In (.loc 2) (.loc 1)) .no (.ex (.loc 0)))) .nil)) .nil))))
 .nil)
/-- number_in -/
def b24_1 : Sms := (.cons [] (.asg (.nm 2) (.bin .add (.bin .mul (.loc 2) (.loc 1)) (.mth .index (.glo 30) (.cons (.loc 3) .nil))))
 .nil)
def b24 : Sms := (.cons [] (.asg (.nm 2) (.int 0))
 (.cons [] (.for_ (.nm 3) (.ex (.loc 0))
  b24_1)
 (.cons [] (.ret (.loc 2))
 .nil)))
/-- without_sign -/
def b25 : Sms := (.cons [] (.ife (.cmp .In (.sl (.loc 0) .no (.yes (.int 1))) (.tup (.cons (.str ("+" : String)) (.cons (.str ("-" : String)) .nil))))
  (.cons [] (.ret (.tup (.cons (.bf .int (.cons (.cmp .Eq (.sub (.loc 0) (.int 0)) (.str ("-" : String))) .nil)) (.cons (.sl (.loc 0) (.yes (.int 1)) .no) .nil))))
 .nil)
  .nil)
 (.cons [] (.ret (.tup (.cons (.int 0) (.cons (.loc 0) .nil))))
 .nil))
/-- power_in -/
def b26 : Sms := (.cons [] (.asg (.tp [(.nm 2), (.nm 3)]) (.call 25 (.cons (.loc 0) .nil)))
 (.cons [] (.ife (.bool .Or (.cons (.nott (.call 23 (.cons (.loc 3) (.cons (.glo 27) .nil)))) (.cons (.cmp .Gt (.bf .len (.cons (.loc 3) .nil)) (.glo 28)) .nil)))
  (.cons [] .rais
 .nil)
  .nil)
 (.cons [] (.asg (.nm 1) (.call 24 (.cons (.loc 3) (.cons (.int 10) .nil))))
 (.cons [] (.ret (.ife (.loc 2) (.neg (.loc 1)) (.loc 1)))
 .nil))))
/-- check_digits -/
def b29 : Sms := (.cons [] (.ife (.nott (.call 23 (.cons (.loc 0) (.cons (.sl (.glo 30) .no (.yes (.loc 1))) .nil))))
  (.cons [] .rais
 .nil)
  .nil)
 .nil)
/-- split_text -/
def b31 : Sms := (.cons [] (.ife (.gin 32 (.loc 1))
  (.cons [] (.ret (.gix 32 (.loc 1)))
 .nil)
  .nil)
 (.cons [] (.asg (.tp [(.nm 3), (.nm 4)]) (.call 25 (.cons (.loc 1) .nil)))
 (.cons [] (.asg (.tp [(.nm 5), (.nm 6), (.nm 7)]) (.mth .partition (.loc 4) (.cons (.glo 538) .nil)))
 (.cons [] (.asg (.nm 2) (.ife (.loc 6) (.call 26 (.cons (.loc 7) .nil)) (.int 0)))
 (.cons [] (.asg (.tp [(.nm 8), (.nm 9), (.nm 10)]) (.mth .partition (.loc 5) (.cons (.str ("." : String)) .nil)))
 (.cons [] (.drop (.call 29 (.cons (.loc 8) (.cons (.loc 0) .nil))))
 (.cons [] (.ife (.loc 9)
  (.cons [] (.drop (.call 29 (.cons (.loc 10) (.cons (.loc 0) .nil))))
 .nil)
  .nil)
 (.cons [] (.ret (.tup (.cons (.str ("number" : String)) (.cons (.loc 3) (.cons (.call 24 (.cons (.bin .add (.loc 8) (.loc 10)) (.cons (.loc 0) .nil))) (.cons (.bin .sub (.loc 2) (.bf .len (.cons (.loc 10) .nil))) .nil))))))
 .nil))))))))
/-- digits_of -/
def b33_1 : Sms := (.cons [] (.app 2 (.sub (.glo 30) (.bin .mod (.loc 1) (.loc 0))))
 (.cons [] (.asg (.nm 1) (.bin .fdiv (.loc 1) (.loc 0)))
 .nil))
def b33 : Sms := (.cons [] (.asgO 2 (.lst .nil))
 (.cons [] (.whl (.cmp .GtE (.loc 1) (.loc 0))
  b33_1)
 (.cons [2] (.ret (.mth .join (.str ("" : String)) (.cons (.bin .add (.lis (.lst (.cons (.sub (.glo 30) (.loc 1)) .nil))) (.lis (.rvl (.loc 2)))) .nil)))
 .nil)))
/-- spread -/
def b34 : Sms := (.cons [] (.asg (.nm 2) (.bf .len (.cons (.loc 0) .nil)))
 (.cons [] (.ife (.bool .And (.cons (.cmp .GtE (.loc 1) (.int 0)) (.cons (.cmp .LtE (.bin .add (.loc 2) (.loc 1)) (.glo 35)) .nil)))
  (.cons [] (.ret (.bin .add (.loc 0) (.bin .mul (.str ("0" : String)) (.loc 1))))
 .nil)
  .nil)
 (.cons [] (.ife (.chain .Lt .Lt (.loc 1) (.int 0) (.bin .add (.loc 2) (.loc 1)))
  (.cons [] (.ret (.bin .add (.bin .add (.sl (.loc 0) .no (.yes (.bin .add (.loc 2) (.loc 1)))) (.str ("." : String))) (.sl (.loc 0) (.yes (.bin .add (.loc 2) (.loc 1))) .no)))
 .nil)
  .nil)
 (.cons [] (.ife (.chain .Lt .LtE (.glo 36) (.bin .add (.loc 2) (.loc 1)) (.int 0))
  (.cons [] (.ret (.bin .add (.bin .add (.str ("0." : String)) (.bin .mul (.str ("0" : String)) (.bin .sub (.neg (.loc 2)) (.loc 1)))) (.loc 0)))
 .nil)
  .nil)
 (.cons [] (.asg (.nm 3) (.ife (.cmp .Gt (.loc 2) (.int 1)) (.bin .add (.str ("." : String)) (.sl (.loc 0) (.yes (.int 1)) .no)) (.str ("" : String))))
 (.cons [] (.ret (.fst (.cons (.sub (.loc 0) (.int 0)) (.cons (.loc 3) (.cons (.glo 538) (.cons (.bin .sub (.bin .add (.loc 2) (.loc 1)) (.int 1)) .nil))))))
 .nil))))))
/-- layout -/
def b37 : Sms := (.cons [] (.ret (.bin .add (.bin .mul (.str ("-" : String)) (.loc 1)) (.call 34 (.cons (.call 33 (.cons (.loc 0) (.cons (.loc 2) .nil))) (.cons (.loc 3) .nil)))))
 .nil)
/-- read_word -/
def b59 : Sms := (.cons [] (.ife (.cmp .Eq (.sub (.loc 1) (.int 0)) (.str ("none" : String)))
  (.cons [] (.ife (.cmp .Eq (.sub (.loc 0) (.int 0)) (.str ("full" : String)))
  (.cons [] .rais
 .nil)
  .nil)
 (.cons [] (.ret (.call 21 (.cons (.loc 0) .nil)))
 .nil))
  .nil)
 (.cons [] (.ret (.ife (.cmp .Eq (.sub (.loc 0) (.int 0)) (.str ("ieee" : String))) (.call 20 (.cons (.loc 0) (.cons (.sub (.loc 1) (.int 1)) .nil))) (.call 19 (.cons (.loc 0) (.cons (.sub (.loc 1) (.int 1)) .nil)))))
 .nil))
/-- told_size -/
def b60 : Sms := (.cons [] (.asg (.nm 4) (.bin .add (.bf .len (.cons (.call 33 (.cons (.loc 1) (.cons (.loc 2) .nil))) .nil)) (.loc 3)))
 (.cons [] (.ife (.cmp .Eq (.loc 2) (.int 0))
  (.cons [] (.ret (.tup (.cons (.int 0) (.cons (.int 1) .nil))))
 .nil)
  .nil)
 (.cons [] (.ife (.cmp .Gt (.loc 4) (.bin .add (.call 13 (.cons (.loc 0) .nil)) (.int 2)))
  (.cons [] (.ret (.call 11 (.cons (.int 2) (.cons (.bin .add (.call 13 (.cons (.loc 0) .nil)) (.int 1)) .nil))))
 .nil)
  .nil)
 (.cons [] (.ife (.cmp .Lt (.loc 4) (.bin .sub (.bin .sub (.neg (.call 12 (.cons (.loc 0) .nil))) (.sub (.loc 0) (.int 2))) (.int 2)))
  (.cons [] (.ret (.call 11 (.cons (.int 2) (.cons (.bin .sub (.bin .sub (.neg (.call 12 (.cons (.loc 0) .nil))) (.sub (.loc 0) (.int 2))) (.int 2)) .nil))))
 .nil)
  .nil)
 (.cons [] (.ret (.call 6 (.cons (.call 3 (.cons (.loc 2) .nil)) (.cons (.call 11 (.cons (.loc 1) (.cons (.loc 3) .nil))) .nil))))
 .nil)))))
/-- read_text -/
def b61 : Sms := (.cons [] (.asg (.nm 4) (.call 31 (.cons (.loc 1) (.cons (.loc 3) .nil))))
 (.cons [] (.ife (.cmp .NotEq (.sub (.loc 4) (.int 0)) (.str ("number" : String)))
  (.cons [] (.ret (.call 59 (.cons (.loc 0) (.cons (.loc 4) .nil))))
 .nil)
  .nil)
 (.cons [] (.asg (.tp [(.nm 5), (.nm 6), (.nm 7), (.nm 8)]) (.loc 4))
 (.cons [] (.ret (.call 45 (.cons (.loc 0) (.cons (.loc 2) (.cons (.loc 6) (.cons (.call 60 (.cons (.loc 0) (.cons (.loc 1) (.cons (.loc 7) (.cons (.loc 8) .nil))))) .nil))))))
 .nil))))
/-- stripped -/
def b51_1 : Sms := (.cons [] (.asg (.nm 1) (.bin .fdiv (.loc 1) (.loc 0)))
 (.cons [] (.aug 2 .add (.int 1))
 .nil))
def b51 : Sms := (.cons [] (.whl (.cmp .Eq (.bin .mod (.loc 1) (.loc 0)) (.int 0))
  b51_1)
 (.cons [] (.ret (.tup (.cons (.loc 1) (.cons (.loc 2) .nil))))
 .nil))
/-- empty_total -/
def b112 : Sms := (.cons [] (.ret (.glo 113))
 .nil)
/-- exact_text -/
def b124_1 : Sms := (.cons [] (.asg (.nm 6) (.bin .mul (.loc 6) (.loc 1)))
 (.cons [] (.aug 4 .sub (.int 1))
 .nil))
def b124 : Sms := (.cons [] (.asg (.nm 3) (.call 121 (.cons (.loc 2) .nil)))
 (.cons [] (.ife (.cmp .NotEq (.loc 3) (.str ("number" : String)))
  (.cons [] (.ret (.sub (.dic (.cons (.str ("none" : String)) (.str ("nan" : String)) (.cons (.str ("up" : String)) (.str ("inf" : String)) (.cons (.str ("down" : String)) (.str ("-inf" : String)) .nil)))) (.loc 3)))
 .nil)
  .nil)
 (.cons [] (.ife (.cmp .Eq (.sub (.loc 2) (.int 0)) (.int 0))
  (.cons [] (.ret (.str ("0" : String)))
 .nil)
  .nil)
 (.cons [] (.asg (.tp [(.nm 5), (.tp [(.nm 6), (.nm 8)])]) (.call 122 (.cons (.loc 0) (.cons (.loc 2) .nil))))
 (.cons [] (.asg (.nm 4) (.int 0))
 (.cons [] (.whl (.cmp .NotEq (.bin .mod (.loc 6) (.loc 8)) (.int 0))
  b124_1)
 (.cons [] (.asg (.tp [(.nm 7), (.nm 4)]) (.call 51 (.cons (.loc 1) (.cons (.bin .fdiv (.loc 6) (.loc 8)) (.cons (.loc 4) .nil)))))
 (.cons [] (.ret (.call 37 (.cons (.loc 1) (.cons (.loc 5) (.cons (.loc 7) (.cons (.loc 4) .nil))))))
 .nil))))))))
/-- _law_digits -/
def b142_1 : Sms := (.cons [] (.ife (.bool .Or (.cons (.cmp .Gt (.loc 1) (.int 0)) (.cons (.cmp .Eq (.loc 2) (.str ("" : String))) .nil)))
  (.cons [] (.asg (.nm 2) (.bin .add (.sub (.str ("0123456789abcdef" : String)) (.bin .mod (.loc 1) (.loc 0))) (.loc 2)))
 (.cons [] (.asg (.nm 1) (.bin .fdiv (.loc 1) (.loc 0)))
 .nil))
  .nil)
 .nil)
def b142 : Sms := (.cons [] (.asg (.nm 2) (.str ("" : String)))
 (.cons [] (.for_ (.nm 3) (.fn .rng1 (.cons (.int 400) .nil))
  b142_1)
 (.cons [] (.ret (.loc 2))
 .nil)))
/-- _law_layout -/
def b143 : Sms := (.cons [] (.asg (.nm 4) (.call 142 (.cons (.loc 0) (.cons (.loc 2) .nil))))
 (.cons [] (.asg (.nm 5) (.bf .len (.cons (.loc 4) .nil)))
 (.cons [] (.asg (.nm 6) (.sub (.loc 4) (.int 0)))
 (.cons [] (.ife (.cmp .Gt (.loc 5) (.int 1))
  (.cons [] (.asg (.nm 6) (.bin .add (.bin .add (.loc 6) (.str ("." : String))) (.sl (.loc 4) (.yes (.int 1)) .no)))
 .nil)
  .nil)
 (.cons [] (.asg (.nm 6) (.bin .add (.bin .add (.loc 6) (.str ("^" : String))) (.bf .str (.cons (.bin .sub (.bin .add (.loc 5) (.loc 3)) (.int 1)) .nil))))
 (.cons [] (.ife (.bool .And (.cons (.cmp .GtE (.loc 3) (.int 0)) (.cons (.cmp .LtE (.bin .add (.loc 5) (.loc 3)) (.int 21)) .nil)))
  (.cons [] (.asg (.nm 6) (.bin .add (.loc 4) (.bin .mul (.str ("0" : String)) (.loc 3))))
 .nil)
  .nil)
 (.cons [] (.ife (.bool .And (.cons (.cmp .Lt (.loc 3) (.int 0)) (.cons (.cmp .Gt (.bin .add (.loc 5) (.loc 3)) (.int 0)) .nil)))
  (.cons [] (.asg (.nm 6) (.bin .add (.bin .add (.sl (.loc 4) (.yes (.int 0)) (.yes (.bin .add (.loc 5) (.loc 3)))) (.str ("." : String))) (.sl (.loc 4) (.yes (.bin .add (.loc 5) (.loc 3))) .no)))
 .nil)
  .nil)
 (.cons [] (.ife (.bool .And (.cons (.cmp .LtE (.bin .add (.loc 5) (.loc 3)) (.int 0)) (.cons (.cmp .Gt (.bin .add (.loc 5) (.loc 3)) (.neg (.int 7))) .nil)))
  (.cons [] (.asg (.nm 6) (.bin .add (.bin .add (.str ("0." : String)) (.bin .mul (.str ("0" : String)) (.bin .sub (.bin .sub (.int 0) (.loc 5)) (.loc 3)))) (.loc 4)))
 .nil)
  .nil)
 (.cons [] (.ret (.bin .add (.sub (.lis (.lst (.cons (.str ("" : String)) (.cons (.str ("-" : String)) .nil)))) (.loc 1)) (.loc 6)))
 .nil)))))))))
/-- _law_stripped -/
def b144_1 : Sms := (.cons [] (.ife (.cmp .Eq (.bin .mod (.loc 1) (.loc 0)) (.int 0))
  (.cons [] (.asg (.nm 1) (.bin .fdiv (.loc 1) (.loc 0)))
 (.cons [] (.asg (.nm 2) (.bin .add (.loc 2) (.int 1)))
 .nil))
  .nil)
 .nil)
def b144 : Sms := (.cons [] (.for_ (.nm 3) (.fn .rng1 (.cons (.int 200) .nil))
  b144_1)
 (.cons [] (.ret (.tup (.cons (.loc 1) (.cons (.loc 2) .nil))))
 .nil))
/-- _law_base -/
def b145 : Sms := (.cons [] (.ret (.sub (.lis (.lst (.cons (.int 10) (.cons (.int 2) (.cons (.int 16) (.cons (.int 6) (.cons (.int 10) (.cons (.int 12) .nil)))))))) (.bin .mod (.loc 0) (.int 6))))
 .nil)
/-- _law_expanded -/
def b146_1 : Sms := (.cons [] (.ife (.cmp .Gt (.sub (.loc 3) (.int 1)) (.int 1))
  (.cons [] (.asg (.nm 3) (.call 129 (.cons (.loc 3) (.cons (.tup (.cons (.loc 0) (.cons (.int 1) .nil))) .nil))))
 (.cons [] (.asg (.nm 2) (.bin .add (.loc 2) (.int 1)))
 .nil))
  .nil)
 .nil)
def b146 : Sms := (.cons [] (.asg (.nm 2) (.int 0))
 (.cons [] (.asg (.nm 3) (.loc 1))
 (.cons [] (.for_ (.nm 4) (.fn .rng1 (.cons (.int 200) .nil))
  b146_1)
 (.cons [] (.ret (.tup (.cons (.sub (.loc 3) (.int 0)) (.cons (.loc 2) .nil))))
 .nil))))
/-- _law_list_total -/
def b152_1 : Sms := (.cons [] (.asg (.nm 2) (.call 151 (.cons (.loc 2) (.cons (.call 150 (.cons (.loc 0) (.cons (.loc 3) .nil))) .nil))))
 .nil)
def b152 : Sms := (.cons [] (.asg (.nm 2) (.tup (.cons (.int 0) (.cons (.int 0) (.cons (.int 0) (.cons (.int 0) .nil))))))
 (.cons [] (.for_ (.nm 3) (.ex (.loc 1))
  b152_1)
 (.cons [] (.ret (.loc 2))
 .nil)))
/-- _law_text_of_total -/
def b154 : Sms := (.cons [] (.asg (.tp [(.nm 3), (.nm 4), (.nm 5), (.nm 6)]) (.loc 2))
 (.cons [] (.ife (.bool .Or (.cons (.cmp .Gt (.loc 6) (.int 0)) (.cons (.bool .And (.cons (.cmp .Gt (.loc 4) (.int 0)) (.cons (.cmp .Gt (.loc 5) (.int 0)) .nil))) .nil)))
  (.cons [] (.ret (.str ("nan" : String)))
 .nil)
  .nil)
 (.cons [] (.ife (.cmp .Gt (.bin .add (.loc 4) (.loc 5)) (.int 0))
  (.cons [] (.ret (.sub (.lis (.lst (.cons (.str ("inf" : String)) (.cons (.str ("-inf" : String)) .nil)))) (.bf .int (.cons (.cmp .Gt (.loc 5) (.int 0)) .nil))))
 .nil)
  .nil)
 (.cons [] (.ife (.cmp .Eq (.loc 3) (.int 0))
  (.cons [] (.ret (.str ("0" : String)))
 .nil)
  .nil)
 (.cons [] (.asg (.tp [(.nm 7), (.nm 8)]) (.call 146 (.cons (.loc 1) (.cons (.call 129 (.cons (.tup (.cons (.bf .abs (.cons (.loc 3) .nil)) (.cons (.int 1) .nil))) (.cons (.call 149 (.cons (.loc 0) .nil)) .nil))) .nil))))
 (.cons [] (.asg (.tp [(.nm 9), (.nm 10)]) (.call 144 (.cons (.loc 1) (.cons (.loc 7) (.cons (.bin .sub (.int 0) (.loc 8)) .nil)))))
 (.cons [] (.ret (.call 143 (.cons (.loc 1) (.cons (.bf .int (.cons (.cmp .Lt (.loc 3) (.int 0)) .nil)) (.cons (.loc 9) (.cons (.loc 10) .nil))))))
 .nil)))))))
def tbl : List (Nat × Fn) := [(9, ⟨2, 3, Sh.b9⟩), (83, ⟨2, 2, Sh.b83⟩), (84, ⟨3, 6, Sh.b84⟩), (85, ⟨2, 3, Sh.b85⟩),
  (12, ⟨1, 1, b12⟩), (13, ⟨1, 1, b13⟩), (14, ⟨2, 7, b14⟩), (15, ⟨4, 7, b15⟩), (16, ⟨2, 5, b16⟩), (17, ⟨2, 6, b17⟩), (19, ⟨2, 3, b19⟩), (62, ⟨2, 3, b62⟩), (110, ⟨1, 1, b110⟩), (114, ⟨1, 1, b114⟩), (115, ⟨2, 7, b115⟩), (116, ⟨2, 3, b116⟩), (157, ⟨3, 4, b157⟩), (158, ⟨4, 6, b158⟩), (118, ⟨2, 4, b118⟩), (119, ⟨3, 3, b119⟩), (125, ⟨2, 4, b125⟩), (159, ⟨3, 6, b159⟩), (160, ⟨3, 5, b160⟩), (126, ⟨2, 3, b126⟩), (127, ⟨2, 3, b127⟩), (129, ⟨2, 2, b129⟩), (130, ⟨2, 2, b130⟩), (132, ⟨2, 2, b132⟩), (133, ⟨2, 4, b133⟩), (134, ⟨1, 1, b134⟩), (135, ⟨2, 4, b135⟩), (136, ⟨2, 5, b136⟩), (137, ⟨2, 6, b137⟩), (138, ⟨1, 1, b138⟩), (139, ⟨1, 1, b139⟩), (147, ⟨2, 3, b147⟩), (148, ⟨2, 5, b148⟩), (149, ⟨1, 1, b149⟩), (151, ⟨2, 2, b151⟩), (155, ⟨4, 7, b155⟩), (161, ⟨3, 6, b161⟩), (162, ⟨2, 2, b162⟩), (2, ⟨2, 3, b2⟩), (3, ⟨1, 1, b3⟩), (5, ⟨2, 2, b5⟩), (6, ⟨2, 2, b6⟩), (7, ⟨2, 2, b7⟩), (8, ⟨2, 2, b8⟩), (10, ⟨1, 1, b10⟩), (11, ⟨2, 2, b11⟩), (18, ⟨2, 4, b18⟩), (20, ⟨2, 2, b20⟩), (21, ⟨1, 1, b21⟩), (22, ⟨1, 1, b22⟩), (38, ⟨1, 2, b38⟩), (39, ⟨2, 5, b39⟩), (40, ⟨2, 2, b40⟩), (41, ⟨2, 2, b41⟩), (42, ⟨4, 6, b42⟩), (43, ⟨2, 2, b43⟩), (44, ⟨4, 6, b44⟩), (45, ⟨4, 4, b45⟩), (111, ⟨1, 1, b111⟩), (120, ⟨3, 5, b120⟩), (121, ⟨1, 5, b121⟩), (122, ⟨2, 3, b122⟩), (123, ⟨3, 6, b123⟩), (169, ⟨3, 6, b169⟩), (128, ⟨2, 2, b128⟩), (131, ⟨2, 2, b131⟩), (140, ⟨2, 2, b140⟩), (141, ⟨4, 12, b141⟩), (150, ⟨2, 3, b150⟩), (153, ⟨3, 8, b153⟩), (170, ⟨3, 6, b170⟩), (1, ⟨1, 1, b1⟩), (537, ⟨3, 6, b537⟩), (165, ⟨3, 6, b165⟩), (166, ⟨3, 7, b166⟩), (167, ⟨4, 6, b167⟩), (23, ⟨2, 3, b23⟩), (24, ⟨2, 4, b24⟩), (25, ⟨1, 1, b25⟩), (26, ⟨1, 4, b26⟩), (29, ⟨2, 2, b29⟩), (31, ⟨2, 11, b31⟩), (33, ⟨2, 3, b33⟩), (34, ⟨2, 4, b34⟩), (37, ⟨4, 4, b37⟩), (59, ⟨2, 2, b59⟩), (60, ⟨4, 5, b60⟩), (61, ⟨4, 9, b61⟩), (51, ⟨3, 3, b51⟩), (112, ⟨0, 0, b112⟩), (124, ⟨3, 9, b124⟩), (142, ⟨2, 4, b142⟩), (143, ⟨4, 7, b143⟩), (144, ⟨3, 4, b144⟩), (145, ⟨1, 1, b145⟩), (146, ⟨2, 5, b146⟩), (152, ⟨2, 4, b152⟩), (154, ⟨3, 11, b154⟩)]
def U (i : Nat) : Option Fn := tbl.lookup i
end Vp.U

end

section
set_option Elab.async false
set_option linter.all false
set_option autoImplicit false
set_option maxRecDepth 100000
set_option maxHeartbeats 0
/-! what the formats' and totals' defs compute -/
namespace Vp.U
open Vp L2 PySem
abbrev I (i : Int) : D := .int i
/-- a table has those defs -/
def Ag (tab : Nat → Option Fn) : List Nat → Prop
  | [] => True
  | i :: r => tab i = U i ∧ Ag tab r
theorem Ag.get {tab : Nat → Option Fn} : ∀ {l : List Nat} {i : Nat}, Ag tab l → i ∈ l → tab i = U i
  | j :: r, i, h, hi => by
    rcases List.mem_cons.mp hi with rfl | hi
    · exact h.1
    · exact Ag.get h.2 hi
theorem Ag.sub {tab : Nat → Option Fn} {l : List Nat} (h : Ag tab l) : ∀ {l' : List Nat}, (∀ i ∈ l', i ∈ l) → Ag tab l'
  | [], _ => trivial
  | i :: r, q => ⟨h.get (q i List.mem_cons_self), Ag.sub h fun j hj => q j (List.mem_cons_of_mem _ hj)⟩
/-- powers of two -/
def two (e : Int) : Int := 2 ^ e.toNat
theorem two_pos (e : Int) : 0 < two e := Int.pow_pos (by decide)
theorem two_add {a b : Int} (ha : 0 ≤ a) (hb : 0 ≤ b) : two (a + b) = two a * two b := by
  unfold two
  rw [Int.toNat_add ha hb, Int.pow_add]
theorem two_zero : two 0 = 1 := rfl
theorem two_nat (n : Nat) : two n = 2 ^ n := rfl
theorem two_le {a b : Int} (h : a ≤ b) : two a ≤ two b := by
  unfold two
  have e : ∀ n : Nat, (2 : Int) ^ n = ((2 ^ n : Nat) : Int) := fun n => by simp
  rw [e, e]
  exact Int.ofNat_le.mpr (Nat.pow_le_pow_right (by omega) (by omega))
theorem two_divOk {e : Int} (h : e ≤ 8000) : divOk (two e) = true := by
  refine divOk_pow 8001 (two_pos e) ?_ (by omega)
  unfold two
  rw [Int.natAbs_pow]
  exact Nat.pow_lt_pow_right (by decide) (by omega)
/-- a format -/
structure Fm where
  full : Bool
  w : Int
  p : Int
def Fm.kd (F : Fm) : Str := if F.full then ("full" : String) else ("ieee" : String)
def Fm.d (F : Fm) : D := .tup [.str F.kd, I F.w, I F.p]
structure Fm.Ok (F : Fm) : Prop where
  w0 : 2 ≤ F.w
  w1 : F.w ≤ 16
  p0 : 0 ≤ F.p
  p1 : F.p ≤ 50
theorem kd_full {F : Fm} : decide (F.kd = ("full" : String)) = F.full := by
  unfold Fm.kd
  cases F.full <;> decide
theorem kd_ieee {F : Fm} : decide (F.kd = ("ieee" : String)) = !F.full := by
  unfold Fm.kd
  cases F.full <;> decide
@[simp] theorem form0 {F : Fm} : ixD F.d (.int 0) = some (.str F.kd) := rfl
@[simp] theorem form1 {F : Fm} : ixD F.d (.int 1) = some (I F.w) := rfl
@[simp] theorem form2 {F : Fm} : ixD F.d (.int 2) = some (I F.p) := rfl
theorem two20 {e : Int} (h : e ≤ 20) : two e ≤ 1048576 := Int.le_trans (two_le h) (by decide)
theorem two50 {e : Int} (h : e ≤ 50) : two e ≤ 1125899906842624 := Int.le_trans (two_le h) (by decide +kernel)
section
variable {tab : Nat → Option Fn} {gl : Nat → Option D} {wn k : Nat} {F : Fm}
theorem raised2 {e : Int} (A : Ag tab [9]) (W : 64 ≤ wn) (h0 : 0 ≤ e) (h1 : e ≤ 100000) : callN tab gl wn (k + 1) 9 [I 2, I e] = some (I (two e)) := by
  have e1 : (2 : Nat) ^ 63 ≤ 2 ^ (wn - 1) := Nat.pow_le_pow_right (by omega) (by omega)
  have e2 : (2 : Nat) ^ 63 = 9223372036854775808 := by decide
  exact Sh.raised (c := 2) (tab := tab) A.1 h0 (by decide) (by omega) (by omega) (by omega)
def bias (F : Fm) : Int := two (F.w - 1) - 1
def topE (F : Fm) : Int := two F.w - 1
theorem bias_of (A : Ag tab [9, 12]) (W : 64 ≤ wn) (o : F.Ok) : callN tab gl wn (k + 2) 12 [F.d] = some (I (bias F)) := by
  have a1 := raised2 (gl := gl) (k := k) (e := F.w - 1) (A.sub (l' := [9]) (by decide)) W (by have := o.w0; omega) (by have := o.w1; omega)
  rw [callN_eq (A.get (i := 12) (by decide)) rfl]
  generalize callN tab gl wn (k + 1) = cf at *
  simp [b12, exs_cons, seqF_def, startE, a1, bias]
theorem top_exponent (A : Ag tab [9, 13]) (W : 64 ≤ wn) (o : F.Ok) : callN tab gl wn (k + 2) 13 [F.d] = some (I (topE F)) := by
  have a1 := raised2 (gl := gl) (k := k) (e := F.w) (A.sub (l' := [9]) (by decide)) W (by have := o.w0; omega) (by have := o.w1; omega)
  rw [callN_eq (A.get (i := 13) (by decide)) rfl]
  generalize callN tab gl wn (k + 1) = cf at *
  simp [b13, exs_cons, seqF_def, startE, a1, topE]
def sg (F : Fm) (x : Int) : Int := x / two F.p / two F.w
def ee (F : Fm) (x : Int) : Int := x / two F.p % two F.w
def ff (F : Fm) (x : Int) : Int := x % two F.p
theorem asg3 {a b c : D} {E : Env'} {i j l : Nat} : asgT (.tp [.nm i, .nm j, .nm l]) (.tup [a, b, c]) E = some (((E.set i (.f a)).set j (.f b)).set l (.f c)) := rfl
theorem asgF {E : Env'} {i j l : Nat} : asgT (.tp [.nm i, .nm j, .nm l]) F.d E = some (((E.set i (.f (.str F.kd))).set j (.f (I F.w))).set l (.f (I F.p))) := rfl
theorem parts_of {x : Int} (A : Ag tab [9, 14]) (W : 64 ≤ wn) (o : F.Ok) : callN tab gl wn (k + 2) 14 [F.d, I x] = some (.tup [I (sg F x), I (ee F x), I (ff F x)]) := by
  have a1 := raised2 (gl := gl) (k := k) (e := F.w) (A.sub (l' := [9]) (by decide)) W (by have := o.w0; omega) (by have := o.w1; omega)
  have a2 := raised2 (gl := gl) (k := k) (e := F.p) (A.sub (l' := [9]) (by decide)) W (by have := o.p0; omega) (by have := o.p1; omega)
  have d1 : divOk (two F.w) = true := two_divOk (by have := o.w1; omega)
  have d2 : divOk (two F.p) = true := two_divOk (by have := o.p1; omega)
  have p1 := two_pos F.w
  have p2 := two_pos F.p
  rw [callN_eq (A.get (i := 14) (by decide)) rfl]
  generalize callN tab gl wn (k + 1) = cf at *
  simp [b14, exs_cons, seqF_def, startE, asgF, a1, a2, d1, d2, p1, p2, sg, ee, ff]
theorem pattern_of {s e f : Int} (A : Ag tab [9, 15]) (W : 64 ≤ wn) (o : F.Ok) (s0 : 0 ≤ s) (s1 : s ≤ 1000000) (e0 : 0 ≤ e) (e1 : e ≤ 1000000000000) : callN tab gl wn (k + 2) 15 [F.d, I s, I e, I f] = some (I ((s * two F.w + e) * two F.p + f)) := by
  have a1 := raised2 (gl := gl) (k := k) (e := F.w) (A.sub (l' := [9]) (by decide)) W (by have := o.w0; omega) (by have := o.w1; omega)
  have a2 := raised2 (gl := gl) (k := k) (e := F.p) (A.sub (l' := [9]) (by decide)) W (by have := o.p0; omega) (by have := o.p1; omega)
  have m1 : mulOk s (two F.w) = true := mulOk_l (by omega) (by omega)
  have t1 := two20 (e := F.w) (by have := o.w1; omega)
  have t0 := two_pos F.w
  have q1 : s * two F.w ≤ 1000000 * two F.w := Int.mul_le_mul_of_nonneg_right s1 (by omega)
  have q0 : 0 ≤ s * two F.w := Int.mul_nonneg s0 (by omega)
  have m2 : mulOk (s * two F.w + e) (two F.p) = true := mulOk_l (by omega) (by omega)
  rw [callN_eq (A.get (i := 15) (by decide)) rfl]
  generalize callN tab gl wn (k + 1) = cf at *
  simp [b15, exs_cons, seqF_def, startE, asgF, a1, a2, m1, m2]
/-- the kind of a pattern -/
def kindS (F : Fm) (x : Int) : Str := if F.full = true ∨ ee F x ≠ topE F then ("number" : String) else if ff F x = 0 then ("endless" : String) else ("none" : String)
theorem kind_of {x : Int} (A : Ag tab [9, 13, 14, 16]) (W : 64 ≤ wn) (o : F.Ok) : callN tab gl wn (k + 3) 16 [F.d, I x] = some (.str (kindS F x)) := by
  have a1 := parts_of (gl := gl) (k := k) (x := x) (A.sub (l' := [9, 14]) (by decide)) W o
  have a2 := top_exponent (gl := gl) (k := k) (A.sub (l' := [9, 13]) (by decide)) W o
  rw [callN_eq (A.get (i := 16) (by decide)) rfl]
  generalize callN tab gl wn (k + 2) = cf at *
  unfold kindS
  have kf := kd_full (F := F)
  generalize sg F x = s at *
  generalize ee F x = e at *
  generalize ff F x = f at *
  cases h : F.full with
  | true =>
    rw [h] at kf
    simp [b16, exs_cons, seqF_def, startE, asg3, a1, kf]
  | false =>
    rw [h] at kf
    by_cases h2 : e = topE F
    · by_cases h3 : f = 0
      · simp [b16, exs_cons, seqF_def, startE, asg3, a1, a2, kf, h2, h3]
      · simp [b16, exs_cons, seqF_def, startE, asg3, a1, a2, kf, h2, h3]
    · simp [b16, exs_cons, seqF_def, startE, asg3, a1, a2, kf, h2]
def cc (F : Fm) (x : Int) : Int := if ee F x = 0 then ff F x else two F.p + ff F x
def e1 (F : Fm) (x : Int) : Int := if 1 > ee F x then 1 else ee F x
theorem scale_of {x : Int} (A : Ag tab [9, 12, 14, 17]) (W : 64 ≤ wn) (o : F.Ok) : callN tab gl wn (k + 3) 17 [F.d, I x] = some (.tup [I (cc F x), I (e1 F x - bias F - F.p)]) := by
  have a1 := parts_of (gl := gl) (k := k) (x := x) (A.sub (l' := [9, 14]) (by decide)) W o
  have a2 := bias_of (gl := gl) (k := k) (A.sub (l' := [9, 12]) (by decide)) W o
  have a3 := raised2 (gl := gl) (k := k + 1) (e := F.p) (A.sub (l' := [9]) (by decide)) W (by have := o.p0; omega) (by have := o.p1; omega)
  rw [callN_eq (A.get (i := 17) (by decide)) rfl]
  change callN tab gl wn (k + 2) _ _ = _ at a3
  generalize callN tab gl wn (k + 2) = cf at *
  unfold cc e1
  generalize sg F x = s at *
  generalize ee F x = e at *
  generalize ff F x = f at *
  by_cases h : e = 0
  · simp [b17, exs_cons, seqF_def, startE, asg3, a1, a2, a3, h]
  · simp [b17, exs_cons, seqF_def, startE, asg3, a1, a2, a3, h]
def top (F : Fm) (s : Int) : Int := (s * two F.w + (if F.full = true then topE F else topE F - 1)) * two F.p + (two F.p - 1)
theorem greatest {s : Int} (A : Ag tab [9, 13, 15, 19]) (W : 64 ≤ wn) (o : F.Ok) (s0 : 0 ≤ s) (s1 : s ≤ 1) : callN tab gl wn (k + 3) 19 [F.d, I s] = some (I (top F s)) := by
  have a1 := top_exponent (gl := gl) (k := k) (A.sub (l' := [9, 13]) (by decide)) W o
  have t1 := two20 (e := F.w) (by have := o.w1; omega)
  have t2 : two 2 ≤ two F.w := two_le o.w0
  have t3 : two 2 = 4 := rfl
  have a2 := fun e f h0 h1 => pattern_of (gl := gl) (k := k) (s := s) (e := e) (f := f) (A.sub (l' := [9, 15]) (by decide)) W o s0 (by omega) h0 h1
  have a3 := raised2 (gl := gl) (k := k + 1) (e := F.p) (A.sub (l' := [9]) (by decide)) W (by have := o.p0; omega) (by have := o.p1; omega)
  rw [callN_eq (A.get (i := 19) (by decide)) rfl]
  change callN tab gl wn (k + 2) _ _ = _ at a3
  generalize callN tab gl wn (k + 2) = cf at *
  have kf := kd_full (F := F)
  unfold top
  have b1 := a2 (topE F) (two F.p - 1) (by unfold topE; omega) (by unfold topE; omega)
  have b2 := a2 (topE F - 1) (two F.p - 1) (by unfold topE; omega) (by unfold topE; omega)
  cases h : F.full with
  | true =>
    rw [h] at kf
    simp [b19, exs_cons, seqF_def, startE, a1, a3, b1, kf]
  | false =>
    rw [h] at kf
    simp [b19, exs_cons, seqF_def, startE, a1, a3, b2, kf]
/-- a pattern -/
structure Pt (F : Fm) (x : Int) : Prop where
  x0 : 0 ≤ x
  x1 : x < 2 * (two F.w * two F.p)
theorem Pt.sg {F : Fm} {x : Int} (h : Pt F x) : 0 ≤ sg F x ∧ sg F x ≤ 1 := by
  have p1 := two_pos F.w
  have p2 := two_pos F.p
  unfold Vp.U.sg
  have h1 : 0 ≤ x / two F.p := Int.ediv_nonneg h.x0 (by omega)
  refine ⟨Int.ediv_nonneg h1 (by omega), ?_⟩
  have h2 : x / two F.p < 2 * two F.w := by
    refine Int.ediv_lt_of_lt_mul p2 ?_
    have := h.x1
    rw [← Int.mul_assoc] at this
    exact this
  have h3 : x / two F.p / two F.w < 2 := Int.ediv_lt_of_lt_mul p1 (by omega)
  omega
def plain (F : Fm) (x : Int) : Int := x - sg F x * (two F.w * two F.p)
theorem own_sign {x : Int} (A : Ag tab [9, 14, 15, 62]) (W : 64 ≤ wn) (o : F.Ok) (h : Pt F x) : callN tab gl wn (k + 3) 62 [F.d, I x] = some (.tup [I (sg F x), I (plain F x)]) := by
  have a1 := parts_of (gl := gl) (k := k) (x := x) (A.sub (l' := [9, 14]) (by decide)) W o
  have a2 := pattern_of (gl := gl) (k := k) (s := 1) (e := 0) (f := 0) (A.sub (l' := [9, 15]) (by decide)) W o (by omega) (by omega) (by omega) (by omega)
  rw [callN_eq (A.get (i := 62) (by decide)) rfl]
  generalize callN tab gl wn (k + 2) = cf at *
  unfold plain
  obtain ⟨s0, s1⟩ := h.sg
  generalize sg F x = s at *
  generalize ee F x = e at *
  generalize ff F x = f at *
  have m1 : mulOk s (two F.w * two F.p) = true := mulOk_l (by omega) (by omega)
  have i0 : ∀ a b c : D, atI [a, b, c] 0 = some a := fun _ _ _ => rfl
  have e0 : (1 * two F.w + 0) * two F.p + 0 = two F.w * two F.p := by rw [Int.one_mul, Int.add_zero, Int.add_zero]
  rw [e0] at a2
  simp [b62, exs_cons, seqF_def, startE, a1, a2, m1, i0]
end
end Vp.U

end

section
set_option Elab.async false
set_option linter.all false
set_option autoImplicit false
set_option maxRecDepth 100000
set_option maxHeartbeats 0
/-! what the totals' defs compute -/
namespace Vp.U
open Vp L2 PySem
section
variable {tab : Nat → Option Fn} {gl : Nat → Option D} {wn k : Nat} {F : Fm}
def low (F : Fm) : Int := 1 - bias F - F.p
theorem bias_range (o : F.Ok) : 1 ≤ bias F ∧ bias F ≤ 65535 := by
  unfold bias
  have h1 : two 1 ≤ two (F.w - 1) := two_le (by have := o.w0; omega)
  have h2 : two (F.w - 1) ≤ two 16 := two_le (by have := o.w1; omega)
  have e1 : two 1 = 2 := rfl
  have e2 : two 16 = 65536 := rfl
  omega
theorem ee_range {x : Int} (o : F.Ok) : 0 ≤ ee F x ∧ ee F x ≤ 65535 := by
  unfold ee
  have p1 := two_pos F.w
  have h1 := Int.emod_nonneg (x / two F.p) (show two F.w ≠ 0 by omega)
  have h2 := Int.emod_lt_of_pos (x / two F.p) p1
  have h3 : two F.w ≤ two 16 := two_le (by have := o.w1; omega)
  have e2 : two 16 = 65536 := rfl
  omega
theorem ff_range {x : Int} : 0 ≤ ff F x ∧ ff F x < two F.p := by
  unfold ff
  have p1 := two_pos F.p
  exact ⟨Int.emod_nonneg _ (by omega), Int.emod_lt_of_pos _ p1⟩
theorem cc_range {x : Int} (o : F.Ok) : 0 ≤ cc F x ∧ cc F x < 2251799813685248 := by
  unfold cc
  have h1 := ff_range (F := F) (x := x)
  have h2 := two50 o.p1
  split <;> omega
theorem e1_range {x : Int} (o : F.Ok) : 1 ≤ e1 F x ∧ e1 F x ≤ 65535 := by
  unfold e1
  have := ee_range (x := x) o
  split <;> omega
theorem lowest_power (A : Ag tab [9, 12, 110]) (W : 64 ≤ wn) (o : F.Ok) : callN tab gl wn (k + 3) 110 [F.d] = some (I (low F)) := by
  have a1 := bias_of (gl := gl) (k := k) (A.sub (l' := [9, 12]) (by decide)) W o
  rw [callN_eq (A.get (i := 110) (by decide)) rfl]
  generalize callN tab gl wn (k + 2) = cf at *
  simp [b110, exs_cons, seqF_def, startE, a1, low]
/-- totals -/
structure Q4 where
  a : Int
  b : Int
  c : Int
  e : Int
def Q4.d (q : Q4) : D := .tup [I q.a, I q.b, I q.c, I q.e]
def Q4.add (q r : Q4) : Q4 := ⟨q.a + r.a, q.b + r.b, q.c + r.c, q.e + r.e⟩
def q0 : Q4 := ⟨0, 0, 0, 0⟩
def qNone : Q4 := ⟨0, 0, 0, 1⟩
def endQ (s : Int) : Q4 := if s = 0 then ⟨0, 1, 0, 0⟩ else ⟨0, 0, 1, 0⟩
theorem endless_total {s : Int} (A : Ag tab [114]) : callN tab gl wn (k + 1) 114 [I s] = some (endQ s).d := by
  rw [callN_eq (A.get (i := 114) (by decide)) rfl]
  generalize callN tab gl wn k = cf at *
  by_cases h : s = 0
  · simp [b114, exs_cons, seqF_def, startE, endQ, h, Q4.d]
  · simp [b114, exs_cons, seqF_def, startE, endQ, h, Q4.d]
/-- a pattern's number of steps -/
def size (F : Fm) (x : Int) : Int := cc F x * two (e1 F x - 1)
def steps (F : Fm) (x : Int) : Int := if sg F x = 0 then size F (plain F x) else -size F (plain F x)
theorem asg2 {a b : D} {E : Env'} {i j : Nat} : asgT (.tp [.nm i, .nm j]) (.tup [a, b]) E = some ((E.set i (.f a)).set j (.f b)) := rfl
theorem steps_in {x : Int} (A : Ag tab [9, 12, 14, 15, 17, 62, 110, 115]) (W : 64 ≤ wn) (o : F.Ok) (h : Pt F x) : callN tab gl wn (k + 4) 115 [F.d, I x] = some (I (steps F x)) := by
  have a1 := own_sign (gl := gl) (k := k) (x := x) (A.sub (l' := [9, 14, 15, 62]) (by decide)) W o h
  have a2 := scale_of (gl := gl) (k := k) (x := plain F x) (A.sub (l' := [9, 12, 14, 17]) (by decide)) W o
  have a3 := lowest_power (gl := gl) (k := k) (A.sub (l' := [9, 12, 110]) (by decide)) W o
  have r1 := e1_range (x := plain F x) o
  have e0 : e1 F (plain F x) - bias F - F.p - low F = e1 F (plain F x) - 1 := by unfold low; omega
  have a4 := raised2 (gl := gl) (k := k + 2) (e := e1 F (plain F x) - 1) (A.sub (l' := [9]) (by decide)) W (by omega) (by omega)
  have c1 := cc_range (x := plain F x) o
  have m1 : mulOk (cc F (plain F x)) (two (e1 F (plain F x) - 1)) = true := mulOk_l (by omega) (by omega)
  rw [callN_eq (A.get (i := 115) (by decide)) rfl]
  change callN tab gl wn (k + 3) _ _ = _ at a4
  generalize callN tab gl wn (k + 3) = cf at *
  unfold steps size
  rw [← e0] at a4 m1 ⊢
  generalize sg F x = s at *
  generalize plain F x = y at *
  generalize cc F y = c at *
  generalize e1 F y = e at *
  generalize bias F = b at *
  generalize low F = lo at *
  by_cases hs : s = 0
  · simp [b115, exs_cons, seqF_def, startE, asg2, a1, a2, a3, a4, m1, hs]
  · simp [b115, exs_cons, seqF_def, startE, asg2, a1, a2, a3, a4, m1, hs]
theorem size_lt {x : Int} (o : F.Ok) : (size F x).natAbs < 2 ^ (70000 + 1) := by
  unfold size two
  have c1 := cc_range (x := x) o
  have r1 := e1_range (x := x) o
  rw [Int.natAbs_mul, Int.natAbs_pow]
  have h1 : (cc F x).natAbs < 2 ^ 51 := by
    have : (2 : Nat) ^ 51 = 2251799813685248 := by decide
    omega
  have h2 : (2 : Int).natAbs ^ (e1 F x - 1).toNat ≤ 2 ^ 65535 := Nat.pow_le_pow_right (by decide) (by omega)
  have h3 : (cc F x).natAbs * (2 : Int).natAbs ^ (e1 F x - 1).toNat ≤ 2 ^ 51 * 2 ^ 65535 := Nat.mul_le_mul (by omega) h2
  rw [← Nat.pow_add] at h3
  exact Nat.lt_of_le_of_lt h3 (Nat.pow_lt_pow_right (by omega) (by omega))
theorem steps_lt {x : Int} (o : F.Ok) : (steps F x).natAbs < 2 ^ (70000 + 1) := by
  unfold steps
  split
  · exact size_lt o
  · rw [Int.natAbs_neg]
    exact size_lt o
theorem kind3 (F : Fm) (x : Int) : kindS F x = ("number" : String) ∨ kindS F x = ("endless" : String) ∨ kindS F x = ("none" : String) := by
  unfold kindS
  split
  · exact .inl rfl
  · split
    · exact .inr (.inl rfl)
    · exact .inr (.inr rfl)
theorem str_ne1 : ¬ (("number" : String) : Str) = ("none" : String) := by decide
theorem str_ne2 : ¬ (("endless" : String) : Str) = ("none" : String) := by decide
theorem str_ne3 : ¬ (("number" : String) : Str) = ("endless" : String) := by decide
theorem str_ne4 : ¬ (("none" : String) : Str) = ("endless" : String) := by decide
theorem str_ne5 : ¬ (("endless" : String) : Str) = ("number" : String) := by decide
theorem str_ne6 : ¬ (("none" : String) : Str) = ("number" : String) := by decide
def totalQ (F : Fm) (x : Int) : Q4 := if kindS F x = ("none" : String) then qNone else if kindS F x = ("endless" : String) then endQ (sg F x) else ⟨steps F x * two (-low F), 0, 0, 0⟩
theorem total_of {x : Int} (A : Ag tab [9, 12, 13, 14, 15, 16, 17, 62, 110, 114, 115, 116]) (W : 64 ≤ wn) (o : F.Ok) (h : Pt F x) (g : gl 117 = some qNone.d) : callN tab gl wn (k + 5) 116 [F.d, I x] = some (totalQ F x).d := by
  have a1 := kind_of (gl := gl) (k := k + 1) (x := x) (A.sub (l' := [9, 13, 14, 16]) (by decide)) W o
  have a2 := own_sign (gl := gl) (k := k + 1) (x := x) (A.sub (l' := [9, 14, 15, 62]) (by decide)) W o h
  have a3 := endless_total (gl := gl) (wn := wn) (k := k + 3) (s := sg F x) (A.sub (l' := [114]) (by decide))
  have a4 := steps_in (gl := gl) (k := k) (x := x) (A.sub (l' := [9, 12, 14, 15, 17, 62, 110, 115]) (by decide)) W o h
  have a5 := lowest_power (gl := gl) (k := k + 1) (A.sub (l' := [9, 12, 110]) (by decide)) W o
  have b1 := bias_range o
  have a6 := raised2 (gl := gl) (k := k + 3) (e := -low F) (A.sub (l' := [9]) (by decide)) W (by unfold low; have := o.p0; omega) (by unfold low; have := o.p1; omega)
  have m1 : mulOk (steps F x) (two (-low F)) = true := by
    refine mulOk_pow 70000 70000 (steps_lt o) ?_ (by omega)
    unfold two
    rw [Int.natAbs_pow]
    exact Nat.pow_lt_pow_right (by decide) (by unfold low; have := o.p1; omega)
  rw [callN_eq (A.get (i := 116) (by decide)) rfl]
  change callN tab gl wn (k + 4) _ _ = _ at a1
  change callN tab gl wn (k + 4) _ _ = _ at a2
  change callN tab gl wn (k + 4) _ _ = _ at a3
  change callN tab gl wn (k + 4) _ _ = _ at a5
  change callN tab gl wn (k + 4) _ _ = _ at a6
  generalize callN tab gl wn (k + 4) = cf at *
  have i0 : ∀ a b : D, atI [a, b] 0 = some a := fun _ _ => rfl
  unfold totalQ
  generalize sg F x = s at *
  generalize plain F x = y at *
  generalize steps F x = st at *
  generalize low F = lo at *
  rcases kind3 F x with hk | hk | hk
  · rw [hk] at a1 ⊢
    simp [b116, exs_cons, seqF_def, startE, a1, a4, a5, a6, m1, str_ne1, str_ne3, Q4.d]
  · rw [hk] at a1 ⊢
    simp [b116, exs_cons, seqF_def, startE, a1, a2, a3, str_ne2, i0]
  · rw [hk] at a1 ⊢
    simp [b116, exs_cons, seqF_def, startE, a1, g]
end
end Vp.U

end

section
set_option Elab.async false
set_option linter.all false
set_option autoImplicit false
set_option maxRecDepth 100000
set_option maxHeartbeats 0
/-! what the sums' defs compute -/
namespace Vp.U
open Vp L2 PySem
section
variable {tab : Nat → Option Fn} {gl : Nat → Option D} {wn k : Nat} {F : Fm}
theorem zip_tup {xs ys : List D} : ifD .zip [.tup xs, .tup ys] = some ((xs.zip ys).map fun p => .tup [p.1, p.2]) := rfl
theorem zip_lst {xs ys : List D} : ifD .zip [.lst xs, .lst ys] = some ((xs.zip ys).map fun p => .tup [p.1, p.2]) := rfl
theorem together {q r : Q4} (A : Ag tab [118]) : callN tab gl wn (k + 1) 118 [q.d, r.d] = some (q.add r).d := by
  rw [callN_eq (A.get (i := 118) (by decide)) rfl]
  generalize callN tab gl wn k = cf at *
  have e1 : evI cf gl (.fn .zip (.cons (.loc 0) (.cons (.loc 1) .nil))) [.f q.d, .f r.d, .u, .u] = some [.tup [I q.a, I r.a], .tup [I q.b, I r.b], .tup [I q.c, I r.c], .tup [I q.e, I r.e]] := rfl
  have e2 : compL (.tp [.nm 2, .nm 3]) (evC cf gl .no) (ev cf gl (.bin .add (.loc 2) (.loc 3))) [.f q.d, .f r.d, .u, .u] [.tup [I q.a, I r.a], .tup [I q.b, I r.b], .tup [I q.c, I r.c], .tup [I q.e, I r.e]] = some [I (q.a + r.a), I (q.b + r.b), I (q.c + r.c), I (q.e + r.e)] := rfl
  have e3 : evL cf gl (.comp [2, 3] (.tp [.nm 2, .nm 3]) (.bin .add (.loc 2) (.loc 3)) .no (.fn .zip (.cons (.loc 0) (.cons (.loc 1) .nil)))) [.f q.d, .f r.d, .u, .u] = some [I (q.a + r.a), I (q.b + r.b), I (q.c + r.c), I (q.e + r.e)] := by
    rw [evL_comp, e1, Option.bind_some, if_pos (by simp)]
    exact e2
  have e4 : exs cf gl wn b118 (startE 4 [q.d, r.d]) = some (.rt (q.add r).d) := by
    refine exs_rt ?_
    rw [frz_nil, ex1_ret, ev_bf, evs_cons, ev_lis]
    erw [e3]
    rfl
  rw [e4]
  rfl
theorem added {q : Q4} {x : Int} (A : Ag tab [9, 12, 13, 14, 15, 16, 17, 62, 110, 114, 115, 116, 118, 119]) (W : 64 ≤ wn) (o : F.Ok) (h : Pt F x) (g : gl 117 = some qNone.d) : callN tab gl wn (k + 6) 119 [F.d, q.d, I x] = some (q.add (totalQ F x)).d := by
  have a1 := total_of (gl := gl) (k := k) (x := x) (A.sub (l' := [9, 12, 13, 14, 15, 16, 17, 62, 110, 114, 115, 116]) (by decide)) W o h g
  have a2 := together (gl := gl) (wn := wn) (k := k + 4) (q := q) (r := totalQ F x) (A.sub (l' := [118]) (by decide))
  rw [callN_eq (A.get (i := 119) (by decide)) rfl]
  change callN tab gl wn (k + 5) _ _ = _ at a2
  generalize callN tab gl wn (k + 5) = cf at *
  simp [b119, exs_cons, seqF_def, startE, a1, a2]
def sumQ (qs : List Q4) : Q4 := qs.foldl Q4.add q0
theorem sumQ_snoc (qs : List Q4) (q : Q4) : sumQ (qs ++ [q]) = (sumQ qs).add q := by
  unfold sumQ
  rw [List.foldl_append]
  rfl
theorem list_total {xs : List Int} (A : Ag tab [9, 12, 13, 14, 15, 16, 17, 62, 110, 114, 115, 116, 118, 119, 125]) (W : 64 ≤ wn) (o : F.Ok) (h : ∀ x ∈ xs, Pt F x) (g : gl 117 = some qNone.d) (g0 : gl 113 = some q0.d) : callN tab gl wn (k + 7) 125 [F.d, .lst (xs.map .int)] = some (sumQ (xs.map (totalQ F))).d := by
  have a1 := fun q x hx => added (gl := gl) (k := k) (q := q) (x := x) (A.sub (l' := [9, 12, 13, 14, 15, 16, 17, 62, 110, 114, 115, 116, 118, 119]) (by decide)) W o (h x hx) g
  rw [callN_eq (A.get (i := 125) (by decide)) rfl]
  generalize callN tab gl wn (k + 6) = cf at *
  obtain ⟨E', e1, c, rfl⟩ := forF_inv (t := .nm 3) (b := exs cf gl wn b125_1) (xs.map .int) (fun i E => ∃ c, E = [.f F.d, .f (.lst (xs.map .int)), .f (sumQ ((xs.take i).map (totalQ F))).d, c]) [.f F.d, .f (.lst (xs.map .int)), .f q0.d, .u] ⟨_, rfl⟩ (by
    rintro i d E hd ⟨c, rfl⟩
    rw [List.getElem?_map] at hd
    obtain ⟨x, hx, rfl⟩ := Option.map_eq_some_iff.mp hd
    have b1 := a1 (sumQ ((xs.take i).map (totalQ F))) x (List.mem_of_getElem? hx)
    rw [← sumQ_snoc] at b1
    have e2 : (xs.take i).map (totalQ F) ++ [totalQ F x] = (xs.take (i + 1)).map (totalQ F) := by
      rw [List.take_add_one, hx, List.map_append]
      rfl
    rw [e2] at b1
    refine ⟨_, [.f F.d, .f (.lst (xs.map .int)), .f (sumQ ((xs.take (i + 1)).map (totalQ F))).d, .f (I x)], rfl, .inl ?_, _, rfl⟩
    generalize (sumQ ((xs.take i).map (totalQ F))) = qi at *
    generalize (sumQ ((xs.take (i + 1)).map (totalQ F))) = qj at *
    simp [b125_1, exs_cons, seqF_def, b1])
  rw [List.length_map, List.take_length] at e1
  have e3 : exs cf gl wn b125 (startE 4 [F.d, .lst (xs.map .int)]) = some (.rt (sumQ (xs.map (totalQ F))).d) := by
    refine exs_nx (E' := [.f F.d, .f (.lst (xs.map .int)), .f q0.d, .u]) (by simp [startE, g0]) ?_
    refine exs_nx (E' := _) (by rw [frz_nil, ex1_for]; exact e1) ?_
    refine exs_rt (by simp)
  rw [e3]
  rfl
/-- products -/
def xorS (s t : Int) : Int := if s = t then 0 else 1
def endP (F : Fm) (x y : Int) : Q4 := if (kindS F x = ("number" : String) ∧ plain F x = 0) ∨ (kindS F y = ("number" : String) ∧ plain F y = 0) then qNone else endQ (xorS (sg F x) (sg F y))
def prodQ (F : Fm) (x y : Int) : Q4 := if kindS F x = ("none" : String) ∨ kindS F y = ("none" : String) then qNone else if kindS F x = ("endless" : String) ∨ kindS F y = ("endless" : String) then endP F x y else ⟨steps F x * steps F y, 0, 0, 0⟩
theorem xor_sg {s t : Int} (s0 : 0 ≤ s) (s1 : s ≤ 1) (t0 : 0 ≤ t) (t1 : t ≤ 1) : Builtin.bitXor s t = xorS s t := by
  have h1 : s = 0 ∨ s = 1 := by omega
  have h2 : t = 0 ∨ t = 1 := by omega
  rcases h1 with rfl | rfl <;> rcases h2 with rfl | rfl <;> decide
theorem endless_product {x y : Int} (A : Ag tab [9, 14, 15, 62, 114, 158]) (W : 64 ≤ wn) (o : F.Ok) (h : Pt F x) (h' : Pt F y) (g : gl 117 = some qNone.d) : callN tab gl wn (k + 4) 158 [F.d, .tup [.str (kindS F x), .str (kindS F y)], I x, I y] = some (endP F x y).d := by
  have a1 := own_sign (gl := gl) (k := k) (x := x) (A.sub (l' := [9, 14, 15, 62]) (by decide)) W o h
  have a2 := own_sign (gl := gl) (k := k) (x := y) (A.sub (l' := [9, 14, 15, 62]) (by decide)) W o h'
  have a3 := endless_total (gl := gl) (wn := wn) (k := k + 2) (s := xorS (sg F x) (sg F y)) (A.sub (l' := [114]) (by decide))
  have x1 := xor_sg h.sg.1 h.sg.2 h'.sg.1 h'.sg.2
  rw [callN_eq (A.get (i := 158) (by decide)) rfl]
  change callN tab gl wn (k + 3) _ _ = _ at a3
  generalize callN tab gl wn (k + 3) = cf at *
  unfold endP
  have i0 : ∀ a b : D, atI [a, b] 0 = some a := fun _ _ => rfl
  have i1 : ∀ a b : D, atI [a, b] 1 = some b := fun _ _ => rfl
  generalize kindS F x = kx at *
  generalize kindS F y = ky at *
  generalize sg F x = s at *
  generalize sg F y = t at *
  have step : ∀ (kd : Str) (z p : Int) (s : Int) (c4 c5 : Cell) (kk : D), cf 62 [F.d, I z] = some (.tup [I s, I p]) → exs cf gl wn b158_1 [.f F.d, .f kk, .f (I x), .f (I y), .f (.str kd), .f (I z)] = some (if kd = ("number" : String) ∧ p = 0 then .rt qNone.d else .nx [.f F.d, .f kk, .f (I x), .f (I y), .f (.str kd), .f (I z)]) := by
    intro kd z p s c4 c5 kk hz
    by_cases h1 : kd = ("number" : String)
    · by_cases h2 : p = 0
      · simp [b158_1, exs_cons, seqF_def, hz, h1, h2, i1, g]
      · simp [b158_1, exs_cons, seqF_def, hz, h1, h2, i1]
    · simp [b158_1, exs_cons, seqF_def, h1]
  have hit : evI cf gl (.fn .zip (.cons (.loc 1) (.cons (.tup (.cons (.loc 2) (.cons (.loc 3) .nil))) .nil))) [.f F.d, .f (.tup [.str kx, .str ky]), .f (I x), .f (I y), .u, .u] = some [.tup [.str kx, I x], .tup [.str ky, I y]] := rfl
  have s1 := step kx x (plain F x) s .u .u (.tup [.str kx, .str ky]) a1
  have s2 := step ky y (plain F y) t .u .u (.tup [.str kx, .str ky]) a2
  have e1 : exs cf gl wn b158 (startE 6 [F.d, .tup [.str kx, .str ky], I x, I y]) = some (.rt (if (kx = ("number" : String) ∧ plain F x = 0) ∨ (ky = ("number" : String) ∧ plain F y = 0) then qNone else endQ (xorS s t)).d) := by
    by_cases h1 : kx = ("number" : String) ∧ plain F x = 0
    · rw [if_pos (.inl h1)]
      rw [if_pos h1] at s1
      refine exs_rt ?_
      rw [frz_nil, ex1_for]
      erw [hit]
      rw [Option.bind_some]
      exact forF_rt (E1 := [.f F.d, .f (.tup [.str kx, .str ky]), .f (I x), .f (I y), .f (.str kx), .f (I x)]) rfl s1
    · rw [if_neg h1] at s1
      by_cases h2 : ky = ("number" : String) ∧ plain F y = 0
      · rw [if_pos (.inr h2)]
        rw [if_pos h2] at s2
        refine exs_rt ?_
        rw [frz_nil, ex1_for]
        erw [hit]
        rw [Option.bind_some, forF_cons (E1 := [.f F.d, .f (.tup [.str kx, .str ky]), .f (I x), .f (I y), .f (.str kx), .f (I x)]) rfl s1]
        exact forF_rt (E1 := [.f F.d, .f (.tup [.str kx, .str ky]), .f (I x), .f (I y), .f (.str ky), .f (I y)]) rfl s2
      · rw [if_neg (fun z => z.elim h1 h2)]
        rw [if_neg h2] at s2
        refine exs_nx (E' := [.f F.d, .f (.tup [.str kx, .str ky]), .f (I x), .f (I y), .f (.str ky), .f (I y)]) ?_ (exs_rt ?_)
        · rw [frz_nil, ex1_for]
          erw [hit]
          rw [Option.bind_some, forF_cons (E1 := [.f F.d, .f (.tup [.str kx, .str ky]), .f (I x), .f (I y), .f (.str kx), .f (I x)]) rfl s1, forF_cons (E1 := [.f F.d, .f (.tup [.str kx, .str ky]), .f (I x), .f (I y), .f (.str ky), .f (I y)]) rfl s2]
          rfl
        · simp [a1, a2, i0, x1, a3]
  rw [e1]
  rfl
theorem in_tup2 {a b c : Str} : cmpD .In (.str a) (.tup [.str b, .str c]) = some (decide (b = a) || decide (c = a)) := by
  show (if flatD (.str a) = true ∧ [D.str b, D.str c].all flatD = true then some ([D.str b, D.str c].any fun y => eqF y (.str a)) else none) = _
  rw [if_pos ⟨rfl, rfl⟩]
  show some ((b == a) || ((c == a) || false)) = _
  rw [Bool.or_false]
  congr 2
theorem inD_lst {a : D} {ds : List D} (h1 : flatD a = true) (h2 : ds.all flatD = true) : cmpD .In a (.lst ds) = some (ds.any fun y => eqF y a) := by
  show inD a (.lst ds) = _
  rw [inD, if_pos ⟨h1, h2⟩]
theorem in_lst2 {a b c : Str} : cmpD .In (.str a) (.lst [.str b, .str c]) = some (decide (b = a) || decide (c = a)) := by
  rw [inD_lst rfl rfl]
  show some ((b == a) || ((c == a) || false)) = _
  rw [Bool.or_false]
  congr 2
theorem product_total {x y : Int} (A : Ag tab [9, 12, 13, 14, 15, 16, 17, 62, 110, 114, 115, 157, 158]) (W : 64 ≤ wn) (o : F.Ok) (h : Pt F x) (h' : Pt F y) (g : gl 117 = some qNone.d) : callN tab gl wn (k + 5) 157 [F.d, I x, I y] = some (prodQ F x y).d := by
  have a1 := kind_of (gl := gl) (k := k + 1) (x := x) (A.sub (l' := [9, 13, 14, 16]) (by decide)) W o
  have a2 := kind_of (gl := gl) (k := k + 1) (x := y) (A.sub (l' := [9, 13, 14, 16]) (by decide)) W o
  have a3 := endless_product (gl := gl) (k := k) (x := x) (y := y) (A.sub (l' := [9, 14, 15, 62, 114, 158]) (by decide)) W o h h' g
  have a4 := steps_in (gl := gl) (k := k) (x := x) (A.sub (l' := [9, 12, 14, 15, 17, 62, 110, 115]) (by decide)) W o h
  have a5 := steps_in (gl := gl) (k := k) (x := y) (A.sub (l' := [9, 12, 14, 15, 17, 62, 110, 115]) (by decide)) W o h'
  have m1 : mulOk (steps F x) (steps F y) = true := mulOk_pow 70000 70000 (steps_lt o) (steps_lt o) (by omega)
  rw [callN_eq (A.get (i := 157) (by decide)) rfl]
  change callN tab gl wn (k + 4) _ _ = _ at a1
  change callN tab gl wn (k + 4) _ _ = _ at a2
  generalize callN tab gl wn (k + 4) = cf at *
  unfold prodQ
  generalize steps F x = sx at *
  generalize steps F y = sy at *
  generalize endP F x y = ep at *
  generalize kindS F x = kx at *
  generalize kindS F y = ky at *
  by_cases h1 : kx = ("none" : String) ∨ ky = ("none" : String)
  · rw [if_pos h1]
    have h1' : (decide (kx = ("none" : String)) || decide (ky = ("none" : String))) = true := by simpa using h1
    simp [b157, exs_cons, seqF_def, startE, a1, a2, in_tup2, h1', h1, g]
  · rw [if_neg h1]
    obtain ⟨n1, n2⟩ := not_or.mp h1
    by_cases h2 : kx = ("endless" : String) ∨ ky = ("endless" : String)
    · rw [if_pos h2]
      simp [b157, exs_cons, seqF_def, startE, a1, a2, in_tup2, n1, n2, h2, a3]
    · rw [if_neg h2]
      obtain ⟨n3, n4⟩ := not_or.mp h2
      simp [b157, exs_cons, seqF_def, startE, a1, a2, in_tup2, n1, n2, n3, n4, a4, a5, m1, Q4.d]
end
end Vp.U

end

section
set_option Elab.async false
set_option linter.all false
set_option autoImplicit false
set_option maxRecDepth 100000
set_option maxHeartbeats 0
namespace Vp.U
open Vp L2 PySem
section
variable {tab : Nat → Option Fn} {gl : Nat → Option D} {wn k : Nat} {F : Fm}
def prods (F : Fm) (xs ys : List Int) : List Q4 := (xs.zip ys).map fun p => prodQ F p.1 p.2
theorem zip_ints : ∀ (xs ys : List Int), ((xs.map D.int).zip (ys.map D.int)).map (fun p => D.tup [p.1, p.2]) = (xs.zip ys).map fun p => D.tup [I p.1, I p.2]
  | [], _ => rfl
  | _ :: _, [] => rfl
  | x :: xs, y :: ys => by
    simp only [List.map_cons, List.zip_cons_cons, List.cons.injEq, true_and]
    exact zip_ints xs ys
theorem dot {xs ys : List Int} (A : Ag tab [9, 12, 13, 14, 15, 16, 17, 62, 110, 114, 115, 118, 157, 158, 159]) (W : 64 ≤ wn) (o : F.Ok) (h : ∀ x ∈ xs, Pt F x) (h' : ∀ x ∈ ys, Pt F x) (g : gl 117 = some qNone.d) (g0 : gl 113 = some q0.d) :
    callN tab gl wn (k + 6) 159 [F.d, .lst (xs.map .int), .lst (ys.map .int)] = some (sumQ (prods F xs ys)).d := by
  have a1 := fun x y hx hy => product_total (gl := gl) (k := k) (x := x) (y := y) (A.sub (l' := [9, 12, 13, 14, 15, 16, 17, 62, 110, 114, 115, 157, 158]) (by decide)) W o (h x hx) (h' y hy) g
  have a2 := fun q r => together (gl := gl) (wn := wn) (k := k + 4) (q := q) (r := r) (A.sub (l' := [118]) (by decide))
  rw [callN_eq (A.get (i := 159) (by decide)) rfl]
  change ∀ q r, callN tab gl wn (k + 5) _ _ = _ at a2
  generalize callN tab gl wn (k + 5) = cf at *
  obtain ⟨E', e1, c4, c5, rfl⟩ := forF_inv (t := .tp [.nm 4, .nm 5]) (b := exs cf gl wn b159_1) ((xs.zip ys).map fun p => D.tup [I p.1, I p.2]) (fun i E => ∃ c4 c5, E = [.f F.d, .f (.lst (xs.map .int)), .f (.lst (ys.map .int)), .f (sumQ (((xs.zip ys).take i).map fun p => prodQ F p.1 p.2)).d, c4, c5]) [.f F.d, .f (.lst (xs.map .int)), .f (.lst (ys.map .int)), .f q0.d, .u, .u] ⟨_, _, rfl⟩ (by
    rintro i d E hd ⟨c4, c5, rfl⟩
    rw [List.getElem?_map] at hd
    obtain ⟨p, hp, rfl⟩ := Option.map_eq_some_iff.mp hd
    have hm := List.mem_of_getElem? hp
    have b1 := a1 p.1 p.2 (List.of_mem_zip hm).1 (List.of_mem_zip hm).2
    have b2 := a2 (sumQ (((xs.zip ys).take i).map fun p => prodQ F p.1 p.2)) (prodQ F p.1 p.2)
    rw [← sumQ_snoc] at b2
    have e2 : (((xs.zip ys).take i).map fun p => prodQ F p.1 p.2) ++ [prodQ F p.1 p.2] = (((xs.zip ys).take (i + 1)).map fun p => prodQ F p.1 p.2) := by
      rw [List.take_add_one, hp, List.map_append]
      rfl
    rw [e2] at b2
    refine ⟨_, [.f F.d, .f (.lst (xs.map .int)), .f (.lst (ys.map .int)), .f (sumQ (((xs.zip ys).take (i + 1)).map fun p => prodQ F p.1 p.2)).d, .f (I p.1), .f (I p.2)], rfl, .inl ?_, _, _, rfl⟩
    generalize (sumQ (((xs.zip ys).take i).map fun p => prodQ F p.1 p.2)) = qi at *
    generalize (sumQ (((xs.zip ys).take (i + 1)).map fun p => prodQ F p.1 p.2)) = qj at *
    generalize prodQ F p.1 p.2 = qp at *
    simp [b159_1, exs_cons, seqF_def, b1, b2])
  rw [List.length_map, List.take_length] at e1
  have e3 : exs cf gl wn b159 (startE 6 [F.d, .lst (xs.map .int), .lst (ys.map .int)]) = some (.rt (sumQ (prods F xs ys)).d) := by
    refine exs_nx (E' := [.f F.d, .f (.lst (xs.map .int)), .f (.lst (ys.map .int)), .f q0.d, .u, .u]) (by simp [startE, g0]) ?_
    refine exs_nx (E' := [.f F.d, .f (.lst (xs.map .int)), .f (.lst (ys.map .int)), .f (sumQ (prods F xs ys)).d, c4, c5]) ?_ (exs_rt ?_)
    · rw [frz_nil, ex1_for]
      have e9 : evI cf gl (.fn .zip (.cons (.loc 1) (.cons (.loc 2) .nil))) [.f F.d, .f (.lst (xs.map .int)), .f (.lst (ys.map .int)), .f q0.d, .u, .u] = some ((xs.zip ys).map fun p => D.tup [I p.1, I p.2]) := by
        rw [← zip_ints]
        rfl
      rw [e9, Option.bind_some]
      exact e1
    · simp
  rw [e3]
  rfl
theorem top_pt (o : F.Ok) : Pt F (top F 0) := by
  have p1 := two_pos F.w
  have p2 := two_pos F.p
  have t2 : two 2 ≤ two F.w := two_le o.w0
  have t3 : two 2 = 4 := rfl
  unfold top
  rw [Int.zero_mul, Int.zero_add]
  have h1 : 0 ≤ (if F.full = true then topE F else topE F - 1) ∧ (if F.full = true then topE F else topE F - 1) ≤ two F.w - 1 := by
    unfold topE
    split <;> omega
  generalize (if F.full = true then topE F else topE F - 1) = e at *
  have h2 : e * two F.p ≤ (two F.w - 1) * two F.p := Int.mul_le_mul_of_nonneg_right h1.2 (by omega)
  have h3 : 0 ≤ e * two F.p := Int.mul_nonneg h1.1 (by omega)
  have h4 : (two F.w - 1) * two F.p = two F.w * two F.p - two F.p := by rw [Int.sub_mul, Int.one_mul]
  have h5 : 0 < two F.w * two F.p := Int.mul_pos p1 p2
  exact ⟨by omega, by omega⟩
def mostQ (F : Fm) (pr : Bool) : Q4 := if pr = true then prodQ F (top F 0) (top F 0) else totalQ F (top F 0)
theorem bits_for {n : Int} {pr : Bool} (A : Ag tab [9, 12, 13, 14, 15, 16, 17, 19, 62, 110, 114, 115, 116, 157, 158, 160]) (W : 64 ≤ wn) (o : F.Ok) (g : gl 117 = some qNone.d) (n0 : 0 ≤ n) (n1 : n ≤ 1000000) :
    callN tab gl wn (k + 6) 160 [F.d, I n, .bl pr] = some (I ((Builtin.Int.intBits (n * (mostQ F pr).a) : Nat) + 1)) := by
  have a1 := greatest (gl := gl) (k := k + 2) (s := 0) (A.sub (l' := [9, 13, 15, 19]) (by decide)) W o (by omega) (by omega)
  have a2 := product_total (gl := gl) (k := k) (A.sub (l' := [9, 12, 13, 14, 15, 16, 17, 62, 110, 114, 115, 157, 158]) (by decide)) W o (top_pt o) (top_pt o) g
  have a3 := total_of (gl := gl) (k := k) (A.sub (l' := [9, 12, 13, 14, 15, 16, 17, 62, 110, 114, 115, 116]) (by decide)) W o (top_pt o) g
  rw [callN_eq (A.get (i := 160) (by decide)) rfl]
  change callN tab gl wn (k + 5) _ _ = _ at a1
  generalize callN tab gl wn (k + 5) = cf at *
  unfold mostQ
  generalize prodQ F (top F 0) (top F 0) = q1 at *
  generalize totalQ F (top F 0) = q2 at *
  have i0 : ∀ q : Q4, ixD q.d (.int 0) = some (I q.a) := fun _ => rfl
  have mo : ∀ x : Int, mulOk n x = true := fun x => mulOk_l (by omega) (by omega)
  cases pr with
  | true => simp [b160, exs_cons, seqF_def, startE, a1, a2, bitsD, i0, mo]
  | false => simp [b160, exs_cons, seqF_def, startE, a1, a3, bitsD, i0, mo]
end
end Vp.U

end

section
set_option Elab.async false
set_option linter.all false
set_option autoImplicit false
set_option maxRecDepth 100000
set_option maxHeartbeats 0
/-! the laws' fractions -/
namespace Vp.U
open Vp L2 PySem
def red (t b : Int) : Int × Int := (t / (Nat.gcd t.natAbs b.natAbs : Nat), b / (Nat.gcd t.natAbs b.natAbs : Nat))
theorem red_pos {t b : Int} (hb : 0 < b) : 0 < (red t b).2 := by
  unfold red
  have hg : 0 < Nat.gcd t.natAbs b.natAbs := Nat.gcd_pos_of_pos_right _ (by omega)
  have hd : ((Nat.gcd t.natAbs b.natAbs : Nat) : Int) ∣ b := Int.ofNat_dvd_left.mpr (Nat.gcd_dvd_right _ _)
  obtain ⟨q, hq⟩ := hd
  simp only
  generalize Nat.gcd t.natAbs b.natAbs = g at *
  rw [hq, Int.mul_ediv_cancel_left _ (by omega)]
  exact Int.pos_of_mul_pos_right (by omega) (show 0 < (g : Int) by omega)
theorem red_eq {t b : Int} (hb : 0 < b) : (red t b).1 * b = t * (red t b).2 := by
  unfold red
  have hg : 0 < Nat.gcd t.natAbs b.natAbs := Nat.gcd_pos_of_pos_right _ (by omega)
  have h1 : ((Nat.gcd t.natAbs b.natAbs : Nat) : Int) ∣ b := Int.ofNat_dvd_left.mpr (Nat.gcd_dvd_right _ _)
  have h2 : ((Nat.gcd t.natAbs b.natAbs : Nat) : Int) ∣ t := Int.ofNat_dvd_left.mpr (Nat.gcd_dvd_left _ _)
  obtain ⟨q, hq⟩ := h1
  obtain ⟨r, hr⟩ := h2
  simp only
  generalize Nat.gcd t.natAbs b.natAbs = g at *
  rw [hq, hr, Int.mul_ediv_cancel_left _ (by omega), Int.mul_ediv_cancel_left _ (by omega)]
  grind
theorem red_whole {n b : Int} (hb : 0 < b) : red (n * b) b = (n, 1) := by
  have e : Nat.gcd (n * b).natAbs b.natAbs = b.natAbs := by
    rw [Int.natAbs_mul]
    exact Nat.gcd_mul_left_left _ _
  unfold red
  rw [e]
  have e2 : ((b.natAbs : Nat) : Int) = b := by omega
  rw [e2, Int.mul_ediv_cancel _ (by omega), Int.ediv_self (by omega)]
theorem red_le {t b : Int} (hb : 0 < b) : (red t b).2 ≤ b ∧ (red t b).1.natAbs ≤ t.natAbs := by
  unfold red
  have hg : 0 < Nat.gcd t.natAbs b.natAbs := Nat.gcd_pos_of_pos_right _ (by omega)
  simp only
  constructor
  · exact Int.ediv_le_self _ (by omega)
  · have h2 : ((Nat.gcd t.natAbs b.natAbs : Nat) : Int) ∣ t := Int.ofNat_dvd_left.mpr (Nat.gcd_dvd_left _ _)
    obtain ⟨r, hr⟩ := h2
    generalize Nat.gcd t.natAbs b.natAbs = g at *
    rw [hr, Int.mul_ediv_cancel_left _ (by omega), Int.natAbs_mul]
    exact Nat.le_mul_of_pos_left _ (by omega)
section
variable {tab : Nat → Option Fn} {gl : Nat → Option D} {wn k : Nat} {F : Fm}
theorem common_loop {cf : Nat → List D → Option D} : ∀ (n : Nat) (ds : List D) (x y : Nat) (c : Cell), y < 2 ^ n → 2 * n + 1 ≤ ds.length → forF (.nm 2) (exs cf gl wn b126_1) ds [.f (I x), .f (I y), c] = some (.rt (I (Nat.gcd x y : Nat))) := by
  have rt : ∀ (x : Nat) (c : Cell), exs cf gl wn b126_1 [.f (I x), .f (I ((0 : Nat) : Int)), c] = some (.rt (I (x : Nat))) := fun x c => by simp [b126_1, exs_cons, seqF_def]
  have nx : ∀ (x y : Nat) (c : Cell), 0 < y → exs cf gl wn b126_1 [.f (I x), .f (I y), c] = some (.nx [.f (I y), .f (I ((x % y : Nat) : Int)), c]) := fun x y c hy => by
    have h1 : ¬ ((y : Nat) : Int) = 0 := by omega
    have h2 : 0 < ((y : Nat) : Int) := by omega
    have h3 : ¬ y = 0 := by omega
    simp [b126_1, exs_cons, seqF_def, h3, hy]
  intro n
  induction n with
  | zero =>
    intro ds x y c hy hd
    have y0 : y = 0 := by simpa using hy
    subst y0
    cases ds with
    | nil => simp at hd
    | cons d r =>
      rw [Nat.gcd_zero_right]
      exact forF_rt rfl (rt x _)
  | succ n ih =>
    intro ds x y c hy hd
    cases ds with
    | nil => simp at hd
    | cons d r =>
      by_cases y0 : y = 0
      · subst y0
        rw [Nat.gcd_zero_right]
        exact forF_rt rfl (rt x _)
      · rw [forF_cons rfl (nx x y _ (by omega))]
        have eg : Nat.gcd x y = Nat.gcd y (x % y) := by
          rw [Nat.gcd_comm x y, Nat.gcd_rec y x, Nat.gcd_comm]
        rw [eg]
        cases r with
        | nil => simp at hd
        | cons d2 r =>
          by_cases r0 : x % y = 0
          · rw [r0, Nat.gcd_zero_right]
            exact forF_rt rfl (rt y _)
          · rw [forF_cons rfl (nx y (x % y) _ (by omega))]
            have eg2 : Nat.gcd y (x % y) = Nat.gcd (x % y) (y % (x % y)) := by
              rw [Nat.gcd_comm y (x % y), Nat.gcd_rec (x % y) y, Nat.gcd_comm]
            rw [eg2]
            refine ih r _ _ _ ?_ (by simp at hd; omega)
            have l1 : x % y < y := Nat.mod_lt _ (by omega)
            have l2 : y % (x % y) < x % y := Nat.mod_lt _ (by omega)
            have l3 : y % (x % y) ≤ y - x % y := by
              have := Nat.div_add_mod y (x % y)
              have q1 : 1 ≤ y / (x % y) := (Nat.le_div_iff_mul_le (by omega)).mpr (by omega)
              have q2 : x % y * 1 ≤ x % y * (y / (x % y)) := Nat.mul_le_mul_left _ q1
              omega
            rw [Nat.pow_succ] at hy
            omega
theorem common {a b : Int} (A : Ag tab [126]) (hb : b.natAbs < 2 ^ 999) : callN tab gl wn (k + 1) 126 [I a, I b] = some (I (Nat.gcd a.natAbs b.natAbs : Nat)) := by
  rw [callN_eq (A.get (i := 126) (by decide)) rfl]
  generalize callN tab gl wn k = cf at *
  have ab : ∀ x : Int, (if x < 0 then -x else x) = ((x.natAbs : Nat) : Int) := fun x => by split <;> omega
  have e1 : exs cf gl wn b126 (startE 3 [I a, I b]) = some (.rt (I (Nat.gcd a.natAbs b.natAbs : Nat))) := by
    refine exs_nx (E' := [.f (I (a.natAbs : Nat)), .f (I b), .u]) (by simp [startE, ab]) ?_
    refine exs_nx (E' := [.f (I (a.natAbs : Nat)), .f (I (b.natAbs : Nat)), .u]) (by simp [ab]) ?_
    refine exs_rt ?_
    rw [frz_nil, ex1_for]
    have e2 : evI cf gl (.fn .rng1 (.cons (.int 2000) .nil)) [.f (I (a.natAbs : Nat)), .f (I (b.natAbs : Nat)), .u] = some ((List.range 2000).map fun i => .int (0 + (i : Nat))) := by
      have sm : small62 2000 = true := by decide
      rw [evI_fn, evs_cons, ev_int, evs_nil, Option.bind_some, Option.map_some, Option.bind_some, rng1_int, if_pos sm]
      rfl
    rw [e2, Option.bind_some]
    exact common_loop 999 _ _ _ _ hb (by rw [List.length_map, List.length_range]; omega)
  rw [e1]
  rfl
theorem frac {t b : Int} (A : Ag tab [126, 127]) (hb : 0 < b) (hl : b.natAbs < 2 ^ 999) : callN tab gl wn (k + 2) 127 [I t, I b] = some (.tup [I (red t b).1, I (red t b).2]) := by
  have a1 := common (gl := gl) (wn := wn) (k := k) (a := t) (A.sub (l' := [126]) (by decide)) hl
  rw [callN_eq (A.get (i := 127) (by decide)) rfl]
  generalize callN tab gl wn (k + 1) = cf at *
  have hg : 0 < Nat.gcd t.natAbs b.natAbs := Nat.gcd_pos_of_pos_right _ (by omega)
  have hg2 : Nat.gcd t.natAbs b.natAbs ≤ b.natAbs := Nat.gcd_le_right _ (by omega)
  unfold red
  generalize Nat.gcd t.natAbs b.natAbs = g at *
  have d1 : divOk (g : Int) = true := divOk_pow 998 (by omega) (by simpa using Nat.lt_of_le_of_lt hg2 hl) (by omega)
  have nb : ¬ b < 0 := by omega
  simp [b127, exs_cons, seqF_def, startE, a1, d1, nb]
def fr (q : Int × Int) : D := .tup [I q.1, I q.2]
@[simp] theorem fr0 {q : Int × Int} : ixD (fr q) (.int 0) = some (I q.1) := rfl
@[simp] theorem fr1 {q : Int × Int} : ixD (fr q) (.int 1) = some (I q.2) := rfl
/-- a fraction that is short enough -/
structure Sh (n : Nat) (q : Int × Int) : Prop where
  pos : 0 < q.2
  top : q.1.natAbs < 2 ^ n
  bot : q.2.natAbs < 2 ^ n
theorem mul_lt {a b : Int} {n m : Nat} (h1 : a.natAbs < 2 ^ n) (h2 : b.natAbs < 2 ^ m) : (a * b).natAbs < 2 ^ (n + m) := by
  rw [Int.natAbs_mul, Nat.pow_add]
  by_cases z : a.natAbs = 0
  · rw [z, Nat.zero_mul]
    exact Nat.mul_pos (Nat.pow_pos (by decide)) (Nat.pow_pos (by decide))
  · exact Nat.lt_of_lt_of_le (Nat.mul_lt_mul_of_pos_left h2 (by omega)) (Nat.mul_le_mul_right _ (by omega))
theorem mulOk_n {a b : Int} {n m : Nat} (h1 : a.natAbs < 2 ^ n) (h2 : b.natAbs < 2 ^ m) (h : n + m < 1000000) : mulOk a b = true :=
  mulOk_pow n m (Nat.lt_of_lt_of_le h1 (Nat.pow_le_pow_right (by omega) (by omega))) (Nat.lt_of_lt_of_le h2 (Nat.pow_le_pow_right (by omega) (by omega))) h
def timesF (q r : Int × Int) : Int × Int := red (q.1 * r.1) (q.2 * r.2)
def overF (q r : Int × Int) : Int × Int := red (q.1 * r.2) (q.2 * r.1)
theorem pow_mono {n m : Nat} (h : n ≤ m) : (2 : Nat) ^ n ≤ 2 ^ m := Nat.pow_le_pow_right (by omega) h
theorem times {q r : Int × Int} {n m : Nat} (A : Ag tab [126, 127, 129]) (hq : Sh n q) (hr : Sh m r) (h : n + m ≤ 999) : callN tab gl wn (k + 3) 129 [fr q, fr r] = some (fr (timesF q r)) ∧ Sh (n + m) (timesF q r) := by
  have hp : 0 < q.2 * r.2 := Int.mul_pos hq.pos hr.pos
  have t1 := mul_lt hq.top hr.top
  have t2 := mul_lt hq.bot hr.bot
  have a1 := frac (gl := gl) (wn := wn) (k := k) (t := q.1 * r.1) (b := q.2 * r.2) (A.sub (l' := [126, 127]) (by decide)) hp (Nat.lt_of_lt_of_le t2 (pow_mono h))
  have m1 := mulOk_n hq.top hr.top (by omega)
  have m2 := mulOk_n hq.bot hr.bot (by omega)
  have l := red_le (t := q.1 * r.1) hp
  have p := red_pos (t := q.1 * r.1) hp
  refine ⟨?_, ⟨p, ?_, ?_⟩⟩
  · rw [callN_eq (A.get (i := 129) (by decide)) rfl]
    generalize callN tab gl wn (k + 2) = cf at *
    have e : fr (timesF q r) = .tup [I (red (q.1 * r.1) (q.2 * r.2)).1, I (red (q.1 * r.1) (q.2 * r.2)).2] := rfl
    rw [e]
    simp [b129, exs_cons, seqF_def, startE, m1, m2, a1]
  · exact Nat.lt_of_le_of_lt l.2 t1
  · unfold timesF
    refine Nat.lt_of_le_of_lt ?_ t2
    have := l.1
    omega
theorem over {q r : Int × Int} {n m : Nat} (A : Ag tab [126, 127, 130]) (hq : Sh n q) (hr : Sh m r) (hr1 : 0 < r.1) (h : n + m ≤ 999) : callN tab gl wn (k + 3) 130 [fr q, fr r] = some (fr (overF q r)) ∧ Sh (n + m) (overF q r) := by
  have hp : 0 < q.2 * r.1 := Int.mul_pos hq.pos hr1
  have t1 := mul_lt hq.top hr.bot
  have t2 := mul_lt hq.bot hr.top
  have a1 := frac (gl := gl) (wn := wn) (k := k) (t := q.1 * r.2) (b := q.2 * r.1) (A.sub (l' := [126, 127]) (by decide)) hp (Nat.lt_of_lt_of_le t2 (pow_mono h))
  have m1 := mulOk_n hq.top hr.bot (by omega)
  have m2 := mulOk_n hq.bot hr.top (by omega)
  have l := red_le (t := q.1 * r.2) hp
  have p := red_pos (t := q.1 * r.2) hp
  refine ⟨?_, ⟨p, ?_, ?_⟩⟩
  · rw [callN_eq (A.get (i := 130) (by decide)) rfl]
    generalize callN tab gl wn (k + 2) = cf at *
    have e : fr (overF q r) = .tup [I (red (q.1 * r.2) (q.2 * r.1)).1, I (red (q.1 * r.2) (q.2 * r.1)).2] := rfl
    rw [e]
    simp [b130, exs_cons, seqF_def, startE, m1, m2, a1]
  · exact Nat.lt_of_le_of_lt l.2 t1
  · unfold overF
    refine Nat.lt_of_le_of_lt ?_ t2
    have := l.1
    omega
end
end Vp.U

end

section
set_option Elab.async false
set_option linter.all false
set_option autoImplicit false
set_option maxRecDepth 100000
set_option maxHeartbeats 0
/-! the laws' own formats -/
namespace Vp.U
open Vp L2 PySem
theorem rangeD {d : D} {n i : Nat} {f : Nat → D} (hd : ((List.range n).map f)[i]? = some d) : i < n ∧ d = f i := by
  have hi : i < n := by simpa using (List.getElem?_eq_some_iff.mp hd).1
  rw [List.getElem?_map, List.getElem?_range hi] at hd
  exact ⟨hi, (Option.some.inj hd).symm⟩
def pwB (b e : Int) : Int × Int := if e < 0 then (1, b ^ e.natAbs) else (b ^ e.natAbs, 1)
def pw (e : Int) : Int × Int := if e < 0 then (1, two (-e)) else (two e, 1)
theorem pwB_two (e : Int) : pwB 2 e = pw e := by
  unfold pwB pw two
  by_cases h : e < 0
  · rw [if_pos h, if_pos h]
    congr 3
    omega
  · rw [if_neg h, if_neg h]
    congr 3
    omega
section
variable {tab : Nat → Option Fn} {gl : Nat → Option D} {wn k : Nat} {F : Fm}
theorem powerB {b e : Int} (A : Ag tab [133]) (hb : -18446744073709551616 < b) (hb' : b < 18446744073709551616) (he : e.natAbs ≤ 1000000) : callN tab gl wn (k + 1) 133 [I b, I e] = some (fr (pwB b e)) := by
  rw [callN_eq (A.get (i := 133) (by decide)) rfl]
  generalize callN tab gl wn k = cf at *
  have ab : (if e < 0 then -e else e) = ((e.natAbs : Nat) : Int) := by split <;> omega
  have sm : small62 ((e.natAbs : Nat) : Int) = true := small62_of (by omega) (by omega)
  obtain ⟨E', e1, c, rfl⟩ := forF_inv (t := .nm 3) (b := exs cf gl wn b133_1) ((List.range e.natAbs).map fun i => .int (0 + (i : Nat)))
    (fun i E => ∃ c, E = [.f (I b), .f (I e), .f (I (b ^ i)), c]) [.f (I b), .f (I e), .f (I 1), .u] ⟨_, by rw [Int.pow_zero]⟩ (by
      rintro i d E hd ⟨c, rfl⟩
      have mo : mulOk (b ^ i) b = true := mulOk_r hb hb'
      refine ⟨_, [.f (I b), .f (I e), .f (I (b ^ (i + 1))), .f d], rfl, .inl ?_, _, rfl⟩
      rw [Int.pow_succ]
      simp [b133_1, exs_cons, seqF_def, mo])
  rw [List.length_map, List.length_range] at e1
  have e2 : exs cf gl wn b133 (startE 4 [I b, I e]) = some (.rt (fr (pwB b e))) := by
    refine exs_nx (E' := [.f (I b), .f (I e), .f (I 1), .u]) (by simp [startE]) ?_
    refine exs_nx (E' := [.f (I b), .f (I e), .f (I (b ^ e.natAbs)), c]) ?_ ?_
    · rw [frz_nil, ex1_for]
      have e3 : evI cf gl (.fn .rng1 (.cons (.bf .abs (.cons (.loc 1) .nil)) .nil)) [.f (I b), .f (I e), .f (I 1), .u] = some ((List.range e.natAbs).map fun i => .int (0 + (i : Nat))) := by
        rw [evI_fn, evs_cons, ev_bf, evs_cons, ev_loc, look_succ, look_zero, evs_nil, Option.bind_some, Option.map_some, Option.bind_some, abs_int, Option.bind_some, Option.map_some, Option.bind_some, ab, rng1_int, if_pos sm, Int.toNat_natCast]
      rw [e3, Option.bind_some]
      exact e1
    · unfold pwB
      by_cases h : e < 0
      · simp [exs_cons, seqF_def, h, fr]
      · simp [exs_cons, seqF_def, h, fr]
  rw [e2]
  rfl
theorem power {e : Int} (A : Ag tab [133]) (he : e.natAbs ≤ 1000000) : callN tab gl wn (k + 1) 133 [I 2, I e] = some (fr (pw e)) := by
  rw [← pwB_two]
  exact powerB A (by omega) (by omega) he
theorem pw_nat {e : Int} (h : 0 ≤ e) : pw e = (two e, 1) := by
  unfold pw
  rw [if_neg (by omega)]
theorem pw_sh {e : Int} {n : Nat} (h : e.natAbs < n) : Sh n (pw e) := by
  have e0 : ∀ j : Int, j.toNat < n → (two j).natAbs < 2 ^ n := fun j hj => by
    unfold two
    rw [Int.natAbs_pow]
    exact Nat.pow_lt_pow_right (by decide) hj
  have e1 : (1 : Int).natAbs < 2 ^ n := Nat.lt_of_lt_of_le (by decide : 1 < 2 ^ 1) (pow_mono (by omega))
  unfold pw
  split
  · exact ⟨two_pos _, e1, e0 _ (by omega)⟩
  · exact ⟨Int.one_pos, e0 _ (by omega), e1⟩
theorem lbias (A : Ag tab [133, 134]) (o : F.Ok) : callN tab gl wn (k + 2) 134 [F.d] = some (I (bias F)) := by
  have a1 := power (gl := gl) (wn := wn) (k := k) (e := F.w - 1) (A.sub (l' := [133]) (by decide)) (by have := o.w0; have := o.w1; omega)
  rw [pw_nat (by have := o.w0; omega)] at a1
  rw [callN_eq (A.get (i := 134) (by decide)) rfl]
  generalize callN tab gl wn (k + 1) = cf at *
  simp [b134, exs_cons, seqF_def, startE, a1, bias]
theorem lparts {x : Int} (A : Ag tab [133, 135]) (o : F.Ok) : callN tab gl wn (k + 2) 135 [F.d, I x] = some (.tup [I (sg F x), I (ee F x), I (ff F x)]) := by
  have a1 := power (gl := gl) (wn := wn) (k := k) (e := F.w) (A.sub (l' := [133]) (by decide)) (by have := o.w0; have := o.w1; omega)
  have a2 := power (gl := gl) (wn := wn) (k := k) (e := F.p) (A.sub (l' := [133]) (by decide)) (by have := o.p0; have := o.p1; omega)
  rw [pw_nat (by have := o.w0; omega)] at a1
  rw [pw_nat o.p0] at a2
  have d1 : divOk (two F.w) = true := two_divOk (by have := o.w1; omega)
  have d2 : divOk (two F.p) = true := two_divOk (by have := o.p1; omega)
  have p1 := two_pos F.w
  have p2 := two_pos F.p
  rw [callN_eq (A.get (i := 135) (by decide)) rfl]
  generalize callN tab gl wn (k + 1) = cf at *
  simp [b135, exs_cons, seqF_def, startE, a1, a2, d1, d2, p1, p2, sg, ee, ff]
def special (F : Fm) (x : Int) : Bool := !F.full && decide (ee F x = topE F)
theorem lspecial {x : Int} (A : Ag tab [133, 135, 136]) (o : F.Ok) : callN tab gl wn (k + 3) 136 [F.d, I x] = some (.bl (special F x)) := by
  have a1 := lparts (gl := gl) (wn := wn) (k := k) (x := x) (A.sub (l' := [133, 135]) (by decide)) o
  have a2 := power (gl := gl) (wn := wn) (k := k + 1) (e := F.w) (A.sub (l' := [133]) (by decide)) (by have := o.w0; have := o.w1; omega)
  rw [pw_nat (by have := o.w0; omega)] at a2
  rw [callN_eq (A.get (i := 136) (by decide)) rfl]
  change callN tab gl wn (k + 2) _ _ = _ at a2
  generalize callN tab gl wn (k + 2) = cf at *
  unfold special topE
  have kf := kd_ieee (F := F)
  generalize sg F x = s at *
  generalize ee F x = e at *
  generalize ff F x = f at *
  cases h : F.full with
  | true =>
    rw [h] at kf
    simp [b136, exs_cons, seqF_def, startE, asg3, a1, kf]
  | false =>
    rw [h] at kf
    simp [b136, exs_cons, seqF_def, startE, asg3, a1, a2, kf]
def half (F : Fm) : Int := two (F.w + F.p)
theorem lhalf (A : Ag tab [133, 138]) (o : F.Ok) : callN tab gl wn (k + 2) 138 [F.d] = some (I (half F)) := by
  have a1 := power (gl := gl) (wn := wn) (k := k) (e := F.w + F.p) (A.sub (l' := [133]) (by decide)) (by have := o.w0; have := o.w1; have := o.p0; have := o.p1; omega)
  rw [pw_nat (by have := o.w0; have := o.p0; omega)] at a1
  rw [callN_eq (A.get (i := 138) (by decide)) rfl]
  generalize callN tab gl wn (k + 1) = cf at *
  simp [b138, exs_cons, seqF_def, startE, a1, half]
def ltopV (F : Fm) : Int := if F.full = true then half F - 1 else half F - two F.p - 1
theorem ltop (A : Ag tab [133, 138, 139]) (o : F.Ok) : callN tab gl wn (k + 3) 139 [F.d] = some (I (ltopV F)) := by
  have a1 := lhalf (gl := gl) (wn := wn) (k := k) (A.sub (l' := [133, 138]) (by decide)) o
  have a2 := power (gl := gl) (wn := wn) (k := k + 1) (e := F.p) (A.sub (l' := [133]) (by decide)) (by have := o.p0; have := o.p1; omega)
  rw [pw_nat o.p0] at a2
  rw [callN_eq (A.get (i := 139) (by decide)) rfl]
  change callN tab gl wn (k + 2) _ _ = _ at a2
  generalize callN tab gl wn (k + 2) = cf at *
  unfold ltopV
  have kf := kd_full (F := F)
  cases h : F.full with
  | true =>
    rw [h] at kf
    simp [b139, exs_cons, seqF_def, startE, a1, kf]
  | false =>
    rw [h] at kf
    simp [b139, exs_cons, seqF_def, startE, a1, a2, kf]
/-- small formats -/
structure Fm.Sml (F : Fm) : Prop where
  ok : F.Ok
  w2 : F.w ≤ 6
  p2 : F.p ≤ 20
theorem Fm.Sml.bias {F : Fm} (o : F.Sml) : 1 ≤ bias F ∧ bias F ≤ 31 := by
  refine ⟨(bias_range o.ok).1, ?_⟩
  unfold Vp.U.bias
  have h2 : two (F.w - 1) ≤ two 5 := two_le (by have := o.w2; omega)
  have e2 : two 5 = 32 := rfl
  omega
theorem Fm.Sml.e1 {F : Fm} (o : F.Sml) {x : Int} : 1 ≤ e1 F x ∧ e1 F x ≤ 63 := by
  have := ee_range (x := x) o.ok
  have h : ee F x ≤ 63 := by
    unfold ee
    have p1 := two_pos F.w
    have h2 := Int.emod_lt_of_pos (x / two F.p) p1
    have h3 : two F.w ≤ two 6 := two_le o.w2
    have e2 : two 6 = 64 := rfl
    omega
  unfold Vp.U.e1
  split <;> omega
theorem Fm.Sml.cc {F : Fm} (o : F.Sml) {x : Int} : 0 ≤ cc F x ∧ cc F x < 2097152 := by
  refine ⟨(cc_range o.ok).1, ?_⟩
  unfold Vp.U.cc
  have h1 := ff_range (F := F) (x := x)
  have h2 : two F.p ≤ two 20 := two_le o.p2
  have e2 : two 20 = 1048576 := rfl
  split <;> omega
def sizeF (F : Fm) (x : Int) : Int × Int := timesF (cc F x, 1) (pw (e1 F x - bias F - F.p))
theorem lsize {x : Int} (A : Ag tab [126, 127, 129, 133, 134, 135, 137]) (o : F.Sml) : callN tab gl wn (k + 4) 137 [F.d, I x] = some (fr (sizeF F x)) ∧ Sh 150 (sizeF F x) := by
  have a1 := lparts (gl := gl) (wn := wn) (k := k + 1) (x := x) (A.sub (l' := [133, 135]) (by decide)) o.ok
  have a2 := power (gl := gl) (wn := wn) (k := k + 2) (e := F.p) (A.sub (l' := [133]) (by decide)) (by have := o.ok.p0; have := o.p2; omega)
  have a3 := lbias (gl := gl) (wn := wn) (k := k + 1) (A.sub (l' := [133, 134]) (by decide)) o.ok
  have b1 := o.bias
  have b2 := o.e1 (x := x)
  have b3 := o.cc (x := x)
  have b4 := o.ok.p0
  have b5 := o.p2
  have a4 := power (gl := gl) (wn := wn) (k := k + 2) (e := e1 F x - bias F - F.p) (A.sub (l' := [133]) (by decide)) (by omega)
  have s1 : Sh 25 (cc F x, 1) := by
    have e2 : (2 : Nat) ^ 25 = 33554432 := by decide
    exact ⟨Int.one_pos, by rw [e2]; show (cc F x).natAbs < _; omega, by rw [e2]; show (1 : Int).natAbs < _; decide⟩
  have s2 : Sh 125 (pw (e1 F x - bias F - F.p)) := pw_sh (by omega)
  obtain ⟨a5, a6⟩ := times (gl := gl) (wn := wn) (k := k) (A.sub (l' := [126, 127, 129]) (by decide)) s1 s2 (by omega)
  rw [pw_nat o.ok.p0] at a2
  refine ⟨?_, a6⟩
  rw [callN_eq (A.get (i := 137) (by decide)) rfl]
  change callN tab gl wn (k + 3) _ _ = _ at a1
  change callN tab gl wn (k + 3) _ _ = _ at a2
  change callN tab gl wn (k + 3) _ _ = _ at a3
  change callN tab gl wn (k + 3) _ _ = _ at a4
  generalize callN tab gl wn (k + 3) = cf at *
  have ee0 := ee_range (x := x) o.ok
  have e9 : sizeF F x = timesF (cc F x, 1) (pw (e1 F x - bias F - F.p)) := rfl
  rw [← e9] at a5
  have e8 : fr (cc F x, 1) = .tup [I (cc F x), I 1] := rfl
  rw [e8] at a5
  generalize sizeF F x = sz at *
  generalize pw (e1 F x - bias F - F.p) = pe at *
  unfold cc at a5
  unfold e1 at a4
  generalize sg F x = s at *
  generalize ee F x = e at *
  generalize ff F x = f at *
  by_cases h : 0 < e
  · have h0 : ¬ e = 0 := by omega
    have h1 : ¬ e < 1 := by omega
    rw [if_neg h0, Int.add_comm] at a5
    simp [h1] at a4
    simp [b137, exs_cons, seqF_def, startE, asg3, a1, a2, a3, a4, a5, h, h1]
  · have h0 : e = 0 := by omega
    subst h0
    simp at a4 a5
    simp [b137, exs_cons, seqF_def, startE, asg3, a1, a2, a3, a4, a5]
end
end Vp.U

end

section
set_option Elab.async false
set_option linter.all false
set_option autoImplicit false
set_option maxRecDepth 100000
set_option maxHeartbeats 0
/-! the laws' values, products -/
namespace Vp.U
open Vp L2 PySem
theorem half_eq {F : Fm} (o : F.Ok) : half F = two F.w * two F.p := two_add (by have := o.w0; omega) o.p0
theorem sg_eq {F : Fm} (o : F.Ok) (x : Int) : sg F x = x / half F := by
  unfold sg
  rw [half_eq o, Int.mul_comm, Int.ediv_ediv_of_nonneg (Int.le_of_lt (two_pos _))]
theorem plain_eq {F : Fm} (o : F.Ok) (x : Int) : plain F x = x % half F := by
  unfold plain
  rw [sg_eq o, ← half_eq o]
  have := Int.mul_ediv_add_emod x (half F)
  rw [Int.mul_comm] at this
  omega
theorem half_pos (F : Fm) : 0 < half F := two_pos _
theorem ge_half {F : Fm} (o : F.Ok) {x : Int} (h : Pt F x) : (half F ≤ x ↔ sg F x = 1) ∧ (x < half F ↔ sg F x = 0) := by
  have s := h.sg
  have h1 := h.x1
  rw [← half_eq o] at h1
  have e := sg_eq o x
  have p := half_pos F
  have h2 := Int.mul_ediv_add_emod x (half F)
  have h3 := Int.emod_nonneg x (show half F ≠ 0 by omega)
  have h4 := Int.emod_lt_of_pos x p
  rw [← e] at h2
  have h5 : sg F x = 0 ∨ sg F x = 1 := by omega
  rcases h5 with h5 | h5 <;> rw [h5] at h2 ⊢ <;> constructor <;> constructor <;> intro <;> omega
theorem plain_range {F : Fm} (o : F.Ok) (x : Int) : 0 ≤ plain F x ∧ plain F x < half F := by
  rw [plain_eq o]
  have p := half_pos F
  exact ⟨Int.emod_nonneg _ (by omega), Int.emod_lt_of_pos _ p⟩
theorem cc_zero {F : Fm} (o : F.Ok) {y : Int} (h0 : 0 ≤ y) (h1 : y < half F) : cc F y = 0 ↔ y = 0 := by
  have p2 := two_pos F.p
  have p1 := two_pos F.w
  have hq : y / two F.p < two F.w := Int.ediv_lt_of_lt_mul p2 (by rw [← half_eq o]; exact h1)
  have hq0 : 0 ≤ y / two F.p := Int.ediv_nonneg h0 (by omega)
  have e1 : ee F y = y / two F.p := Int.emod_eq_of_lt hq0 hq
  have h2 := Int.mul_ediv_add_emod y (two F.p)
  have h3 := ff_range (F := F) (x := y)
  have e2 : ff F y = y % two F.p := rfl
  unfold cc
  rw [e1]
  rw [e2] at h3 ⊢
  constructor
  · intro h
    split at h
    · rename_i z
      rw [z, Int.mul_zero] at h2
      omega
    · omega
  · rintro rfl
    simp
/-- a value as a fraction -/
def valueF (F : Fm) (x : Int) : Int × Int := if half F ≤ x then (0 - (sizeF F (x % half F)).1, (sizeF F (x % half F)).2) else sizeF F (x % half F)
theorem pw_low {F : Fm} (o : F.Ok) {x : Int} : (pw (e1 F x - bias F - F.p)).1 * two (-low F) = two (e1 F x - 1) * (pw (e1 F x - bias F - F.p)).2 := by
  have b1 := bias_range o
  have b2 := e1_range (x := x) o
  have b3 := o.p0
  have hl : low F = 1 - bias F - F.p := rfl
  unfold pw
  by_cases h : e1 F x - bias F - F.p < 0
  · rw [if_pos h, Int.one_mul]
    simp only
    rw [← two_add (by omega) (by omega)]
    congr 1
    omega
  · rw [if_neg h, Int.mul_one]
    simp only
    rw [← two_add (by omega) (by omega)]
    congr 1
    omega
theorem pw_pos (e : Int) : 0 < (pw e).1 ∧ 0 < (pw e).2 := by
  unfold pw
  split
  · exact ⟨Int.one_pos, two_pos _⟩
  · exact ⟨two_pos _, Int.one_pos⟩
theorem size_val {F : Fm} (o : F.Ok) {x : Int} : 0 < (sizeF F x).2 ∧ (sizeF F x).1 * two (-low F) = size F x * (sizeF F x).2 := by
  have hp := pw_pos (e1 F x - bias F - F.p)
  have h1 := pw_low o (x := x)
  have hr := red_eq (t := cc F x * (pw (e1 F x - bias F - F.p)).1) (b := 1 * (pw (e1 F x - bias F - F.p)).2) (by rw [Int.one_mul]; exact hp.2)
  have hq := red_pos (t := cc F x * (pw (e1 F x - bias F - F.p)).1) (b := 1 * (pw (e1 F x - bias F - F.p)).2) (by rw [Int.one_mul]; exact hp.2)
  have e0 : sizeF F x = red (cc F x * (pw (e1 F x - bias F - F.p)).1) (1 * (pw (e1 F x - bias F - F.p)).2) := rfl
  rw [← e0] at hr hq
  refine ⟨hq, ?_⟩
  have e1 : size F x = cc F x * two (e1 F x - 1) := rfl
  rw [e1]
  generalize two (-low F) = T at *
  generalize two (Vp.U.e1 F x - 1) = W at *
  generalize (pw (Vp.U.e1 F x - bias F - F.p)).1 = P at *
  generalize (pw (Vp.U.e1 F x - bias F - F.p)).2 = R at *
  generalize (sizeF F x).1 = a at *
  generalize (sizeF F x).2 = b at *
  generalize cc F x = c at *
  refine Int.eq_of_mul_eq_mul_right (a := R) (by omega) ?_
  have : a * T * R = a * (1 * R) * T := by grind
  rw [this, hr]
  have : c * P * b * T = c * b * (P * T) := by grind
  rw [this, h1]
  grind
theorem value_val {F : Fm} (o : F.Ok) {x : Int} (h : Pt F x) : 0 < (valueF F x).2 ∧ (valueF F x).1 * two (-low F) = steps F x * (valueF F x).2 := by
  obtain ⟨s1, s2⟩ := size_val o (x := x % half F)
  have g := ge_half o h
  unfold valueF steps
  rw [plain_eq o]
  by_cases hx : half F ≤ x
  · have : ¬ sg F x = 0 := by have := g.1.mp hx; omega
    rw [if_pos hx, if_neg this]
    refine ⟨s1, ?_⟩
    simp only
    rw [Int.zero_sub, Int.neg_mul, Int.neg_mul, s2]
  · have : sg F x = 0 := g.2.mp (by omega)
    rw [if_neg hx, if_pos this]
    exact ⟨s1, s2⟩
theorem value_zero {F : Fm} (o : F.Ok) {x : Int} (h : Pt F x) : (valueF F x).1 = 0 ↔ plain F x = 0 := by
  obtain ⟨v1, v2⟩ := value_val o h
  have pr := plain_range o x
  have cz := cc_zero o pr.1 pr.2
  rw [← cz]
  have t1 := two_pos (-low F)
  have t2 := two_pos (e1 F (plain F x) - 1)
  have e1 : steps F x = 0 ↔ cc F (plain F x) = 0 := by
    unfold steps size
    constructor
    · intro z
      have z2 : cc F (plain F x) * two (e1 F (plain F x) - 1) = 0 := by
        split at z <;> omega
      rcases Int.mul_eq_zero.mp z2 with z3 | z3
      · exact z3
      · omega
    · intro z
      rw [z, Int.zero_mul]
      split <;> rfl
  rw [← e1]
  constructor
  · intro z
    rw [z, Int.zero_mul] at v2
    rcases Int.mul_eq_zero.mp v2.symm with z3 | z3
    · exact z3
    · omega
  · intro z
    rw [z, Int.zero_mul] at v2
    rcases Int.mul_eq_zero.mp v2 with z3 | z3
    · exact z3
    · omega
theorem low_le {F : Fm} (o : F.Ok) : low F ≤ 0 := by
  have b1 := bias_range o
  have := o.p0
  unfold low
  omega
def unitF (F : Fm) : Int × Int := (1, two (-(2 * low F)))
theorem unit_pw {F : Fm} (o : F.Ok) : pw (2 * low F) = unitF F := by
  have := low_le o
  unfold pw unitF
  by_cases h : 2 * low F < 0
  · rw [if_pos h]
  · have : low F = 0 := by omega
    rw [if_neg h, this]
    rfl
theorem prod_val {F : Fm} (o : F.Ok) {x y : Int} (hx : Pt F x) (hy : Pt F y) : (overF (timesF (valueF F x) (valueF F y)) (unitF F)).1 = steps F x * steps F y := by
  obtain ⟨x1, x2⟩ := value_val o hx
  obtain ⟨y1, y2⟩ := value_val o hy
  have hp : 0 < (valueF F x).2 * (valueF F y).2 := Int.mul_pos x1 y1
  have r1 := red_eq (t := (valueF F x).1 * (valueF F y).1) hp
  have r2 := red_pos (t := (valueF F x).1 * (valueF F y).1) hp
  have e0 : timesF (valueF F x) (valueF F y) = red ((valueF F x).1 * (valueF F y).1) ((valueF F x).2 * (valueF F y).2) := rfl
  rw [← e0] at r1 r2
  have hl := low_le o
  have e1 : two (-(2 * low F)) = two (-low F) * two (-low F) := by
    rw [← two_add (by omega) (by omega)]
    congr 1
    omega
  unfold overF unitF
  simp only
  rw [e1, Int.mul_one]
  generalize timesF (valueF F x) (valueF F y) = t at *
  generalize (valueF F x).1 = a at *
  generalize (valueF F x).2 = b at *
  generalize (valueF F y).1 = c at *
  generalize (valueF F y).2 = d at *
  generalize two (-low F) = T at *
  generalize steps F x = sx at *
  generalize steps F y = sy at *
  have key : t.1 * (T * T) = sx * sy * t.2 := by
    refine Int.eq_of_mul_eq_mul_right (a := b * d) (by omega) ?_
    have h1 : t.1 * (T * T) * (b * d) = t.1 * (b * d) * (T * T) := by grind
    rw [h1, r1]
    have h2 : a * c * t.2 * (T * T) = (a * T) * (c * T) * t.2 := by grind
    rw [h2, x2, y2]
    grind
  rw [key, red_whole r2]
section
variable {tab : Nat → Option Fn} {gl : Nat → Option D} {wn k : Nat} {F : Fm}
theorem lvalue {x : Int} (A : Ag tab [126, 127, 129, 133, 134, 135, 137, 138, 147]) (o : F.Sml) : callN tab gl wn (k + 5) 147 [F.d, I x] = some (fr (valueF F x)) ∧ Sh 150 (valueF F x) := by
  have a1 := lhalf (gl := gl) (wn := wn) (k := k + 2) (A.sub (l' := [133, 138]) (by decide)) o.ok
  obtain ⟨a2, a3⟩ := lsize (gl := gl) (wn := wn) (k := k) (x := x % half F) (A.sub (l' := [126, 127, 129, 133, 134, 135, 137]) (by decide)) o
  have hp := half_pos F
  constructor
  · rw [callN_eq (A.get (i := 147) (by decide)) rfl]
    change callN tab gl wn (k + 4) _ _ = _ at a1
    generalize callN tab gl wn (k + 4) = cf at *
    unfold valueF
    generalize sizeF F (x % half F) = s at *
    by_cases h : half F ≤ x
    · rw [if_pos h]
      have e : fr (0 - s.1, s.2) = .tup [I (0 - s.1), I s.2] := rfl
      rw [e]
      simp [b147, exs_cons, seqF_def, startE, a1, a2, hp, h]
    · simp [b147, exs_cons, seqF_def, startE, a1, a2, hp, h]
  · unfold valueF
    split
    · exact ⟨a3.pos, by simp only; rw [Int.zero_sub, Int.natAbs_neg]; exact a3.top, a3.bot⟩
    · exact a3
theorem lkind {x : Int} (A : Ag tab [133, 135, 136, 148]) (o : F.Ok) : callN tab gl wn (k + 4) 148 [F.d, I x] = some (.str (kindS F x)) := by
  have a1 := lparts (gl := gl) (wn := wn) (k := k + 1) (x := x) (A.sub (l' := [133, 135]) (by decide)) o
  have a2 := lspecial (gl := gl) (wn := wn) (k := k) (x := x) (A.sub (l' := [133, 135, 136]) (by decide)) o
  rw [callN_eq (A.get (i := 148) (by decide)) rfl]
  change callN tab gl wn (k + 3) _ _ = _ at a1
  generalize callN tab gl wn (k + 3) = cf at *
  unfold kindS
  unfold special at a2
  generalize sg F x = s at *
  generalize ee F x = e at *
  generalize ff F x = f at *
  have i0 : ∀ a b : D, atI [a, b] 0 = some a := fun _ _ => rfl
  have i1 : ∀ a b : D, atI [a, b] 1 = some b := fun _ _ => rfl
  cases h : F.full with
  | true =>
    rw [h] at a2
    simp at a2
    simp [b148, exs_cons, seqF_def, startE, asg3, a1, a2]
  | false =>
    rw [h] at a2
    simp at a2
    by_cases h2 : e = topE F
    · by_cases h3 : f = 0
      · simp [b148, exs_cons, seqF_def, startE, asg3, a1, a2, h2, h3, i1]
      · simp [b148, exs_cons, seqF_def, startE, asg3, a1, a2, h2, h3, i0]
    · simp [b148, exs_cons, seqF_def, startE, asg3, a1, a2, h2]
theorem lunit (A : Ag tab [133, 134, 149]) (o : F.Ok) : callN tab gl wn (k + 3) 149 [F.d] = some (fr (unitF F)) := by
  have a1 := lbias (gl := gl) (wn := wn) (k := k) (A.sub (l' := [133, 134]) (by decide)) o
  have b1 := bias_range o
  have p0 := o.p0
  have p1 := o.p1
  have a2 := power (gl := gl) (wn := wn) (k := k + 1) (e := 2 * (1 - bias F - F.p)) (A.sub (l' := [133]) (by decide)) (by omega)
  have e0 : 2 * (1 - bias F - F.p) = 2 * low F := rfl
  rw [show pw (2 * (1 - bias F - F.p)) = unitF F from unit_pw o] at a2
  rw [callN_eq (A.get (i := 149) (by decide)) rfl]
  change callN tab gl wn (k + 2) _ _ = _ at a2
  generalize callN tab gl wn (k + 2) = cf at *
  have mo : mulOk 2 (1 - bias F - F.p) = true := mulOk_l (by omega) (by omega)
  simp [b149, exs_cons, seqF_def, startE, a1, a2, mo]
theorem ltogether {q r : Q4} (A : Ag tab [151]) : callN tab gl wn (k + 1) 151 [q.d, r.d] = some (q.add r).d := by
  rw [callN_eq (A.get (i := 151) (by decide)) rfl]
  generalize callN tab gl wn k = cf at *
  have e : exs cf gl wn b151 (startE 2 [q.d, r.d]) = some (.rt (q.add r).d) := rfl
  rw [e]
  rfl
end
end Vp.U

end

section
set_option Elab.async false
set_option linter.all false
set_option autoImplicit false
set_option maxRecDepth 100000
set_option maxHeartbeats 0
/-! the laws' products, drawn forms and patterns -/
namespace Vp.U
open Vp L2 PySem
section
variable {tab : Nat → Option Fn} {gl : Nat → Option D} {wn k : Nat} {F : Fm}
theorem lproduct {x y : Int} (A : Ag tab [126, 127, 129, 130, 133, 134, 135, 136, 137, 138, 147, 148, 149, 161]) (o : F.Sml) (hx : Pt F x) (hy : Pt F y) : callN tab gl wn (k + 6) 161 [F.d, I x, I y] = some (prodQ F x y).d := by
  have a1 := lkind (gl := gl) (wn := wn) (k := k + 1) (x := x) (A.sub (l' := [133, 135, 136, 148]) (by decide)) o.ok
  have a2 := lkind (gl := gl) (wn := wn) (k := k + 1) (x := y) (A.sub (l' := [133, 135, 136, 148]) (by decide)) o.ok
  obtain ⟨a3, b3⟩ := lvalue (gl := gl) (wn := wn) (k := k) (x := x) (A.sub (l' := [126, 127, 129, 133, 134, 135, 137, 138, 147]) (by decide)) o
  obtain ⟨a4, b4⟩ := lvalue (gl := gl) (wn := wn) (k := k) (x := y) (A.sub (l' := [126, 127, 129, 133, 134, 135, 137, 138, 147]) (by decide)) o
  have a5 := lhalf (gl := gl) (wn := wn) (k := k + 3) (A.sub (l' := [133, 138]) (by decide)) o.ok
  have a6 := lunit (gl := gl) (wn := wn) (k := k + 2) (A.sub (l' := [133, 134, 149]) (by decide)) o.ok
  obtain ⟨a7, b7⟩ := times (gl := gl) (wn := wn) (k := k + 2) (A.sub (l' := [126, 127, 129]) (by decide)) b3 b4 (by omega)
  have hu : Sh 125 (unitF F) := by
    rw [← unit_pw o.ok]
    have b1 := o.bias
    have p0 := o.ok.p0
    have p2 := o.p2
    exact pw_sh (by unfold low; omega)
  obtain ⟨a8, b8⟩ := over (gl := gl) (wn := wn) (k := k + 2) (A.sub (l' := [126, 127, 130]) (by decide)) b7 hu Int.one_pos (by omega)
  have pv := prod_val o.ok hx hy
  have z1 := value_zero o.ok hx
  have z2 := value_zero o.ok hy
  have g1 := ge_half o.ok hx
  have g2 := ge_half o.ok hy
  have s1 := hx.sg
  have s2 := hy.sg
  rw [callN_eq (A.get (i := 161) (by decide)) rfl]
  change callN tab gl wn (k + 5) _ _ = _ at a1
  change callN tab gl wn (k + 5) _ _ = _ at a2
  change callN tab gl wn (k + 5) _ _ = _ at a5
  change callN tab gl wn (k + 5) _ _ = _ at a6
  change callN tab gl wn (k + 5) _ _ = _ at a7
  change callN tab gl wn (k + 5) _ _ = _ at a8
  generalize callN tab gl wn (k + 5) = cf at *
  have i0 : ∀ a b : D, atI [a, b] 0 = some a := fun _ _ => rfl
  have i1 : ∀ a b : D, atI [a, b] 1 = some b := fun _ _ => rfl
  have sm2 : small62 2 = true := by decide
  unfold prodQ endP
  generalize hkx : kindS F x = kx at *
  generalize hky : kindS F y = ky at *
  by_cases h1 : kx = ("none" : String) ∨ ky = ("none" : String)
  · rw [if_pos h1]
    have h1' : (decide (kx = ("none" : String)) || decide (ky = ("none" : String))) = true := by simpa using h1
    simp [b161, exs_cons, seqF_def, startE, a1, a2, in_lst2, h1', h1, qNone, Q4.d]
  · rw [if_neg h1]
    obtain ⟨n1, n2⟩ := not_or.mp h1
    by_cases h2 : kx = ("endless" : String) ∨ ky = ("endless" : String)
    · rw [if_pos h2]
      have step : ∀ (j : Int) (kd : Str) (z : Int) (v : Int × Int) (c4 c5 : Cell), atI [D.str kx, D.str ky] j = some (.str kd) → atI [I x, I y] j = some (I z) → cf 147 [F.d, I z] = some (fr v) →
          exs cf gl wn b161_1 [.f F.d, .f (I x), .f (I y), .f (.lst [.str kx, .str ky]), .f (I j), c5] = some (if kd = ("number" : String) ∧ v.1 = 0 then .rt qNone.d else .nx [.f F.d, .f (I x), .f (I y), .f (.lst [.str kx, .str ky]), .f (I j), c5]) := by
        intro j kd z v c4 c5 j1 j2 j3
        by_cases q1 : kd = ("number" : String)
        · by_cases q2 : v.1 = 0
          · simp [b161_1, exs_cons, seqF_def, j1, j2, j3, q1, q2, qNone, Q4.d]
          · simp [b161_1, exs_cons, seqF_def, j1, j2, j3, q1, q2]
        · simp [b161_1, exs_cons, seqF_def, j1, q1]
      have t1 := step 0 kx x (valueF F x) .u .u rfl rfl a3
      have t2 := step 1 ky y (valueF F y) .u .u rfl rfl a4
      have hit : evI cf gl (.fn .rng1 (.cons (.int 2) .nil)) [.f F.d, .f (I x), .f (I y), .f (.lst [.str kx, .str ky]), .u, .u] = some [I 0, I 1] := rfl
      have pre : ∀ r out, exs cf gl wn r [.f F.d, .f (I x), .f (I y), .f (.lst [.str kx, .str ky]), .u, .u] = out → exs cf gl wn (.cons [] (.asg (.nm 3) (.lis (.lst (.cons (.call 148 (.cons (.loc 0) (.cons (.loc 1) .nil))) (.cons (.call 148 (.cons (.loc 0) (.cons (.loc 2) .nil))) .nil))))) (.cons [] (.ife (.cmp .In (.str ("none" : String)) (.loc 3)) (.cons [] (.ret (.tup (.cons (.int 0) (.cons (.int 0) (.cons (.int 0) (.cons (.int 1) .nil)))))) .nil) .nil) r)) (startE 6 [F.d, I x, I y]) = out := by
        intro r out hr
        refine exs_nx (E' := [.f F.d, .f (I x), .f (I y), .f (.lst [.str kx, .str ky]), .u, .u]) (by simp [startE, a1, a2]) ?_
        refine exs_nx (E' := [.f F.d, .f (I x), .f (I y), .f (.lst [.str kx, .str ky]), .u, .u]) (by simp [in_lst2, n1, n2]) hr
      have cnd : tev cf gl (.cmp .In (.str ("endless" : String)) (.loc 3)) [.f F.d, .f (I x), .f (I y), .f (.lst [.str kx, .str ky]), .u, .u] = some true := by
        have h2' : (decide (kx = ("endless" : String)) || decide (ky = ("endless" : String))) = true := by simpa using h2
        simp [in_lst2, h2', h2]
      have e1 : exs cf gl wn b161 (startE 6 [F.d, I x, I y]) = some (.rt (if (kx = ("number" : String) ∧ plain F x = 0) ∨ (ky = ("number" : String) ∧ plain F y = 0) then qNone else endQ (xorS (sg F x) (sg F y))).d) := by
        refine pre _ _ (exs_rt ?_)
        rw [frz_nil, ex1_ife, cnd, Option.bind_some, if_pos rfl]
        by_cases q1 : kx = ("number" : String) ∧ plain F x = 0
        · rw [if_pos (.inl q1)]
          rw [if_pos ⟨q1.1, z1.mpr q1.2⟩] at t1
          refine exs_rt ?_
          rw [frz_nil, ex1_for, hit, Option.bind_some]
          exact forF_rt (E1 := [.f F.d, .f (I x), .f (I y), .f (.lst [.str kx, .str ky]), .f (I 0), .u]) rfl t1
        · rw [if_neg (fun z => q1 ⟨z.1, z1.mp z.2⟩)] at t1
          by_cases q2 : ky = ("number" : String) ∧ plain F y = 0
          · rw [if_pos (.inr q2)]
            rw [if_pos ⟨q2.1, z2.mpr q2.2⟩] at t2
            refine exs_rt ?_
            rw [frz_nil, ex1_for, hit, Option.bind_some, forF_cons (E1 := [.f F.d, .f (I x), .f (I y), .f (.lst [.str kx, .str ky]), .f (I 0), .u]) rfl t1]
            exact forF_rt (E1 := [.f F.d, .f (I x), .f (I y), .f (.lst [.str kx, .str ky]), .f (I 1), .u]) rfl t2
          · rw [if_neg (fun z => z.elim q1 q2)]
            rw [if_neg (fun z => q2 ⟨z.1, z2.mp z.2⟩)] at t2
            refine exs_nx (E' := [.f F.d, .f (I x), .f (I y), .f (.lst [.str kx, .str ky]), .f (I 1), .u]) ?_ ?_
            · rw [frz_nil, ex1_for, hit, Option.bind_some, forF_cons (E1 := [.f F.d, .f (I x), .f (I y), .f (.lst [.str kx, .str ky]), .f (I 0), .u]) rfl t1, forF_cons (E1 := [.f F.d, .f (I x), .f (I y), .f (.lst [.str kx, .str ky]), .f (I 1), .u]) rfl t2]
              rfl
            · have c1 : sg F x = 0 ∨ sg F x = 1 := by omega
              have c2 : sg F y = 0 ∨ sg F y = 1 := by omega
              generalize sg F x = s at *
              generalize sg F y = t at *
              have k1 : (half F ≤ x) ↔ s = 1 := g1.1
              have k2 : (half F ≤ y) ↔ t = 1 := g2.1
              rcases c1 with rfl | rfl <;> rcases c2 with rfl | rfl <;> simp [exs_cons, seqF_def, a5, k1, k2, xorS, endQ, Q4.d]
      rw [e1]
      rfl
    · rw [if_neg h2]
      obtain ⟨n3, n4⟩ := not_or.mp h2
      rw [← pv]
      simp [b161, exs_cons, seqF_def, startE, a1, a2, in_lst2, n1, n2, n3, n4, a3, a4, a6, a7, a8, Q4.d]
def holds (n b : Int) : Bool := decide (0 - two (b - 1) ≤ n) && decide (n < two (b - 1))
theorem lholds {n b : Int} (A : Ag tab [133, 162]) (h0 : 1 ≤ b) (h1 : b ≤ 900000) : callN tab gl wn (k + 2) 162 [I n, I b] = some (.bl (holds n b)) := by
  have a1 := power (gl := gl) (wn := wn) (k := k) (e := b - 1) (A.sub (l' := [133]) (by decide)) (by omega)
  rw [pw_nat (by omega)] at a1
  rw [callN_eq (A.get (i := 162) (by decide)) rfl]
  generalize callN tab gl wn (k + 1) = cf at *
  unfold holds
  generalize two (b - 1) = T at *
  by_cases h : 0 - T ≤ n
  · have h' : -T ≤ n := by omega
    simp [b162, exs_cons, seqF_def, startE, a1, h, h']
  · have h' : ¬ -T ≤ n := by omega
    simp [b162, exs_cons, seqF_def, startE, a1, h, h']
end
end Vp.U

end

section
set_option Elab.async false
set_option linter.all false
set_option autoImplicit false
set_option maxRecDepth 100000
set_option maxHeartbeats 0
/-! sums in any order, the pattern of one, the greatest pattern -/
namespace Vp.U
open Vp L2 PySem
theorem add_acc (q r s : Q4) : (q.add r).add s = (q.add s).add r := by
  cases q; cases r; cases s
  simp only [Q4.add, Q4.mk.injEq]
  omega
theorem foldl_add (qs : List Q4) (q r : Q4) : qs.foldl Q4.add (q.add r) = (qs.foldl Q4.add q).add r := by
  induction qs generalizing q with
  | nil => rfl
  | cons s t ih =>
    simp only [List.foldl_cons]
    rw [add_acc, ih]
theorem sumQ_cons (q : Q4) (qs : List Q4) : sumQ (q :: qs) = (sumQ qs).add q := by
  unfold sumQ
  rw [List.foldl_cons, foldl_add]
theorem sumQ_reverse (qs : List Q4) : sumQ qs.reverse = sumQ qs := by
  induction qs with
  | nil => rfl
  | cons q r ih => rw [List.reverse_cons, sumQ_snoc, ih, sumQ_cons]
theorem ite_or {α : Type} (a : Prop) {b : Prop} [Decidable a] [Decidable b] {u v : α} : (if a ∨ b then u else v) = if b ∨ a then u else v := by
  by_cases h1 : a <;> by_cases h2 : b <;> simp [h1, h2]
theorem prodQ_comm (F : Fm) (x y : Int) : prodQ F x y = prodQ F y x := by
  have e1 : xorS (sg F x) (sg F y) = xorS (sg F y) (sg F x) := by
    unfold xorS
    by_cases h : sg F x = sg F y
    · rw [if_pos h, if_pos h.symm]
    · rw [if_neg h, if_neg (Ne.symm h)]
  unfold prodQ endP
  rw [e1, Int.mul_comm, ite_or (kindS F x = ("none" : String)), ite_or (kindS F x = ("endless" : String)), ite_or (kindS F x = ("number" : String) ∧ plain F x = 0)]
theorem prods_reverse (F : Fm) (xs ys : List Int) (h : xs.length = ys.length) : prods F xs.reverse ys.reverse = (prods F xs ys).reverse := by
  unfold prods
  rw [← List.map_reverse]
  congr 1
  clear F
  induction xs generalizing ys with
  | nil =>
    cases ys with
    | nil => rfl
    | cons y s => cases h
  | cons x r ih =>
    cases ys with
    | nil => cases h
    | cons y s =>
      have h' : r.length = s.length := by simpa using h
      rw [List.reverse_cons, List.reverse_cons, List.zip_append (by simp [h']), ih s h']
      show (r.zip s).reverse ++ [(x, y)] = ((x, y) :: r.zip s).reverse
      rw [List.reverse_cons]
/-- the pattern of one -/
def oneP (F : Fm) : Int := bias F * two F.p
theorem oneP_facts {F : Fm} (o : F.Ok) : Pt F (oneP F) ∧ kindS F (oneP F) = ("number" : String) ∧ sg F (oneP F) = 0 ∧ steps F (oneP F) = two (-low F) ∧ ¬ plain F (oneP F) = 0 := by
  have p1 := two_pos F.w
  have p2 := two_pos F.p
  have b1 := bias_range o
  have b2 : bias F < topE F := by
    unfold bias topE
    have : two F.w = two (F.w - 1) * two 1 := by
      rw [← two_add (by have := o.w0; omega) (by omega)]
      congr 1
      omega
    have e : two 1 = 2 := rfl
    rw [e] at this
    have := two_pos (F.w - 1)
    omega
  have b3 : topE F < two F.w := by unfold topE; omega
  have q1 : oneP F / two F.p = bias F := Int.mul_ediv_cancel _ (by omega)
  have q2 : ff F (oneP F) = 0 := Int.mul_emod_left _ _
  have q3 : ee F (oneP F) = bias F := by
    unfold ee
    rw [q1]
    exact Int.emod_eq_of_lt (by omega) (by omega)
  have q4 : sg F (oneP F) = 0 := by
    unfold sg
    rw [q1]
    exact Int.ediv_eq_zero_of_lt (by omega) (by omega)
  have q5 : plain F (oneP F) = oneP F := by
    unfold plain
    rw [q4]
    omega
  have q6 : oneP F < two F.w * two F.p := Int.mul_lt_mul_of_pos_right (by omega) p2
  have q7 : 0 < oneP F := Int.mul_pos (by omega) p2
  refine ⟨⟨by omega, by have := Int.mul_pos p1 p2; omega⟩, ?_, q4, ?_, by rw [q5]; omega⟩
  · unfold kindS
    rw [q3, if_pos (.inr (by omega))]
  · unfold steps size
    rw [if_pos q4, q5]
    unfold cc e1
    rw [q2, q3, if_neg (by omega), if_neg (by omega), Int.add_zero, ← two_add o.p0 (by omega)]
    congr 1
    unfold low
    omega
theorem prod_one {F : Fm} (o : F.Ok) {x : Int} (h : Pt F x) : prodQ F x (oneP F) = totalQ F x := by
  obtain ⟨a1, a2, a3, a4, a5⟩ := oneP_facts o
  unfold prodQ totalQ endP
  rw [a2, a3, a4]
  have xs : xorS (sg F x) 0 = sg F x := by
    have := h.sg
    unfold xorS
    split <;> omega
  rw [xs]
  rcases kind3 F x with hk | hk | hk <;> rw [hk]
  · rw [if_neg (by simp [str_ne1]), if_neg (by simp [str_ne3]), if_neg str_ne1, if_neg str_ne3]
  · rw [if_neg (by simp [str_ne2, str_ne1]), if_pos (.inl rfl), if_neg (by simp [str_ne5, a5]), if_neg str_ne2, if_pos rfl]
  · rw [if_pos (.inl rfl), if_pos rfl]
/-- the greatest pattern -/
def eTop (F : Fm) : Int := if F.full = true then topE F else topE F - 1
theorem top_facts {F : Fm} (o : F.Ok) : top F 0 = ltopV F ∧ kindS F (top F 0) = ("number" : String) ∧ sg F (top F 0) = 0 ∧ plain F (top F 0) = top F 0 ∧ steps F (top F 0) = (2 * two F.p - 1) * two (eTop F - 1) := by
  have p1 := two_pos F.w
  have p2 := two_pos F.p
  have t2 : two 2 ≤ two F.w := two_le o.w0
  have t3 : two 2 = 4 := rfl
  have h1 : 2 ≤ eTop F ∧ eTop F ≤ two F.w - 1 := by
    unfold eTop topE
    split <;> omega
  have e0 : top F 0 = eTop F * two F.p + (two F.p - 1) := by
    unfold top eTop
    rw [Int.zero_mul, Int.zero_add]
  have q1 : top F 0 / two F.p = eTop F := by
    rw [e0, Int.add_comm, Int.add_mul_ediv_right _ _ (by omega), Int.ediv_eq_zero_of_lt (by omega) (by omega), Int.zero_add]
  have q2 : ff F (top F 0) = two F.p - 1 := by
    unfold ff
    rw [e0, Int.add_comm, Int.add_mul_emod_self_right]
    exact Int.emod_eq_of_lt (by omega) (by omega)
  have q3 : ee F (top F 0) = eTop F := by
    unfold ee
    rw [q1]
    exact Int.emod_eq_of_lt (by omega) (by omega)
  have q4 : sg F (top F 0) = 0 := by
    unfold sg
    rw [q1]
    exact Int.ediv_eq_zero_of_lt (by omega) (by omega)
  have q5 : plain F (top F 0) = top F 0 := by
    unfold plain
    rw [q4]
    omega
  refine ⟨?_, ?_, q4, q5, ?_⟩
  · rw [e0]
    unfold ltopV eTop topE
    rw [half_eq o]
    split
    · rw [Int.sub_mul]; omega
    · rw [Int.sub_mul, Int.sub_mul]; omega
  · unfold kindS
    rw [q3]
    by_cases hf : F.full = true
    · rw [if_pos (.inl hf)]
    · refine if_pos (.inr ?_)
      unfold eTop
      rw [if_neg hf]
      omega
  · unfold steps size
    rw [if_pos q4, q5]
    unfold cc e1
    rw [q2, q3, if_neg (by omega), if_neg (by omega)]
    congr 1
    omega
theorem size_le {F : Fm} (o : F.Ok) {x : Int} (h : kindS F x = ("number" : String)) : 0 ≤ size F (plain F x) ∧ size F (plain F x) ≤ steps F (top F 0) := by
  rw [(top_facts o).2.2.2.2]
  have p2 := two_pos F.p
  have hc := cc_range (x := plain F x) o
  have he : ee F (plain F x) = ee F x := by
    have p1 := two_pos F.w
    unfold ee plain
    have e : x - sg F x * (two F.w * two F.p) = x + (-(sg F x * two F.w)) * two F.p := by grind
    rw [e, Int.add_mul_ediv_right _ _ (by omega)]
    have e2 : x / two F.p + -(sg F x * two F.w) = x / two F.p + (-sg F x) * two F.w := by grind
    rw [e2, Int.add_mul_emod_self_right]
  have h1 : ee F x ≤ eTop F := by
    have p1 := two_pos F.w
    have r : ee F x < two F.w := Int.emod_lt_of_pos _ p1
    unfold kindS at h
    unfold eTop topE
    by_cases hf : F.full = true
    · rw [if_pos hf]; omega
    · rw [if_neg hf]
      by_cases hh : F.full = true ∨ ee F x ≠ topE F
      · have := hh.resolve_left hf
        unfold topE at this
        omega
      · rw [if_neg hh] at h
        split at h
        · exact absurd h str_ne5
        · exact absurd h str_ne6
  have h2 : 2 ≤ eTop F := by
    have t2 : two 2 ≤ two F.w := two_le o.w0
    have t3 : two 2 = 4 := rfl
    unfold eTop topE
    split <;> omega
  have hf := ff_range (F := F) (x := plain F x)
  have c1 : cc F (plain F x) ≤ 2 * two F.p - 1 := by
    unfold cc
    split <;> omega
  have e1b : e1 F (plain F x) ≤ eTop F := by
    unfold e1
    rw [he]
    split <;> omega
  unfold size
  have t1 := two_pos (e1 F (plain F x) - 1)
  have t2 : two (e1 F (plain F x) - 1) ≤ two (eTop F - 1) := two_le (by omega)
  refine ⟨Int.mul_nonneg hc.1 (by omega), ?_⟩
  exact Int.le_trans (Int.mul_le_mul_of_nonneg_right c1 (by omega)) (Int.mul_le_mul_of_nonneg_left t2 (by omega))
theorem steps_le {F : Fm} (o : F.Ok) {x : Int} (h : kindS F x = ("number" : String)) : (steps F x).natAbs ≤ (steps F (top F 0)).natAbs := by
  have := size_le o h
  unfold steps at *
  split <;> omega
theorem total_le {F : Fm} (o : F.Ok) (x : Int) : (totalQ F x).a.natAbs ≤ (mostQ F false).a.natAbs := by
  have e1 : (mostQ F false).a = steps F (top F 0) * two (-low F) := by
    unfold mostQ totalQ
    rw [(top_facts o).2.1, if_neg (by decide), if_neg str_ne1, if_neg str_ne3]
  rw [e1]
  unfold totalQ
  rcases kind3 F x with hk | hk | hk <;> rw [hk]
  · rw [if_neg str_ne1, if_neg str_ne3]
    simp only
    rw [Int.natAbs_mul, Int.natAbs_mul]
    exact Nat.mul_le_mul_right _ (steps_le o hk)
  · rw [if_neg str_ne2, if_pos rfl]
    unfold endQ
    split <;> exact Nat.zero_le _
  · rw [if_pos rfl]
    exact Nat.zero_le _
theorem prod_le {F : Fm} (o : F.Ok) (x y : Int) : (prodQ F x y).a.natAbs ≤ (mostQ F true).a.natAbs := by
  have e1 : (mostQ F true).a = steps F (top F 0) * steps F (top F 0) := by
    unfold mostQ prodQ
    rw [(top_facts o).2.1, if_pos rfl, if_neg (by simp [str_ne1]), if_neg (by simp [str_ne3])]
  rw [e1]
  unfold prodQ
  by_cases h1 : kindS F x = ("none" : String) ∨ kindS F y = ("none" : String)
  · rw [if_pos h1]
    exact Nat.zero_le _
  · rw [if_neg h1]
    by_cases h2 : kindS F x = ("endless" : String) ∨ kindS F y = ("endless" : String)
    · rw [if_pos h2]
      unfold endP
      split
      · exact Nat.zero_le _
      · unfold endQ
        split <;> exact Nat.zero_le _
    · rw [if_neg h2]
      obtain ⟨n1, n2⟩ := not_or.mp h1
      obtain ⟨n3, n4⟩ := not_or.mp h2
      have k1 : kindS F x = ("number" : String) := by rcases kind3 F x with h | h | h <;> first | exact h | contradiction
      have k2 : kindS F y = ("number" : String) := by rcases kind3 F y with h | h | h <;> first | exact h | contradiction
      simp only
      rw [Int.natAbs_mul, Int.natAbs_mul]
      exact Nat.mul_le_mul (steps_le o k1) (steps_le o k2)
theorem sum_le {qs : List Q4} {M n : Nat} (h : ∀ q ∈ qs, q.a.natAbs ≤ M) (hn : qs.length ≤ n) : (sumQ qs).a.natAbs ≤ n * M := by
  have key : (sumQ qs).a.natAbs ≤ qs.length * M := by
    clear hn
    induction qs with
    | nil => simp [sumQ, q0]
    | cons q r ih =>
      have i1 := ih fun x hx => h x (List.mem_cons_of_mem _ hx)
      have i2 := h q List.mem_cons_self
      rw [sumQ_cons, List.length_cons, Nat.add_mul, Nat.one_mul]
      have : ((sumQ r).add q).a = (sumQ r).a + q.a := rfl
      rw [this]
      omega
  exact Nat.le_trans key (Nat.mul_le_mul_right _ hn)
end Vp.U

end

section
set_option Elab.async false
set_option linter.all false
set_option autoImplicit false
set_option maxRecDepth 100000
set_option maxHeartbeats 0
/-! drawn forms and patterns -/
namespace Vp.U
open Vp L2 PySem
theorem sIx_some {n d : Nat} {c : Int} (h : 0 ≤ c) : HT.sIx n d (some c) = min c.toNat n := by
  show (if c < 0 then (c + (n : Int)).toNat else min c.toNat n) = _
  rw [if_neg (by omega)]
theorem cut_take {α : Type} (xs : List α) {c : Int} (h : 0 ≤ c) : cutD xs (some 0) (some c) = xs.take c.toNat := by
  unfold cutD
  rw [sIx_some (Int.le_refl 0), sIx_some h]
  simp
theorem cut_drop {α : Type} (xs : List α) {c : Int} (h : 0 ≤ c) : cutD xs (some c) none = xs.drop c.toNat := by
  unfold cutD
  rw [sIx_some h, HT.sIx_none]
  by_cases hc : c.toNat ≤ xs.length
  · rw [Nat.min_eq_left hc]
    exact List.take_of_length_le (by rw [List.length_drop]; omega)
  · rw [Nat.min_eq_right (by omega), List.drop_eq_nil_of_le (Nat.le_refl _), List.drop_eq_nil_of_le (by omega)]
    exact List.take_nil
theorem over_val {F : Fm} (o : F.Ok) {x : Int} (hx : Pt F x) : (overF (valueF F x) (unitF F)).1 = steps F x * two (-low F) := by
  obtain ⟨x1, x2⟩ := value_val o hx
  have hl := low_le o
  have e1 : two (-(2 * low F)) = two (-low F) * two (-low F) := by
    rw [← two_add (by omega) (by omega)]
    congr 1
    omega
  unfold overF unitF
  simp only
  rw [e1, Int.mul_one]
  have key : (valueF F x).1 * (two (-low F) * two (-low F)) = steps F x * two (-low F) * (valueF F x).2 := by
    rw [← Int.mul_assoc, x2]
    grind
  rw [key, red_whole x1]
section
variable {tab : Nat → Option Fn} {gl : Nat → Option D} {wn k : Nat} {F : Fm}
@[simp] theorem sl_lst {cf : Nat → List D → Option D} {a : Ex} {lo hi : Opt} {E : Env'} {ds : List D} {l u : Option Int} (h1 : ev cf gl a E = some (.lst ds)) (h2 : partD (evP cf gl lo) E = some l) (h3 : partD (evP cf gl hi) E = some u) : ap3 slD (ev cf gl a) (partD (evP cf gl lo)) (partD (evP cf gl hi)) E = some (.lst (cutD ds l u)) := by
  unfold ap3
  rw [h1, h2, h3]
  rfl
theorem map_take {ns : List Int} {n : Nat} : (ns.map D.int).take n = (ns.take n).map D.int := by rw [List.map_take]
/-- drawn patterns -/
theorem some_patterns {ns : List Int} {count : Int} {pl : Bool} (A : Ag tab [133, 135, 136, 138, 139, 155]) (o : F.Ok) (h0 : 0 ≤ count) (hn : ∀ n ∈ ns, 0 ≤ n) (hc : ns.length < 1000000) :
    ∃ xs : List Int, callN tab gl wn (k + 5) 155 [F.d, .lst (ns.map .int), I count, .bl pl] = some (.lst (xs.map .int)) ∧ xs.length = min count.toNat ns.length ∧ ∀ x ∈ xs, Pt F x := by
  have a1 := lhalf (gl := gl) (wn := wn) (k := k + 2) (A.sub (l' := [133, 138]) (by decide)) o
  have a2 := fun x => lspecial (gl := gl) (wn := wn) (k := k + 1) (x := x) (A.sub (l' := [133, 135, 136]) (by decide)) o
  have a3 := ltop (gl := gl) (wn := wn) (k := k + 1) (A.sub (l' := [133, 138, 139]) (by decide)) o
  rw [callN_eq (A.get (i := 155) (by decide)) rfl]
  change callN tab gl wn (k + 4) _ _ = _ at a1
  change ∀ x, callN tab gl wn (k + 4) _ _ = _ at a2
  change callN tab gl wn (k + 4) _ _ = _ at a3
  generalize callN tab gl wn (k + 4) = cf at *
  have hp := half_pos F
  have he := half_eq o
  have tp := two_pos F.p
  have tw := two_pos F.w
  have t0 : 0 < ltopV F + 1 ∧ ltopV F + 1 ≤ half F := by
    unfold ltopV
    have e : two F.w * two F.p ≥ 4 * two F.p := Int.mul_le_mul_of_nonneg_right (by have t2 : two 2 ≤ two F.w := two_le o.w0; have t3 : two 2 = 4 := rfl; omega) (by omega)
    split <;> omega
  have mo : ∀ x : Int, mulOk 2 x = true := fun x => mulOk_l (by omega) (by omega)
  obtain ⟨E', e1, xs, c5, c6, rfl, e2, e3⟩ := forF_inv (t := .nm 5) (b := exs cf gl wn b155_1) ((ns.take count.toNat).map .int)
    (fun i E => ∃ (xs : List Int) (c5 c6 : Cell), E = [.f F.d, .f (.lst (ns.map .int)), .f (I count), .f (.bl pl), .o (xs.map .int), c5, c6] ∧ xs.length = i ∧ ∀ x ∈ xs, Pt F x)
    [.f F.d, .f (.lst (ns.map .int)), .f (I count), .f (.bl pl), .o [], .u, .u] ⟨[], _, _, rfl, rfl, fun x h => by cases h⟩ (by
      rintro i d E hd ⟨xs, c5, c6, rfl, h1, h2⟩
      rw [List.getElem?_map] at hd
      obtain ⟨n, hn1, rfl⟩ := Option.map_eq_some_iff.mp hd
      have hi := (List.getElem?_eq_some_iff.mp hn1).1
      rw [List.length_take] at hi
      have hln : (xs.map D.int).length < lineN := by
        rw [List.length_map, lineN_eq]
        omega
      have q0 : 0 ≤ n % (2 * half F) := Int.emod_nonneg _ (by omega)
      have q1 : n % (2 * half F) < 2 * half F := Int.emod_lt_of_pos _ (by omega)
      have r0 : 0 ≤ n % (2 * half F) % (ltopV F + 1) := Int.emod_nonneg _ (by omega)
      have r1 : n % (2 * half F) % (ltopV F + 1) < ltopV F + 1 := Int.emod_lt_of_pos _ t0.1
      have p2h : 0 < 2 * half F := by omega
      have fin : ∀ y : Int, exs cf gl wn (.cons [] (.app 4 (.loc 6)) .nil) [.f F.d, .f (.lst (ns.map .int)), .f (I count), .f (.bl pl), .o (xs.map .int), .f (I n), .f (I y)] = some (.nx [.f F.d, .f (.lst (ns.map .int)), .f (I count), .f (.bl pl), .o ((xs ++ [y]).map .int), .f (I n), .f (I y)]) := fun y => by
        refine exs_nx (E' := _) ?_ rfl
        rw [frz_nil, ex1_app, appF_ok (ds := xs.map .int) (d := I y) rfl rfl hln, List.map_append]
        rfl
      have step : ∃ y : Int, Pt F y ∧ exs cf gl wn b155_1 [.f F.d, .f (.lst (ns.map .int)), .f (I count), .f (.bl pl), .o (xs.map .int), .f (I n), c6] = some (.nx [.f F.d, .f (.lst (ns.map .int)), .f (I count), .f (.bl pl), .o ((xs ++ [y]).map .int), .f (I n), .f (I y)]) := by
        by_cases hs : pl = true ∧ special F (n % (2 * half F)) = true
        · refine ⟨n % (2 * half F) % (ltopV F + 1), ⟨r0, by omega⟩, ?_⟩
          refine exs_nx (E' := [.f F.d, .f (.lst (ns.map .int)), .f (I count), .f (.bl pl), .o (xs.map .int), .f (I n), .f (I (n % (2 * half F)))]) (by simp [a1, mo, p2h]) ?_
          refine exs_nx (E' := [.f F.d, .f (.lst (ns.map .int)), .f (I count), .f (.bl pl), .o (xs.map .int), .f (I n), .f (I (n % (2 * half F) % (ltopV F + 1)))]) ?_ (fin _)
          have b2 := a2 (n % (2 * half F))
          rw [hs.2] at b2
          simp [hs.1, b2, exs_cons, seqF_def, a3, t0.1]
        · refine ⟨n % (2 * half F), ⟨q0, by omega⟩, ?_⟩
          refine exs_nx (E' := [.f F.d, .f (.lst (ns.map .int)), .f (I count), .f (.bl pl), .o (xs.map .int), .f (I n), .f (I (n % (2 * half F)))]) (by simp [a1, mo, p2h]) ?_
          refine exs_nx (E' := [.f F.d, .f (.lst (ns.map .int)), .f (I count), .f (.bl pl), .o (xs.map .int), .f (I n), .f (I (n % (2 * half F)))]) ?_ (fin _)
          have b2 := a2 (n % (2 * half F))
          cases pl with
          | false => simp
          | true =>
            have : special F (n % (2 * half F)) = false := by
              cases z : special F (n % (2 * half F)) with
              | false => rfl
              | true => exact absurd ⟨rfl, z⟩ hs
            rw [this] at b2
            simp [b2]
      obtain ⟨y, hy, hE⟩ := step
      refine ⟨_, _, rfl, .inl hE, xs ++ [y], _, _, rfl, by simp [h1], fun x hx => ?_⟩
      rcases List.mem_append.mp hx with hx | hx
      · exact h2 x hx
      · rw [List.mem_singleton.mp hx]
        exact hy)
  refine ⟨xs, ?_, ?_, e3⟩
  · have hh : exs cf gl wn b155 (startE 7 [F.d, .lst (ns.map .int), I count, .bl pl]) = some (.rt (.lst (xs.map .int))) := by
      refine exs_nx (E' := [.f F.d, .f (.lst (ns.map .int)), .f (I count), .f (.bl pl), .o [], .u, .u]) (by simp [startE]) ?_
      refine exs_nx (E' := [.f F.d, .f (.lst (ns.map .int)), .f (I count), .f (.bl pl), .o (xs.map .int), c5, c6]) ?_ (exs_rt ?_)
      · rw [frz_nil, ex1_for, evI_ex, ev_sl, sl_lst (ds := ns.map .int) (l := some 0) (u := some count) rfl rfl rfl, Option.bind_some, items_lst, Option.bind_some, cut_take _ h0, map_take]
        exact e1
      · show ex1 cf gl wn (.ret (.loc 4)) [.f F.d, .f (.lst (ns.map .int)), .f (I count), .f (.bl pl), .f (.lst (xs.map .int)), c5, c6] = _
        simp
    rw [hh]
    rfl
  · rw [e2, List.length_map, List.length_take]
theorem lform {ns : List Int} {a : Int} {x y z : Int} (A : Ag tab [132]) (h0 : atI (ns.map D.int) a = some (I x)) (h1 : atI (ns.map D.int) (a + 1) = some (I y)) (h2 : atI (ns.map D.int) (a + 2) = some (I z)) :
    ∃ F : Fm, F.Sml ∧ F.w ≤ 4 ∧ F.p ≤ 4 ∧ 1 ≤ F.p ∧ callN tab gl wn (k + 1) 132 [.lst (ns.map .int), I a] = some F.d := by
  rw [callN_eq (A.get (i := 132) (by decide)) rfl]
  generalize callN tab gl wn k = cf at *
  have hx : x % 2 = 0 ∨ x % 2 = 1 := by omega
  have i0 : ∀ a b : D, atI [a, b] 0 = some a := fun _ _ => rfl
  have i1 : ∀ a b : D, atI [a, b] 1 = some b := fun _ _ => rfl
  have sml : ∀ b : Bool, (⟨b, 2 + y % 3, 1 + z % 4⟩ : Fm).Sml := fun b => ⟨⟨by show 2 ≤ 2 + y % 3; omega, by show 2 + y % 3 ≤ 16; omega, by show 0 ≤ 1 + z % 4; omega, by show 1 + z % 4 ≤ 50; omega⟩, by show 2 + y % 3 ≤ 6; omega, by show 1 + z % 4 ≤ 20; omega⟩
  rcases hx with hx | hx
  · refine ⟨⟨false, 2 + y % 3, 1 + z % 4⟩, sml _, by show 2 + y % 3 ≤ 4; omega, by show 1 + z % 4 ≤ 4; omega, by show 1 ≤ 1 + z % 4; omega, ?_⟩
    have e : (⟨false, 2 + y % 3, 1 + z % 4⟩ : Fm).d = .tup [.str ("ieee" : String), I (2 + y % 3), I (1 + z % 4)] := rfl
    rw [e]
    simp [b132, exs_cons, seqF_def, startE, h0, h1, h2, hx, i0]
  · refine ⟨⟨true, 2 + y % 3, 1 + z % 4⟩, sml _, by show 2 + y % 3 ≤ 4; omega, by show 1 + z % 4 ≤ 4; omega, by show 1 ≤ 1 + z % 4; omega, ?_⟩
    have e : (⟨true, 2 + y % 3, 1 + z % 4⟩ : Fm).d = .tup [.str ("full" : String), I (2 + y % 3), I (1 + z % 4)] := rfl
    rw [e]
    simp [b132, exs_cons, seqF_def, startE, h0, h1, h2, hx, i1]
end
end Vp.U

end

section
set_option Elab.async false
set_option linter.all false
set_option autoImplicit false
set_option maxRecDepth 100000
set_option maxHeartbeats 0
/-! the program's fractions -/
namespace Vp.U
open Vp L2 PySem
theorem red_gcd (t b : Int) (hb : 0 < b) : Nat.gcd (red t b).1.natAbs (red t b).2.natAbs = 1 := by
  unfold red
  have hg : 0 < Nat.gcd t.natAbs b.natAbs := Nat.gcd_pos_of_pos_right _ (by omega)
  have h1 : ((Nat.gcd t.natAbs b.natAbs : Nat) : Int) ∣ b := Int.ofNat_dvd_left.mpr (Nat.gcd_dvd_right _ _)
  have h2 : ((Nat.gcd t.natAbs b.natAbs : Nat) : Int) ∣ t := Int.ofNat_dvd_left.mpr (Nat.gcd_dvd_left _ _)
  obtain ⟨q, hq⟩ := h1
  obtain ⟨r, hr⟩ := h2
  simp only
  have gen : ∀ g : Int, t = g * r → b = g * q → Nat.gcd t.natAbs b.natAbs = g.natAbs * Nat.gcd r.natAbs q.natAbs := fun g h1 h2 => by
    rw [h1, h2, Int.natAbs_mul, Int.natAbs_mul, Nat.gcd_mul_left]
  have e := gen _ hr hq
  rw [Int.natAbs_natCast] at e
  clear gen
  generalize Nat.gcd t.natAbs b.natAbs = g at *
  rw [hq, hr, Int.mul_ediv_cancel_left _ (by omega), Int.mul_ediv_cancel_left _ (by omega)]
  exact Nat.eq_of_mul_eq_mul_left hg (by omega)
/-- equal values, equal fractions -/
theorem red_congr {a b c d : Int} (hb : 0 < b) (hd : 0 < d) (h : a * d = c * b) : red a b = red c d := by
  have e1 := red_eq (t := a) hb
  have e2 := red_eq (t := c) hd
  have p1 := red_pos (t := a) hb
  have p2 := red_pos (t := c) hd
  have g1 := red_gcd a b hb
  have g2 := red_gcd c d hd
  generalize red a b = x at *
  generalize red c d = y at *
  have key : x.1 * y.2 = y.1 * x.2 := by
    refine Int.eq_of_mul_eq_mul_right (a := b * d) (by have := Int.mul_pos hb hd; omega) ?_
    have h1 : x.1 * y.2 * (b * d) = (x.1 * b) * (y.2 * d) := by grind
    have h2 : y.1 * x.2 * (b * d) = (y.1 * d) * (x.2 * b) := by grind
    rw [h1, h2, e1, e2]
    grind
  have kn : x.1.natAbs * y.2.natAbs = y.1.natAbs * x.2.natAbs := by rw [← Int.natAbs_mul, ← Int.natAbs_mul, key]
  have d1 : x.2.natAbs ∣ y.2.natAbs := (Nat.Coprime.symm g1).dvd_of_dvd_mul_left ⟨y.1.natAbs, by rw [kn, Nat.mul_comm]⟩
  have d2 : y.2.natAbs ∣ x.2.natAbs := (Nat.Coprime.symm g2).dvd_of_dvd_mul_left ⟨x.1.natAbs, by rw [← kn, Nat.mul_comm]⟩
  have e : x.2 = y.2 := by
    have := Nat.dvd_antisymm d1 d2
    omega
  rw [e] at key
  have : x.1 = y.1 := Int.eq_of_mul_eq_mul_right (by omega) key
  exact Prod.ext this e
end Vp.U

end

section
set_option Elab.async false
set_option linter.all false
set_option autoImplicit false
set_option maxRecDepth 100000
set_option maxHeartbeats 0
/-! the program's fractions: what the defs compute -/
namespace Vp.U
open Vp L2 PySem
section
variable {tab : Nat → Option Fn} {gl : Nat → Option D} {wn k : Nat} {F : Fm}
theorem fraction {t b : Int} (A : Ag tab [2]) (hb : 0 < b) (hl : b.natAbs < 2 ^ 8000) : callN tab gl wn (k + 1) 2 [I t, I b] = some (fr (red t b)) := by
  rw [callN_eq (A.get (i := 2) (by decide)) rfl]
  generalize callN tab gl wn k = cf at *
  have hg : 0 < Nat.gcd t.natAbs b.natAbs := Nat.gcd_pos_of_pos_right _ (by omega)
  have hg2 : Nat.gcd t.natAbs b.natAbs ≤ b.natAbs := Nat.gcd_le_right _ (by omega)
  have e : fr (red t b) = .tup [I (t / (Nat.gcd t.natAbs b.natAbs : Nat)), I (b / (Nat.gcd t.natAbs b.natAbs : Nat))] := rfl
  rw [e]
  have gd : gcdD [.int t, .int b] = some (.int ((Nat.gcd t.natAbs b.natAbs : Nat) : Int)) := rfl
  generalize Nat.gcd t.natAbs b.natAbs = g at *
  have d1 : divOk (g : Int) = true := divOk_pow 7999 (by omega) (by simpa using Nat.lt_of_le_of_lt hg2 hl) (by omega)
  have nb : ¬ b < 0 := by omega
  simp [b2, exs_cons, seqF_def, startE, gd, d1, nb]
theorem whole {n : Int} (A : Ag tab [3]) : callN tab gl wn (k + 1) 3 [I n] = some (fr (n, 1)) := by
  rw [callN_eq (A.get (i := 3) (by decide)) rfl]
  generalize callN tab gl wn k = cf at *
  rfl
def minusF (q r : Int × Int) : Int × Int := red (q.1 * r.2 - r.1 * q.2) (q.2 * r.2)
def lessF (q r : Int × Int) : Bool := decide (q.1 * r.2 < r.1 * q.2)
theorem ptimes {q r : Int × Int} {n m : Nat} (A : Ag tab [2, 6]) (hq : Sh n q) (hr : Sh m r) (h : n + m ≤ 8000) : callN tab gl wn (k + 2) 6 [fr q, fr r] = some (fr (timesF q r)) := by
  have hp : 0 < q.2 * r.2 := Int.mul_pos hq.pos hr.pos
  have a1 := fraction (gl := gl) (wn := wn) (k := k) (t := q.1 * r.1) (A.sub (l' := [2]) (by decide)) hp (Nat.lt_of_lt_of_le (mul_lt hq.bot hr.bot) (pow_mono h))
  have m1 := mulOk_n hq.top hr.top (by omega)
  have m2 := mulOk_n hq.bot hr.bot (by omega)
  rw [callN_eq (A.get (i := 6) (by decide)) rfl]
  generalize callN tab gl wn (k + 1) = cf at *
  have e : fr (timesF q r) = fr (red (q.1 * r.1) (q.2 * r.2)) := rfl
  rw [e]
  simp [b6, exs_cons, seqF_def, startE, m1, m2, a1]
theorem pover {q r : Int × Int} {n m : Nat} (A : Ag tab [2, 7]) (hq : Sh n q) (hr : Sh m r) (hr1 : 0 < r.1) (h : n + m ≤ 8000) : callN tab gl wn (k + 2) 7 [fr q, fr r] = some (fr (overF q r)) := by
  have hp : 0 < q.2 * r.1 := Int.mul_pos hq.pos hr1
  have a1 := fraction (gl := gl) (wn := wn) (k := k) (t := q.1 * r.2) (A.sub (l' := [2]) (by decide)) hp (Nat.lt_of_lt_of_le (mul_lt hq.bot hr.top) (pow_mono h))
  have m1 := mulOk_n hq.top hr.bot (by omega)
  have m2 := mulOk_n hq.bot hr.top (by omega)
  rw [callN_eq (A.get (i := 7) (by decide)) rfl]
  generalize callN tab gl wn (k + 1) = cf at *
  have e : fr (overF q r) = fr (red (q.1 * r.2) (q.2 * r.1)) := rfl
  rw [e]
  simp [b7, exs_cons, seqF_def, startE, m1, m2, a1]
theorem pminus {q r : Int × Int} {n m : Nat} (A : Ag tab [2, 5]) (hq : Sh n q) (hr : Sh m r) (h : n + m ≤ 8000) : callN tab gl wn (k + 2) 5 [fr q, fr r] = some (fr (minusF q r)) := by
  have hp : 0 < q.2 * r.2 := Int.mul_pos hq.pos hr.pos
  have a1 := fraction (gl := gl) (wn := wn) (k := k) (t := q.1 * r.2 - r.1 * q.2) (A.sub (l' := [2]) (by decide)) hp (Nat.lt_of_lt_of_le (mul_lt hq.bot hr.bot) (pow_mono h))
  have m1 := mulOk_n hq.top hr.bot (by omega)
  have m2 := mulOk_n hr.top hq.bot (by omega)
  have m3 := mulOk_n hq.bot hr.bot (by omega)
  rw [callN_eq (A.get (i := 5) (by decide)) rfl]
  generalize callN tab gl wn (k + 1) = cf at *
  have e : fr (minusF q r) = fr (red (q.1 * r.2 - r.1 * q.2) (q.2 * r.2)) := rfl
  rw [e]
  simp [b5, exs_cons, seqF_def, startE, m1, m2, m3, a1]
theorem pless {q r : Int × Int} {n m : Nat} (A : Ag tab [8]) (hq : Sh n q) (hr : Sh m r) (h : n + m ≤ 8000) : callN tab gl wn (k + 1) 8 [fr q, fr r] = some (.bl (lessF q r)) := by
  have m1 := mulOk_n hq.top hr.bot (by omega)
  have m2 := mulOk_n hr.top hq.bot (by omega)
  rw [callN_eq (A.get (i := 8) (by decide)) rfl]
  generalize callN tab gl wn k = cf at *
  simp [b8, exs_cons, seqF_def, startE, m1, m2, lessF]
end
end Vp.U

end

section
set_option Elab.async false
set_option linter.all false
set_option autoImplicit false
set_option maxRecDepth 100000
set_option maxHeartbeats 0
namespace Vp.U
open Vp L2 PySem
theorem red_one {b : Int} : red 1 b = (1, b) := by
  unfold red
  have : Nat.gcd (1 : Int).natAbs b.natAbs = 1 := Nat.gcd_one_left _
  rw [this]
  simp
section
variable {tab : Nat → Option Fn} {gl : Nat → Option D} {wn k : Nat} {F : Fm}
theorem ppower {e : Int} (A : Ag tab [2, 9, 11]) (W : 64 ≤ wn) (h : e.natAbs ≤ 7000) : callN tab gl wn (k + 2) 11 [I 2, I e] = some (fr (pw e)) := by
  by_cases h0 : 0 ≤ e
  · have a1 := raised2 (gl := gl) (k := k) (e := e) (A.sub (l' := [9]) (by decide)) W h0 (by omega)
    rw [callN_eq (A.get (i := 11) (by decide)) rfl]
    generalize callN tab gl wn (k + 1) = cf at *
    rw [pw_nat h0]
    have e1 : fr (two e, 1) = .tup [I (two e), I 1] := rfl
    rw [e1]
    simp [b11, exs_cons, seqF_def, startE, a1, h0]
  · have a1 := raised2 (gl := gl) (k := k) (e := -e) (A.sub (l' := [9]) (by decide)) W (by omega) (by omega)
    have a2 := fraction (gl := gl) (wn := wn) (k := k) (t := 1) (b := two (-e)) (A.sub (l' := [2]) (by decide)) (two_pos _) (by
      unfold two
      rw [Int.natAbs_pow]
      exact Nat.pow_lt_pow_right (by decide) (by omega))
    rw [red_one] at a2
    rw [callN_eq (A.get (i := 11) (by decide)) rfl]
    generalize callN tab gl wn (k + 1) = cf at *
    have e1 : pw e = (1, two (-e)) := by
      unfold pw
      rw [if_pos (by omega)]
    rw [e1]
    simp [b11, exs_cons, seqF_def, startE, a1, a2, h0]
end
end Vp.U

end

section
set_option Elab.async false
set_option linter.all false
set_option autoImplicit false
set_option maxRecDepth 100000
set_option maxHeartbeats 0
/-! the ladder of sizes -/
namespace Vp.U
open Vp L2 PySem
/-- exponent and rest of a plain pattern -/
theorem split_pat {F : Fm} (o : F.Ok) {e f : Int} (e0 : 0 ≤ e) (e1 : e < two F.w) (f0 : 0 ≤ f) (f1 : f < two F.p) : ee F (e * two F.p + f) = e ∧ ff F (e * two F.p + f) = f := by
  have p2 := two_pos F.p
  have q1 : (e * two F.p + f) / two F.p = e := by
    rw [Int.add_comm, Int.add_mul_ediv_right _ _ (by omega), Int.ediv_eq_zero_of_lt f0 f1, Int.zero_add]
  constructor
  · unfold ee
    rw [q1]
    exact Int.emod_eq_of_lt e0 e1
  · unfold ff
    rw [Int.add_comm, Int.add_mul_emod_self_right]
    exact Int.emod_eq_of_lt f0 f1
theorem pat_split {F : Fm} (o : F.Ok) {x : Int} (h0 : 0 ≤ x) (h1 : x < half F) : x = ee F x * two F.p + ff F x ∧ 0 ≤ ee F x ∧ ee F x < two F.w := by
  have p2 := two_pos F.p
  have p1 := two_pos F.w
  have hq : x / two F.p < two F.w := Int.ediv_lt_of_lt_mul p2 (by rw [← half_eq o]; exact h1)
  have hq0 : 0 ≤ x / two F.p := Int.ediv_nonneg h0 (by omega)
  have e1 : ee F x = x / two F.p := Int.emod_eq_of_lt hq0 hq
  have h2 := Int.mul_ediv_add_emod x (two F.p)
  have e2 : ff F x = x % two F.p := rfl
  rw [e1, e2]
  refine ⟨?_, hq0, hq⟩
  rw [Int.mul_comm]
  omega
theorem two_succ {e : Int} (h : 0 ≤ e) : two (e + 1) = 2 * two e := by
  rw [two_add h (by omega), Int.mul_comm]
  rfl
theorem size_of_parts {F : Fm} {x e f : Int} (he : ee F x = e) (hf : ff F x = f) (e0 : 0 ≤ e) : size F x = if e = 0 then f else (two F.p + f) * two (e - 1) := by
  unfold size cc Vp.U.e1
  rw [he, hf]
  by_cases h : e = 0
  · rw [if_pos h, if_pos h, if_pos (by omega)]
    have : two (1 - 1) = 1 := rfl
    rw [this, Int.mul_one]
  · rw [if_neg h, if_neg h, if_neg (by omega)]
theorem size_succ {F : Fm} (o : F.Ok) {x : Int} (h0 : 0 ≤ x) (h1 : x + 1 < half F) : size F (x + 1) = size F x + two (e1 F x - 1) := by
  obtain ⟨s1, s2, s3⟩ := pat_split o h0 (by omega)
  have r := ff_range (F := F) (x := x)
  have p2 := two_pos F.p
  have p1 := two_pos F.w
  generalize he : ee F x = e at *
  generalize hf : ff F x = f at *
  have z1 := size_of_parts he hf s2
  have hE : e1 F x = if 1 > e then 1 else e := by unfold e1; rw [he]
  by_cases hc : f + 1 < two F.p
  · have n : x + 1 = e * two F.p + (f + 1) := by omega
    obtain ⟨m1, m2⟩ := split_pat o (e := e) (f := f + 1) s2 s3 (by omega) hc
    rw [← n] at m1 m2
    rw [size_of_parts m1 m2 s2, z1, hE]
    by_cases z : e = 0
    · rw [if_pos z, if_pos z, if_pos (by omega)]
      rfl
    · rw [if_neg z, if_neg z, if_neg (by omega)]
      grind
  · have hf1 : f = two F.p - 1 := by omega
    have n : x + 1 = (e + 1) * two F.p + 0 := by rw [Int.add_mul, Int.one_mul]; omega
    have e1w : e + 1 < two F.w := by
      rw [half_eq o] at h1
      rw [n, Int.add_zero] at h1
      exact Int.lt_of_mul_lt_mul_right h1 (by omega)
    obtain ⟨m1, m2⟩ := split_pat o (e := e + 1) (f := 0) (by omega) e1w (by omega) p2
    rw [← n] at m1 m2
    rw [size_of_parts m1 m2 (by omega), z1, hE, if_neg (by omega)]
    by_cases z : e = 0
    · subst z
      rw [if_pos rfl, if_pos (by omega), hf1]
      have a1 : two (0 + 1 - 1) = 1 := rfl
      have a2 : two (1 - 1) = 1 := rfl
      rw [a1, a2]
      omega
    · rw [if_neg z, if_neg (by omega), hf1]
      have a1 : e + 1 - 1 = (e - 1) + 1 := by omega
      rw [a1, two_succ (by omega)]
      grind
theorem size_mono {F : Fm} (o : F.Ok) {x y : Int} (h0 : 0 ≤ x) (h : x < y) (h1 : y < half F) : size F x < size F y := by
  have key : ∀ n : Nat, x + 1 + n < half F → size F x < size F (x + 1 + n) := by
    intro n
    induction n with
    | zero =>
      intro hn
      have := size_succ o h0 (by omega)
      have t := two_pos (e1 F x - 1)
      have e : x + 1 + ((0 : Nat) : Int) = x + 1 := by omega
      rw [e]
      omega
    | succ n ih =>
      intro hn
      have i1 := ih (by omega)
      have e : x + 1 + ((n + 1 : Nat) : Int) = x + 1 + (n : Int) + 1 := by omega
      have := size_succ o (x := x + 1 + n) (by omega) (by omega)
      have t := two_pos (e1 F (x + 1 + n) - 1)
      rw [e]
      omega
  have e : y = x + 1 + ((y - x - 1).toNat : Int) := by omega
  rw [e]
  exact key _ (by omega)
end Vp.U

end

section
set_option Elab.async false
set_option linter.all false
set_option autoImplicit false
set_option maxRecDepth 100000
set_option maxHeartbeats 0
/-! fractions as reduced pairs: their algebra; sizes as fractions -/
namespace Vp.U
open Vp L2 PySem
theorem at_k {tab : Nat → Option Fn} {gl : Nat → Option D} {wn k n f : Nat} {ds : List D} {r : Option D} (h : ∀ k, callN tab gl wn (k + n) f ds = r) (hk : n ≤ k) : callN tab gl wn k f ds = r := by
  have := h (k - n)
  rwa [Nat.sub_add_cancel hk] at this
theorem sign_cross {P Q u v : Int} (hu : 0 < u) (hv : 0 < v) (h : P * u = Q * v) : P < 0 ↔ Q < 0 := by
  constructor
  · intro hp
    have h1 : Q * v < 0 := by
      rw [← h]
      exact Int.mul_neg_of_neg_of_pos hp hu
    by_cases hq : Q < 0
    · exact hq
    · have : 0 ≤ Q * v := Int.mul_nonneg (by omega) (by omega)
      omega
  · intro hq
    have h1 : P * u < 0 := by
      rw [h]
      exact Int.mul_neg_of_neg_of_pos hq hv
    by_cases hp : P < 0
    · exact hp
    · have : 0 ≤ P * u := Int.mul_nonneg (by omega) (by omega)
      omega
theorem red_less {a b c d : Int} (hb : 0 < b) (hd : 0 < d) : lessF (red a b) (red c d) = decide (a * d < c * b) := by
  have e1 := red_eq (t := a) hb
  have e2 := red_eq (t := c) hd
  have p1 := red_pos (t := a) hb
  have p2 := red_pos (t := c) hd
  unfold lessF
  generalize red a b = x at *
  generalize red c d = y at *
  have key : (x.1 * y.2 - y.1 * x.2) * (b * d) = (a * d - c * b) * (x.2 * y.2) := by
    have h1 : (x.1 * y.2 - y.1 * x.2) * (b * d) = (x.1 * b) * (y.2 * d) - (y.1 * d) * (x.2 * b) := by grind
    rw [h1, e1, e2]
    grind
  have s := sign_cross (Int.mul_pos hb hd) (Int.mul_pos p1 p2) key
  rw [decide_eq_decide]
  constructor
  · intro h
    have := s.mp (by omega)
    omega
  · intro h
    have := s.mpr (by omega)
    omega
theorem red_minus {a b c d : Int} (hb : 0 < b) (hd : 0 < d) : minusF (red a b) (red c d) = red (a * d - c * b) (b * d) := by
  have e1 := red_eq (t := a) hb
  have e2 := red_eq (t := c) hd
  have p1 := red_pos (t := a) hb
  have p2 := red_pos (t := c) hd
  unfold minusF
  generalize red a b = x at *
  generalize red c d = y at *
  refine red_congr (Int.mul_pos p1 p2) (Int.mul_pos hb hd) ?_
  have h1 : (x.1 * y.2 - y.1 * x.2) * (b * d) = (x.1 * b) * (y.2 * d) - (y.1 * d) * (x.2 * b) := by grind
  rw [h1, e1, e2]
  grind
theorem red_times {a b c d : Int} (hb : 0 < b) (hd : 0 < d) : timesF (red a b) (red c d) = red (a * c) (b * d) := by
  have e1 := red_eq (t := a) hb
  have e2 := red_eq (t := c) hd
  have p1 := red_pos (t := a) hb
  have p2 := red_pos (t := c) hd
  unfold timesF
  generalize red a b = x at *
  generalize red c d = y at *
  refine red_congr (Int.mul_pos p1 p2) (Int.mul_pos hb hd) ?_
  have h1 : (x.1 * y.1) * (b * d) = (x.1 * b) * (y.1 * d) := by grind
  rw [h1, e1, e2]
  grind
theorem red_top_pos {a b : Int} (hb : 0 < b) (ha : 0 < a) : 0 < (red a b).1 := by
  have e1 := red_eq (t := a) hb
  have p1 := red_pos (t := a) hb
  generalize red a b = x at *
  have h1 : 0 < x.1 * b := by
    rw [e1]
    exact Int.mul_pos ha p1
  by_cases h : 0 < x.1
  · exact h
  · have := Int.mul_nonpos_of_nonpos_of_nonneg (a := x.1) (b := b) (by omega) (by omega)
    omega
theorem red_over {a b c d : Int} (hb : 0 < b) (hd : 0 < d) (hc : 0 < c) : overF (red a b) (red c d) = red (a * d) (b * c) := by
  have e1 := red_eq (t := a) hb
  have e2 := red_eq (t := c) hd
  have p1 := red_pos (t := a) hb
  have p2 := red_pos (t := c) hd
  have p3 := red_top_pos hd hc
  unfold overF
  generalize red a b = x at *
  generalize red c d = y at *
  refine red_congr (Int.mul_pos p1 p3) (Int.mul_pos hb hc) ?_
  have h1 : (x.1 * y.2) * (b * c) = (x.1 * b) * (c * y.2) := by grind
  rw [h1, e1, ← e2]
  grind
theorem red_inj {a b c d : Int} (hb : 0 < b) (hd : 0 < d) : red a b = red c d ↔ a * d = c * b := by
  refine ⟨fun h => ?_, red_congr hb hd⟩
  have e1 := red_eq (t := a) hb
  have e2 := red_eq (t := c) hd
  have p1 := red_pos (t := a) hb
  rw [← h] at e2
  generalize red a b = x at *
  refine Int.eq_of_mul_eq_mul_right (a := x.2) (by omega) ?_
  have h1 : a * d * x.2 = (a * x.2) * d := by grind
  rw [h1, ← e1]
  have h2 : c * b * x.2 = (c * x.2) * b := by grind
  rw [h2, ← e2]
  grind
theorem red_int (n : Int) : (n, (1 : Int)) = red n 1 := by
  have := red_whole (n := n) (b := 1) (by omega)
  rw [Int.mul_one] at this
  exact this.symm
theorem red_scale {a b c : Int} (hb : 0 < b) (hc : 0 < c) : red (a * c) (b * c) = red a b :=
  red_congr (Int.mul_pos hb hc) hb (by grind)
theorem Sh.red {t b : Int} {n : Nat} (hb : 0 < b) (h1 : t.natAbs < 2 ^ n) (h2 : b.natAbs < 2 ^ n) : Sh n (red t b) := by
  have l := red_le (t := t) hb
  have p := red_pos (t := t) hb
  exact ⟨p, Nat.lt_of_le_of_lt l.2 h1, by have := l.1; omega⟩
theorem Sh.mono {n m : Nat} {q : Int × Int} (h : Sh n q) (e : n ≤ m) : Sh m q := ⟨h.pos, Nat.lt_of_lt_of_le h.top (pow_mono e), Nat.lt_of_lt_of_le h.bot (pow_mono e)⟩
theorem two_lt {e : Int} {n : Nat} (h : e < n) (hn : 0 < n) : (two e).natAbs < 2 ^ n := by
  unfold two
  rw [Int.natAbs_pow]
  exact Nat.pow_lt_pow_right (by decide) (by omega)
/-- the steps in 1 -/
def S (F : Fm) : Int := two (-low F)
theorem S_pos (F : Fm) : 0 < S F := two_pos _
theorem sizeF_red {F : Fm} (o : F.Ok) {x : Int} : sizeF F x = red (size F x) (S F) := by
  have hp := pw_pos (e1 F x - bias F - F.p)
  have h1 := pw_low o (x := x)
  have e0 : sizeF F x = red (cc F x * (pw (e1 F x - bias F - F.p)).1) (1 * (pw (e1 F x - bias F - F.p)).2) := rfl
  have e1 : size F x = cc F x * two (e1 F x - 1) := rfl
  have e2 : S F = two (-low F) := rfl
  rw [e0, e1, e2]
  refine red_congr (by rw [Int.one_mul]; exact hp.2) (two_pos _) ?_
  rw [Int.mul_assoc, h1]
  grind
theorem unitF_red {F : Fm} (o : F.Ok) : unitF F = red 1 (S F * S F) := by
  rw [red_one]
  unfold unitF S
  have l := low_le o
  rw [← two_add (by omega) (by omega)]
  congr 2
  omega
theorem size_zero {F : Fm} (o : F.Ok) : size F 0 = 0 := by
  unfold size cc ee ff
  simp
theorem size_nonneg {F : Fm} (o : F.Ok) {x : Int} : 0 ≤ size F x := by
  unfold size
  exact Int.mul_nonneg (cc_range o).1 (by have := two_pos (e1 F x - 1); omega)
theorem size_mono_le {F : Fm} (o : F.Ok) {x y : Int} (h0 : 0 ≤ x) (h : x ≤ y) (h1 : y < half F) : size F x ≤ size F y := by
  by_cases e : x = y
  · rw [e]; omega
  · have := size_mono o h0 (show x < y by omega) h1
    omega
theorem size_inj {F : Fm} (o : F.Ok) {x y : Int} (h0 : 0 ≤ x) (g0 : 0 ≤ y) (hx : x < half F) (hy : y < half F) (h : size F x = size F y) : x = y := by
  rcases Int.lt_trichotomy x y with z | z | z
  · have := size_mono o h0 z hy
    omega
  · exact z
  · have := size_mono o g0 z hx
    omega
theorem ltop_lt {F : Fm} (o : F.Ok) : 0 ≤ ltopV F ∧ ltopV F < half F ∧ (F.full = false → ltopV F + 1 < half F) ∧ (F.full = true → ltopV F + 1 = half F) := by
  have p2 := two_pos F.p
  have h : half F = two F.w * two F.p := half_eq o
  have t2 : two 2 ≤ two F.w := two_le o.w0
  have t3 : two 2 = 4 := rfl
  have h2 : 4 * two F.p ≤ two F.w * two F.p := Int.mul_le_mul_of_nonneg_right (by omega) (by omega)
  unfold ltopV
  cases hf : F.full with
  | true =>
    rw [if_pos rfl]
    exact ⟨by omega, by omega, (fun h => by cases h), fun _ => by omega⟩
  | false =>
    rw [if_neg (by decide)]
    exact ⟨by omega, by omega, (fun _ => by omega), fun h => by cases h⟩
/-- the size behind the greatest one -/
theorem size_behind {F : Fm} (o : F.Ok) (hf : F.full = false) : pw (topE F - bias F) = red (size F (ltopV F + 1)) (S F) := by
  have p2 := two_pos F.p
  have p1 := two_pos F.w
  have t2 : two 2 ≤ two F.w := two_le o.w0
  have t3 : two 2 = 4 := rfl
  have b1 := bias_range o
  have bt : two F.w = 2 * two (F.w - 1) := by
    have := two_succ (e := F.w - 1) (by have := o.w0; omega)
    rwa [Int.sub_add_cancel] at this
  have bb : bias F = two (F.w - 1) - 1 := rfl
  have tt : topE F = two F.w - 1 := rfl
  have e0 : ltopV F + 1 = topE F * two F.p + 0 := by
    unfold ltopV topE
    rw [hf, if_neg (by decide), half_eq o, Int.sub_mul]
    omega
  obtain ⟨s1, s2⟩ := split_pat o (e := topE F) (f := 0) (by omega) (by omega) (by omega) p2
  rw [← e0] at s1 s2
  rw [size_of_parts s1 s2 (by omega), if_neg (by omega), pw_nat (by omega), red_int]
  refine red_congr (by omega) (S_pos F) ?_
  unfold S
  have l := low_le o
  rw [← two_add (by omega) (by omega), Int.add_zero, Int.mul_one, ← two_add (by have := o.p0; omega) (by omega)]
  congr 1
  unfold low
  omega
/-- the greatest pattern that is not above N / T steps -/
structure IsLow (F : Fm) (N T x : Int) : Prop where
  x0 : 0 ≤ x
  x1 : x ≤ ltopV F
  le : size F x * T ≤ N
  up : x = ltopV F ∨ N < size F (x + 1) * T
theorem IsLow.uniq {F : Fm} (o : F.Ok) {N T x y : Int} (hT : 0 < T) (h : IsLow F N T x) (h' : IsLow F N T y) : x = y := by
  have lt := ltop_lt o
  have key : ∀ {x y : Int}, IsLow F N T x → IsLow F N T y → ¬ x < y := fun {x y} h h' hxy => by
    rcases h.up with u | u
    · have := h'.x1
      omega
    · have h1 := size_mono_le o (x := x + 1) (y := y) (by have := h.x0; omega) (by omega) (by have := h'.x1; omega)
      have h2 := Int.mul_le_mul_of_nonneg_right h1 (show 0 ≤ T by omega)
      have h3 := h'.le
      omega
  have a := key h h'
  have b := key h' h
  omega
theorem IsLow.scale {F : Fm} {N T x c : Int} (hc : 0 < c) : IsLow F (N * c) (T * c) x ↔ IsLow F N T x := by
  have k : ∀ z : Int, z * (T * c) = z * T * c := fun z => by rw [Int.mul_assoc]
  constructor
  · rintro ⟨a, b, d, e⟩
    rw [k] at d e
    exact ⟨a, b, Int.le_of_mul_le_mul_right d hc, e.imp id fun e => Int.lt_of_mul_lt_mul_right e (by omega)⟩
  · rintro ⟨a, b, d, e⟩
    refine ⟨a, b, ?_, ?_⟩
    · rw [k]
      exact Int.mul_le_mul_of_nonneg_right d (by omega)
    · rw [k]
      exact e.imp id fun e => Int.mul_lt_mul_of_pos_right e hc
def evenS : Str := ("even" : String)
def downS : Str := ("down" : String)
def upS : Str := ("up" : String)
def zeroS : Str := ("zero" : String)
/-- a size of N / T steps rounded, x the pattern not above it -/
def rnd (F : Fm) (m : Str) (s N T x : Int) : Int :=
  if size F x * T ≠ N ∧ (F.full = false ∨ x < ltopV F) then
    if (m = evenS ∧ (size F (x + 1) * T - N < N - size F x * T ∨ size F (x + 1) * T - N = N - size F x * T ∧ x % 2 = 1)) ∨ (m = downS ∧ s = 1) ∨ (m = upS ∧ s = 0) then x + 1 else x
  else x
theorem rnd_scale {F : Fm} {m : Str} {s N T x c : Int} (hc : 0 < c) : rnd F m s (N * c) (T * c) x = rnd F m s N T x := by
  have k : ∀ z : Int, z * (T * c) = z * T * c := fun z => by rw [Int.mul_assoc]
  have k1 : ∀ a b : Int, a * c - b * c = (a - b) * c := fun a b => by rw [Int.sub_mul]
  have k2 : ∀ a b : Int, a * c < b * c ↔ a < b := fun a b => ⟨fun h => Int.lt_of_mul_lt_mul_right h (by omega), fun h => Int.mul_lt_mul_of_pos_right h hc⟩
  have k3 : ∀ a b : Int, a * c = b * c ↔ a = b := fun a b => ⟨fun h => Int.eq_of_mul_eq_mul_right (by omega) h, fun h => by rw [h]⟩
  unfold rnd
  simp only [k, k1, k2, k3, ne_eq]
end Vp.U

end

section
set_option Elab.async false
set_option linter.all false
set_option autoImplicit false
set_option maxRecDepth 100000
set_option maxHeartbeats 0
/-! the laws' rounding -/
namespace Vp.U
open Vp L2 PySem
theorem fr_eq {q r : Int × Int} : cmpD .Eq (fr q) (fr r) = some (decide (q = r)) := by
  have h := eq_pair (a := q.1) (b := q.2) (c := r.1) (d := r.2)
  have e : cmpD .Eq (fr q) (fr r) = some (decide (q.1 = r.1) && decide (q.2 = r.2)) := h
  rw [e]
  congr 1
  by_cases h1 : q = r
  · subst h1; simp
  · have : ¬ (q.1 = r.1 ∧ q.2 = r.2) := fun z => h1 (Prod.ext z.1 z.2)
    rw [decide_eq_false h1]
    by_cases a : q.1 = r.1
    · have b : ¬ q.2 = r.2 := fun b => this ⟨a, b⟩
      simp [a, b]
    · simp [a]
theorem fr_ne {q r : Int × Int} : cmpD .NotEq (fr q) (fr r) = some (!decide (q = r)) := by
  rw [show cmpD .NotEq (fr q) (fr r) = (cmpD .Eq (fr q) (fr r)).map (!·) from rfl, fr_eq]
  rfl
theorem sub_lt {a b : Int} {n : Nat} (h1 : a.natAbs < 2 ^ n) (h2 : b.natAbs < 2 ^ n) : (a - b).natAbs < 2 ^ (n + 1) := by
  rw [Nat.pow_succ]
  omega
theorem Sh.minus {q r : Int × Int} {n m : Nat} (hq : Sh n q) (hr : Sh m r) : Sh (n + m + 1) (minusF q r) := by
  have t1 := mul_lt hq.top hr.bot
  have t2 := mul_lt hr.top hq.bot
  have t3 := mul_lt hq.bot hr.bot
  rw [Nat.add_comm] at t2
  exact Sh.red (Int.mul_pos hq.pos hr.pos) (sub_lt t1 t2) (Nat.lt_of_lt_of_le t3 (pow_mono (by omega)))
section
variable {tab : Nat → Option Fn} {gl : Nat → Option D} {wn k : Nat} {F : Fm}
theorem lminus {q r : Int × Int} {n m : Nat} (A : Ag tab [126, 127, 128]) (hq : Sh n q) (hr : Sh m r) (h : n + m ≤ 999) : callN tab gl wn (k + 3) 128 [fr q, fr r] = some (fr (minusF q r)) := by
  have hp : 0 < q.2 * r.2 := Int.mul_pos hq.pos hr.pos
  have a1 := frac (gl := gl) (wn := wn) (k := k) (t := q.1 * r.2 - r.1 * q.2) (A.sub (l' := [126, 127]) (by decide)) hp (Nat.lt_of_lt_of_le (mul_lt hq.bot hr.bot) (pow_mono h))
  have m1 := mulOk_n hq.top hr.bot (by omega)
  have m2 := mulOk_n hr.top hq.bot (by omega)
  have m3 := mulOk_n hq.bot hr.bot (by omega)
  rw [callN_eq (A.get (i := 128) (by decide)) rfl]
  generalize callN tab gl wn (k + 2) = cf at *
  have e : fr (minusF q r) = .tup [I (red (q.1 * r.2 - r.1 * q.2) (q.2 * r.2)).1, I (red (q.1 * r.2 - r.1 * q.2) (q.2 * r.2)).2] := rfl
  rw [e]
  simp [b128, exs_cons, seqF_def, startE, m1, m2, m3, a1]
theorem lless {q r : Int × Int} {n m : Nat} (A : Ag tab [131]) (hq : Sh n q) (hr : Sh m r) (h : n + m ≤ 8000) : callN tab gl wn (k + 1) 131 [fr q, fr r] = some (.bl (lessF q r)) := by
  have m1 := mulOk_n hq.top hr.bot (by omega)
  have m2 := mulOk_n hr.top hq.bot (by omega)
  rw [callN_eq (A.get (i := 131) (by decide)) rfl]
  generalize callN tab gl wn k = cf at *
  simp [b131, exs_cons, seqF_def, startE, m1, m2, lessF]
theorem lsize' {x : Int} (A : Ag tab [126, 127, 129, 133, 134, 135, 137]) (o : F.Sml) : callN tab gl wn (k + 4) 137 [F.d, I x] = some (fr (red (size F x) (S F))) ∧ Sh 150 (red (size F x) (S F)) := by
  rw [← sizeF_red o.ok]
  exact lsize A o
theorem lbehind {x : Int} (A : Ag tab [126, 127, 129, 133, 134, 135, 137, 138, 139, 140]) (o : F.Sml) (x1 : x ≤ ltopV F) (hx : F.full = false ∨ x < ltopV F) : callN tab gl wn (k + 5) 140 [F.d, I x] = some (fr (red (size F (x + 1)) (S F))) := by
  have a1 := at_k (k := k + 4) (fun k => ltop (gl := gl) (wn := wn) (k := k) (F := F) (A.sub (l' := [133, 138, 139]) (by decide)) o.ok) (by omega)
  have a2 := (lsize' (gl := gl) (wn := wn) (k := k) (x := x + 1) (A.sub (l' := [126, 127, 129, 133, 134, 135, 137]) (by decide)) o).1
  have a3 := at_k (k := k + 4) (fun k => lbias (gl := gl) (wn := wn) (k := k) (F := F) (A.sub (l' := [133, 134]) (by decide)) o.ok) (by omega)
  have a4 := power (gl := gl) (wn := wn) (k := k + 3) (e := F.w) (A.sub (l' := [133]) (by decide)) (by have := o.ok.w0; have := o.w2; omega)
  rw [pw_nat (by have := o.ok.w0; omega)] at a4
  have b1 := o.bias
  have w2 : two F.w ≤ two 6 := two_le o.w2
  have w3 : two 6 = 64 := rfl
  have w4 := two_pos F.w
  have a5 := power (gl := gl) (wn := wn) (k := k + 3) (e := topE F - bias F) (A.sub (l' := [133]) (by decide)) (by unfold topE; omega)
  rw [callN_eq (A.get (i := 140) (by decide)) rfl]
  change callN tab gl wn (k + 4) _ _ = _ at a4
  change callN tab gl wn (k + 4) _ _ = _ at a5
  generalize callN tab gl wn (k + 4) = cf at *
  by_cases h : x < ltopV F
  · simp [b140, exs_cons, seqF_def, startE, a1, a2, h]
  · have hf : F.full = false := hx.resolve_right h
    have e : x = ltopV F := by omega
    rw [size_behind o.ok hf] at a5
    rw [e]
    unfold topE at a5
    generalize red (size F (ltopV F + 1)) (S F) = r at *
    simp [b140, exs_cons, seqF_def, startE, a1, a3, a4, a5]
theorem strs_ne : ¬ evenS = downS ∧ ¬ evenS = upS ∧ ¬ downS = upS ∧ ¬ zeroS = evenS ∧ ¬ zeroS = downS ∧ ¬ zeroS = upS := by decide
theorem lround {m : Str} {s a b : Int} {n : Nat} (A : Ag tab [126, 127, 128, 129, 131, 133, 134, 135, 137, 138, 139, 140, 141]) (o : F.Sml) (s0 : 0 ≤ s) (s1 : s ≤ 1) (a0 : 0 ≤ a) (b0 : 0 < b) (hs : Sh n (red a b)) (hn : n ≤ 400) :
    ∃ x, IsLow F (a * S F) b x ∧ callN tab gl wn (k + 6) 141 [F.d, .str m, I s, fr (red a b)] = some (I (rnd F m s (a * S F) b x + s * half F)) := by
  have lt := ltop_lt o.ok
  have Sp := S_pos F
  have a1 := at_k (k := k + 5) (fun k => ltop (gl := gl) (wn := wn) (k := k) (F := F) (A.sub (l' := [133, 138, 139]) (by decide)) o.ok) (by omega)
  have a2 : ∀ x, callN tab gl wn (k + 5) 137 [F.d, I x] = some (fr (red (size F x) (S F))) := fun x => (lsize' (gl := gl) (wn := wn) (k := k + 1) (x := x) (A.sub (l' := [126, 127, 129, 133, 134, 135, 137]) (by decide)) o).1
  have h2 : ∀ x, Sh 150 (red (size F x) (S F)) := fun x => (lsize' (tab := tab) (gl := gl) (wn := wn) (k := k + 1) (x := x) (A.sub (l' := [126, 127, 129, 133, 134, 135, 137]) (by decide)) o).2
  have a3 : ∀ x, callN tab gl wn (k + 5) 131 [fr (red a b), fr (red (size F x) (S F))] = some (.bl (decide (a * S F < size F x * b))) := fun x => by
    have := lless (gl := gl) (wn := wn) (k := k + 4) (A.sub (l' := [131]) (by decide)) hs (h2 x) (by omega)
    rwa [red_less b0 Sp] at this
  have a4 := at_k (k := k + 5) (fun k => lhalf (gl := gl) (wn := wn) (k := k) (F := F) (A.sub (l' := [133, 138]) (by decide)) o.ok) (by omega)
  have hb2 : half F ≤ two 26 := two_le (by have := o.w2; have := o.p2; omega)
  have hb3 : two 26 = 67108864 := rfl
  have nz : size F 0 * b ≤ a * S F := by
    rw [size_zero o.ok, Int.zero_mul]
    exact Int.mul_nonneg a0 (by omega)
  have d2 : divOk 2 = true := by decide
  have a5 : ∀ x, x ≤ ltopV F → (F.full = false ∨ x < ltopV F) → callN tab gl wn (k + 5) 140 [F.d, I x] = some (fr (red (size F (x + 1)) (S F))) := fun x h h' => lbehind (gl := gl) (wn := wn) (k := k) (A.sub (by decide)) o h h'
  have a6 : ∀ x, callN tab gl wn (k + 5) 128 [fr (red a b), fr (red (size F x) (S F))] = some (fr (red (a * S F - size F x * b) (b * S F))) := fun x => by
    have := lminus (gl := gl) (wn := wn) (k := k + 2) (A.sub (l' := [126, 127, 128]) (by decide)) hs (h2 x) (by omega)
    rwa [red_minus b0 Sp] at this
  have a7 : ∀ x, callN tab gl wn (k + 5) 128 [fr (red (size F x) (S F)), fr (red a b)] = some (fr (red (size F x * b - a * S F) (b * S F))) := fun x => by
    have := lminus (gl := gl) (wn := wn) (k := k + 2) (A.sub (l' := [126, 127, 128]) (by decide)) (h2 x) hs (by omega)
    rwa [red_minus Sp b0, Int.mul_comm (S F) b] at this
  have h6 : ∀ x, Sh (n + 152) (red (a * S F - size F x * b) (b * S F)) := fun x => by
    have := hs.minus (h2 x)
    rw [red_minus b0 Sp] at this
    exact this.mono (by omega)
  have h7 : ∀ x, Sh (n + 152) (red (size F x * b - a * S F) (b * S F)) := fun x => by
    have := (h2 x).minus hs
    rw [red_minus Sp b0, Int.mul_comm (S F) b] at this
    exact this.mono (by omega)
  have bS : 0 < b * S F := Int.mul_pos b0 Sp
  have a8 : ∀ x y, callN tab gl wn (k + 5) 131 [fr (red (size F y * b - a * S F) (b * S F)), fr (red (a * S F - size F x * b) (b * S F))] = some (.bl (decide (size F y * b - a * S F < a * S F - size F x * b))) := fun x y => by
    have := lless (gl := gl) (wn := wn) (k := k + 4) (A.sub (l' := [131]) (by decide)) (h7 y) (h6 x) (by omega)
    rw [red_less bS bS] at this
    rw [this]
    congr 2
    rw [decide_eq_decide]
    exact ⟨fun h => Int.lt_of_mul_lt_mul_right h (by omega), fun h => Int.mul_lt_mul_of_pos_right h bS⟩
  have a9 : ∀ x y, cmpD .Eq (fr (red (size F y * b - a * S F) (b * S F))) (fr (red (a * S F - size F x * b) (b * S F))) = some (decide (size F y * b - a * S F = a * S F - size F x * b)) := fun x y => by
    rw [fr_eq]
    congr 1
    rw [decide_eq_decide, red_inj bS bS]
    exact ⟨fun h => Int.eq_of_mul_eq_mul_right (by omega) h, fun h => by rw [h]⟩
  have a10 : ∀ x, cmpD .NotEq (fr (red (size F x) (S F))) (fr (red a b)) = some (!decide (size F x * b = a * S F)) := fun x => by
    rw [fr_ne]
    congr 2
    rw [decide_eq_decide, red_inj Sp b0]
  rw [callN_eq (A.get (i := 141) (by decide)) rfl]
  generalize callN tab gl wn (k + 5) = cf at *
  obtain ⟨E', e1, lo, hi, c6, c8, rfl, l0, l1, l2, l3, l4, l5⟩ := forF_inv (t := .nm 6) (b := exs cf gl wn b141_1) ((List.range 90).map fun i => .int (0 + (i : Nat)))
    (fun i E => ∃ lo hi c6 c8, E = [.f F.d, .f (.str m), .f (I s), .f (fr (red a b)), .f (I lo), .f (I hi), c6, .u, c8, .u, .u, .u] ∧ 0 ≤ lo ∧ lo < hi ∧ hi ≤ ltopV F + 1 ∧ size F lo * b ≤ a * S F ∧ (hi = ltopV F + 1 ∨ a * S F < size F hi * b) ∧ hi - lo ≤ two (90 - (i : Nat)))
    [.f F.d, .f (.str m), .f (I s), .f (fr (red a b)), .f (I 0), .f (I (ltopV F + 1)), .u, .u, .u, .u, .u, .u] ⟨0, ltopV F + 1, .u, .u, rfl, by omega, by omega, by omega, nz, .inl rfl, by
      have : two 26 ≤ two (90 - ((0 : Nat) : Int)) := two_le (by omega)
      omega⟩ (by
      rintro i d E hd ⟨lo, hi, c6, c8, rfl, l0, l1, l2, l3, l4, l5⟩
      obtain ⟨hi9, rfl⟩ := rangeD hd
      have tw : two (90 - (i : Nat)) = 2 * two (90 - ((i + 1 : Nat) : Int)) := by
        have := two_succ (e := 90 - ((i + 1 : Nat) : Int)) (by omega)
        rw [← this]
        congr 1
        omega
      by_cases hc : hi - lo > 1
      · have q := a3 ((lo + hi) / 2)
        by_cases hl : a * S F < size F ((lo + hi) / 2) * b
        · refine ⟨_, [.f F.d, .f (.str m), .f (I s), .f (fr (red a b)), .f (I lo), .f (I ((lo + hi) / 2)), .f (I (0 + (i : Nat))), .u, .f (I ((lo + hi) / 2)), .u, .u, .u], rfl, .inl ?_, _, _, _, _, rfl, l0, by omega, by omega, l3, .inr hl, by omega⟩
          rw [decide_eq_true hl] at q
          simp [b141_1, exs_cons, seqF_def, a2, q, d2, hc]
        · refine ⟨_, [.f F.d, .f (.str m), .f (I s), .f (fr (red a b)), .f (I ((lo + hi) / 2)), .f (I hi), .f (I (0 + (i : Nat))), .u, .f (I ((lo + hi) / 2)), .u, .u, .u], rfl, .inl ?_, _, _, _, _, rfl, by omega, by omega, l2, by omega, l4, by omega⟩
          rw [decide_eq_false hl] at q
          simp [b141_1, exs_cons, seqF_def, a2, q, d2, hc]
      · refine ⟨_, [.f F.d, .f (.str m), .f (I s), .f (fr (red a b)), .f (I lo), .f (I hi), .f (I (0 + (i : Nat))), .u, .f (I ((lo + hi) / 2)), .u, .u, .u], rfl, .inl ?_, _, _, _, _, rfl, l0, l1, l2, l3, l4, ?_⟩
        · simp [b141_1, exs_cons, seqF_def, d2, hc]
        · have := two_pos (90 - ((i + 1 : Nat) : Int))
          omega)
  rw [List.length_map, List.length_range] at l5
  have z0 : two (90 - ((90 : Nat) : Int)) = 1 := rfl
  have hh : hi = lo + 1 := by omega
  subst hh
  refine ⟨lo, ⟨l0, by omega, l3, by rcases l4 with l4 | l4; exact .inl (by omega); exact .inr l4⟩, ?_⟩
  suffices hh : exs cf gl wn b141 (startE 12 [F.d, .str m, I s, fr (red a b)]) = some (.rt (I (rnd F m s (a * S F) b lo + s * half F))) by
    rw [hh]
    rfl
  have ms : mulOk s (half F) = true := mulOk_l (by omega) (by omega)
  refine exs_nx (E' := [.f F.d, .f (.str m), .f (I s), .f (fr (red a b)), .f (I 0), .u, .u, .u, .u, .u, .u, .u]) (by simp [startE]) ?_
  refine exs_nx (E' := [.f F.d, .f (.str m), .f (I s), .f (fr (red a b)), .f (I 0), .f (I (ltopV F + 1)), .u, .u, .u, .u, .u, .u]) (by simp [a1]) ?_
  refine exs_nx (E' := [.f F.d, .f (.str m), .f (I s), .f (fr (red a b)), .f (I lo), .f (I (lo + 1)), c6, .u, c8, .u, .u, .u]) ?_ ?_
  · rw [frz_nil, ex1_for]
    have e3 : evI cf gl (.fn .rng1 (.cons (.int 90) .nil)) [.f F.d, .f (.str m), .f (I s), .f (fr (red a b)), .f (I 0), .f (I (ltopV F + 1)), .u, .u, .u, .u, .u, .u] = some ((List.range 90).map fun i => .int (0 + (i : Nat))) := by
      have sm : small62 90 = true := by decide
      rw [evI_fn, evs_cons, ev_int, evs_nil, Option.bind_some, Option.map_some, Option.bind_some, rng1_int, if_pos sm]
      rfl
    rw [e3, Option.bind_some]
    exact e1
  refine exs_nx (E' := [.f F.d, .f (.str m), .f (I s), .f (fr (red a b)), .f (I lo), .f (I (lo + 1)), c6, .f (I lo), c8, .u, .u, .u]) (by simp) ?_
  have kf := kd_ieee (F := F)
  have q1 := a10 lo
  have q2 := a2 lo
  unfold rnd
  by_cases g1 : size F lo * b = a * S F
  · rw [if_neg (fun z => z.1 g1)]
    rw [decide_eq_true g1] at q1
    simp [exs_cons, seqF_def, q1, q2, a4, ms]
  · rw [decide_eq_false g1] at q1
    by_cases g2 : F.full = false ∨ lo < ltopV F
    · rw [if_pos ⟨g1, g2⟩]
      have q3 := a5 lo (by omega) g2
      have q4 := a6 lo
      have q5 := a7 (lo + 1)
      have q6 := a8 lo (lo + 1)
      have q7 := a9 lo (lo + 1)
      generalize hU : size F (lo + 1) * b - a * S F = U at *
      generalize hD : a * S F - size F lo * b = D at *
      generalize red U (b * S F) = ru at *
      generalize red D (b * S F) = rd at *
      generalize red (size F (lo + 1)) (S F) = rs at *
      generalize red (size F lo) (S F) = rl at *
      generalize red a b = ra at *
      have t1 : tev cf gl (.bool .And (.cons (.cmp .NotEq (.call 137 (.cons (.loc 0) (.cons (.loc 4) .nil))) (.loc 3)) (.cons (.bool .Or (.cons (.cmp .Eq (.sub (.loc 0) (.int 0)) (.str ("ieee" : String))) (.cons (.cmp .Lt (.loc 4) (.call 139 (.cons (.loc 0) .nil))) .nil))) .nil))) [.f F.d, .f (.str m), .f (I s), .f (fr ra), .f (I lo), .f (I (lo + 1)), c6, .f (I lo), c8, .u, .u, .u] = some true := by
        cases hf : F.full with
        | false =>
          rw [hf] at kf
          simp [q2, q1, kf]
        | true =>
          rw [hf] at kf
          have : lo < ltopV F := g2.resolve_left (by simp [hf])
          simp [q2, q1, kf, a1, this]
      refine exs_nx (E' := [.f F.d, .f (.str m), .f (I s), .f (fr ra), .f (I lo), .f (I (lo + 1)), c6, .f (I (if (m = evenS ∧ (U < D ∨ U = D ∧ lo % 2 = 1)) ∨ (m = downS ∧ s = 1) ∨ (m = upS ∧ s = 0) then lo + 1 else lo)), c8, .f (fr rs), .f (fr rd), .f (fr ru)]) ?_ (by simp [exs_cons, seqF_def, a4, ms])
      rw [frz_nil, ex1_ife, t1, Option.bind_some, if_pos rfl]
      refine exs_nx (E' := [.f F.d, .f (.str m), .f (I s), .f (fr ra), .f (I lo), .f (I (lo + 1)), c6, .f (I lo), c8, .f (fr rs), .u, .u]) (by simp [q3]) ?_
      refine exs_nx (E' := [.f F.d, .f (.str m), .f (I s), .f (fr ra), .f (I lo), .f (I (lo + 1)), c6, .f (I lo), c8, .f (fr rs), .f (fr rd), .u]) (by simp [q2, q4]) ?_
      refine exs_nx (E' := [.f F.d, .f (.str m), .f (I s), .f (fr ra), .f (I lo), .f (I (lo + 1)), c6, .f (I lo), c8, .f (fr rs), .f (fr rd), .f (fr ru)]) (by simp [q5]) ?_
      have t2 : ∀ c7, tev cf gl (.bool .And (.cons (.cmp .Eq (.loc 1) (.str ("even" : String))) (.cons (.bool .Or (.cons (.call 131 (.cons (.loc 11) (.cons (.loc 10) .nil))) (.cons (.bool .And (.cons (.cmp .Eq (.loc 11) (.loc 10)) (.cons (.cmp .Eq (.bin .mod (.loc 4) (.int 2)) (.int 1)) .nil))) .nil))) .nil))) [.f F.d, .f (.str m), .f (I s), .f (fr ra), .f (I lo), .f (I (lo + 1)), c6, c7, c8, .f (fr rs), .f (fr rd), .f (fr ru)] = some (decide (m = evenS ∧ (U < D ∨ U = D ∧ lo % 2 = 1))) := by
        intro c7
        have ev : evenS = ("even" : String) := rfl
        by_cases m1 : m = evenS
        · by_cases m2 : U < D
          · rw [decide_eq_true m2] at q6
            simp [q6, m1, m2, ev]
          · rw [decide_eq_false m2] at q6
            by_cases m3 : U = D
            · rw [decide_eq_true m3] at q7
              by_cases m4 : lo % 2 = 1
              · simp [q6, q7, m1, m2, m3, m4, ev]
              · simp [q6, q7, m1, m2, m3, m4, ev]
            · rw [decide_eq_false m3] at q7
              simp [q6, q7, m1, m2, m3, ev]
        · rw [ev] at m1
          simp [m1, ev]
      have t3 : ∀ c7, tev cf gl (.bool .Or (.cons (.bool .And (.cons (.cmp .Eq (.loc 1) (.str ("down" : String))) (.cons (.cmp .Eq (.loc 2) (.int 1)) .nil))) (.cons (.bool .And (.cons (.cmp .Eq (.loc 1) (.str ("up" : String))) (.cons (.cmp .Eq (.loc 2) (.int 0)) .nil))) .nil))) [.f F.d, .f (.str m), .f (I s), .f (fr ra), .f (I lo), .f (I (lo + 1)), c6, c7, c8, .f (fr rs), .f (fr rd), .f (fr ru)] = some (decide ((m = downS ∧ s = 1) ∨ (m = upS ∧ s = 0))) := by
        intro c7
        have ev : downS = ("down" : String) := rfl
        have ev2 : upS = ("up" : String) := rfl
        rw [← ev, ← ev2]
        by_cases m1 : m = downS
        · by_cases m2 : s = 1
          · simp [m1, m2]
          · have m3 : ¬ downS = upS := by decide
            simp [m1, m2, m3]
        · by_cases m2 : m = upS
          · have m3 : ¬ upS = downS := by decide
            by_cases m4 : s = 0
            · simp [m2, m3, m4]
            · simp [m2, m3, m4]
          · simp [m1, m2]
      by_cases c1 : m = evenS ∧ (U < D ∨ U = D ∧ lo % 2 = 1)
      · have c2 : ¬ ((m = downS ∧ s = 1) ∨ (m = upS ∧ s = 0)) := by
          rw [c1.1]
          rintro (⟨h, _⟩ | ⟨h, _⟩)
          · exact strs_ne.1 h
          · exact strs_ne.2.1 h
        rw [if_pos (.inl c1)]
        refine exs_nx (E' := [.f F.d, .f (.str m), .f (I s), .f (fr ra), .f (I lo), .f (I (lo + 1)), c6, .f (I (lo + 1)), c8, .f (fr rs), .f (fr rd), .f (fr ru)]) ?_ ?_
        · rw [frz_nil, ex1_ife, t2, Option.bind_some, decide_eq_true c1, if_pos rfl]
          simp [exs_cons, seqF_def]
        · refine exs_nx (E' := [.f F.d, .f (.str m), .f (I s), .f (fr ra), .f (I lo), .f (I (lo + 1)), c6, .f (I (lo + 1)), c8, .f (fr rs), .f (fr rd), .f (fr ru)]) ?_ rfl
          rw [frz_nil, ex1_ife, t3, Option.bind_some, decide_eq_false c2, if_neg (by decide)]
          rfl
      · refine exs_nx (E' := [.f F.d, .f (.str m), .f (I s), .f (fr ra), .f (I lo), .f (I (lo + 1)), c6, .f (I lo), c8, .f (fr rs), .f (fr rd), .f (fr ru)]) ?_ ?_
        · rw [frz_nil, ex1_ife, t2, Option.bind_some, decide_eq_false c1, if_neg (by decide)]
          rfl
        · by_cases c2 : (m = downS ∧ s = 1) ∨ (m = upS ∧ s = 0)
          · rw [if_pos (.inr c2)]
            refine exs_nx (E' := [.f F.d, .f (.str m), .f (I s), .f (fr ra), .f (I lo), .f (I (lo + 1)), c6, .f (I (lo + 1)), c8, .f (fr rs), .f (fr rd), .f (fr ru)]) ?_ rfl
            rw [frz_nil, ex1_ife, t3, Option.bind_some, decide_eq_true c2, if_pos rfl]
            simp [exs_cons, seqF_def]
          · rw [if_neg (fun z => z.elim c1 c2)]
            refine exs_nx (E' := [.f F.d, .f (.str m), .f (I s), .f (fr ra), .f (I lo), .f (I (lo + 1)), c6, .f (I lo), c8, .f (fr rs), .f (fr rd), .f (fr ru)]) ?_ rfl
            rw [frz_nil, ex1_ife, t3, Option.bind_some, decide_eq_false c2, if_neg (by decide)]
            rfl
    · rw [if_neg (fun z => g2 z.2)]
      have hf : F.full = true := by
        cases h : F.full with
        | true => rfl
        | false => exact absurd (.inl h) g2
      have hl : ¬ lo < ltopV F := fun z => g2 (.inr z)
      rw [hf] at kf
      simp [exs_cons, seqF_def, q1, q2, a1, kf, hl, a4, ms]
end
end Vp.U

end

section
set_option Elab.async false
set_option linter.all false
set_option autoImplicit false
set_option maxRecDepth 100000
set_option maxHeartbeats 0
/-! the program's rounding -/
namespace Vp.U
open Vp L2 PySem
theorem bits_facts {n : Int} {m : Nat} (h0 : 0 < n) (h1 : n.natAbs < 2 ^ m) : 1 ≤ (Builtin.Int.intBits n : Int) ∧ (Builtin.Int.intBits n : Int) ≤ m ∧ n < two (Builtin.Int.intBits n : Nat) ∧ two ((Builtin.Int.intBits n : Nat) - 1) ≤ n := by
  have e : Builtin.Int.intBits n = n.natAbs.log2 + 1 := by
    unfold Builtin.Int.intBits
    rw [if_neg (by simp; omega)]
  have l1 := (Nat.log2_lt (n := n.natAbs) (k := m) (by omega)).mpr h1
  have l2 : 2 ^ n.natAbs.log2 ≤ n.natAbs := Nat.log2_self_le (by omega)
  have l3 : n.natAbs < 2 ^ (n.natAbs.log2 + 1) := Nat.lt_log2_self
  rw [e]
  generalize n.natAbs.log2 = L at *
  have c : ∀ m : Nat, two ((m : Nat) : Int) = ((2 ^ m : Nat) : Int) := fun m => by rw [two_nat]; simp
  refine ⟨by omega, by omega, ?_, ?_⟩
  · rw [c]
    omega
  · have e2 : (((L + 1 : Nat) : Int) - 1) = ((L : Nat) : Int) := by omega
    rw [e2, c]
    omega
/-- powers as fractions -/
theorem pw_red {e M : Int} (h0 : 0 ≤ M) (h1 : 0 ≤ e + M) : pw e = red (two (e + M)) (two M) := by
  unfold pw
  by_cases h : e < 0
  · rw [if_pos h, ← red_one]
    refine red_congr (two_pos _) (two_pos _) ?_
    rw [Int.one_mul, ← two_add (by omega) (by omega)]
    congr 1
    omega
  · rw [if_neg h, red_int]
    refine red_congr (by omega) (two_pos _) ?_
    rw [Int.mul_one, ← two_add (by omega) (by omega)]
theorem red_floor {t b : Int} (hb : 0 < b) : (red t b).1 / (red t b).2 = t / b := by
  have e := red_eq (t := t) hb
  have p := red_pos (t := t) hb
  generalize red t b = q at *
  have h1 : q.1 / q.2 = (q.1 * b) / (q.2 * b) := (Int.mul_ediv_mul_of_pos_left _ _ hb).symm
  rw [h1, e, Int.mul_comm q.2 b, Int.mul_ediv_mul_of_pos_left _ _ p]
/-- formats whose sizes are not too long -/
structure Fm.Mid (F : Fm) : Prop where
  ok : F.Ok
  w11 : F.w ≤ 11
theorem Fm.Sml.mid {F : Fm} (o : F.Sml) : F.Mid := ⟨o.ok, by have := o.w2; omega⟩
theorem Fm.Mid.bias {F : Fm} (o : F.Mid) : 1 ≤ bias F ∧ bias F ≤ 1023 := by
  refine ⟨(bias_range o.ok).1, ?_⟩
  unfold Vp.U.bias
  have h2 : two (F.w - 1) ≤ two 10 := two_le (by have := o.w11; omega)
  have e2 : two 10 = 1024 := rfl
  omega
theorem Fm.Mid.tw {F : Fm} (o : F.Mid) : 4 ≤ two F.w ∧ two F.w ≤ 2048 := by
  have h3 : two F.w ≤ two 11 := two_le o.w11
  have e2 : two 11 = 2048 := rfl
  have h4 : two 2 ≤ two F.w := two_le o.ok.w0
  have e4 : two 2 = 4 := rfl
  omega
theorem Fm.Mid.e1 {F : Fm} (o : F.Mid) {x : Int} : 1 ≤ e1 F x ∧ e1 F x ≤ 2047 := by
  have := ee_range (x := x) o.ok
  have h : ee F x ≤ 2047 := by
    unfold ee
    have p1 := two_pos F.w
    have h2 := Int.emod_lt_of_pos (x / two F.p) p1
    have := o.tw
    omega
  unfold Vp.U.e1
  split <;> omega
theorem Fm.Mid.size_sh {F : Fm} (o : F.Mid) {x : Int} : Sh 2100 (red (size F x) (S F)) := by
  have b := o.bias
  have p0 := o.ok.p0
  have p1 := o.ok.p1
  have r := o.e1 (x := x)
  have c := cc_range (x := x) o.ok
  refine Sh.red (S_pos F) ?_ ?_
  · unfold size
    have h1 : (cc F x).natAbs < 2 ^ 52 := by
      have : (2 : Nat) ^ 52 = 4503599627370496 := by decide
      omega
    exact Nat.lt_of_lt_of_le (mul_lt h1 (two_lt (n := 2047) (by omega) (by omega))) (pow_mono (by omega))
  · unfold S
    exact two_lt (by unfold low; omega) (by omega)
section
variable {tab : Nat → Option Fn} {gl : Nat → Option D} {wn k : Nat} {F : Fm}
theorem psize {x : Int} (A : Ag tab [2, 3, 6, 9, 11, 12, 14, 17, 18]) (W : 64 ≤ wn) (o : F.Mid) : callN tab gl wn (k + 4) 18 [F.d, I x] = some (fr (red (size F x) (S F))) := by
  have a1 := at_k (k := k + 3) (fun k => scale_of (gl := gl) (k := k) (F := F) (x := x) (A.sub (l' := [9, 12, 14, 17]) (by decide)) W o.ok) (by omega)
  have a2 := whole (gl := gl) (wn := wn) (k := k + 2) (n := cc F x) (A.sub (l' := [3]) (by decide))
  have b := o.bias
  have p0 := o.ok.p0
  have p1 := o.ok.p1
  have r := o.e1 (x := x)
  have c := cc_range (x := x) o.ok
  have a3 := ppower (gl := gl) (wn := wn) (k := k + 1) (e := e1 F x - bias F - F.p) (A.sub (l' := [2, 9, 11]) (by decide)) W (by omega)
  have h1 : Sh 52 (cc F x, 1) := by
    have : (2 : Nat) ^ 52 = 4503599627370496 := by decide
    exact ⟨Int.one_pos, by rw [this]; show (cc F x).natAbs < _; omega, by rw [this]; show (1 : Int).natAbs < _; decide⟩
  have h2 : Sh 4000 (pw (e1 F x - bias F - F.p)) := pw_sh (by omega)
  have a4 := ptimes (gl := gl) (wn := wn) (k := k + 1) (A.sub (l' := [2, 6]) (by decide)) h1 h2 (by omega)
  have e : timesF (cc F x, 1) (pw (e1 F x - bias F - F.p)) = red (size F x) (S F) := sizeF_red o.ok
  rw [e] at a4
  rw [callN_eq (A.get (i := 18) (by decide)) rfl]
  change callN tab gl wn (k + 3) _ _ = _ at a2
  change callN tab gl wn (k + 3) _ _ = _ at a3
  change callN tab gl wn (k + 3) _ _ = _ at a4
  generalize callN tab gl wn (k + 3) = cf at *
  generalize red (size F x) (S F) = r at *
  generalize pw (e1 F x - bias F - F.p) = pe at *
  simp [b18, exs_cons, seqF_def, startE, asg2, a1, a2, a3, a4]
theorem two_mulc {i j : Int} (hi : 0 ≤ i) (hj : 0 ≤ j) : two i * two j = two (i + j) := (two_add hi hj).symm
theorem exponent_of {a b : Int} {n : Nat} (A : Ag tab [2, 8, 9, 11, 38]) (W : 64 ≤ wn) (a0 : 0 < a) (b0 : 0 < b) (hs : Sh n (red a b)) (hn : n ≤ 4000) :
    ∃ t M, 0 ≤ M ∧ 0 ≤ t + M ∧ -4001 ≤ t ∧ t ≤ 4001 ∧ two (t + M) * b ≤ a * two M ∧ a * two M < two (t + M + 1) * b ∧ callN tab gl wn (k + 3) 38 [fr (red a b)] = some (I t) := by
  have pa := red_top_pos (a := a) b0 a0
  obtain ⟨n1, n2, n3, n4⟩ := bits_facts pa hs.top
  obtain ⟨d1, d2, d3, d4⟩ := bits_facts hs.pos hs.bot
  have re := red_eq (t := a) b0
  have a1 := ppower (gl := gl) (wn := wn) (k := k) (e := (Builtin.Int.intBits (red a b).1 : Nat) - (Builtin.Int.intBits (red a b).2 : Nat)) (A.sub (l' := [2, 9, 11]) (by decide)) W (by omega)
  have h2 : Sh 4000 (pw ((Builtin.Int.intBits (red a b).1 : Nat) - (Builtin.Int.intBits (red a b).2 : Nat))) := pw_sh (by omega)
  have a2 := pless (gl := gl) (wn := wn) (k := k + 1) (A.sub (l' := [8]) (by decide)) hs h2 (by omega)
  rw [callN_eq (A.get (i := 38) (by decide)) rfl]
  change callN tab gl wn (k + 2) _ _ = _ at a2
  generalize callN tab gl wn (k + 2) = cf at *
  have q2 := hs.pos
  generalize hB : ((Builtin.Int.intBits (red a b).1 : Nat) : Int) = B at *
  generalize hC : ((Builtin.Int.intBits (red a b).2 : Nat) : Int) = C at *
  have M0 : (0 : Int) ≤ C + 1 := by omega
  -- by the lengths in bits
  have up : a * two (C + 1) < two (B - C + (C + 1) + 1) * b := by
    have e1 : B - C + (C + 1) + 1 = B + 2 := by omega
    rw [e1]
    have h1 : two (C + 1) ≤ 4 * (red a b).2 := by
      have e2 : C + 1 = (C - 1) + 1 + 1 := by omega
      rw [e2, two_succ (by omega), two_succ (by omega)]
      omega
    have h3 : two (B + 2) = 4 * two B := by
      have e2 : B + 2 = B + 1 + 1 := by omega
      rw [e2, two_succ (by omega), two_succ (by omega)]
      omega
    rw [h3]
    have h4 : a * two (C + 1) ≤ a * (4 * (red a b).2) := Int.mul_le_mul_of_nonneg_left h1 (by omega)
    have h5 : a * (4 * (red a b).2) = 4 * ((red a b).1 * b) := by rw [re]; grind
    have h6 : (red a b).1 * b < two B * b := Int.mul_lt_mul_of_pos_right n3 b0
    have h7 : 4 * two B * b = 4 * (two B * b) := by grind
    omega
  have dn : two (B - C - 1 + (C + 1)) * b ≤ a * two (C + 1) := by
    have e1 : B - C - 1 + (C + 1) = B - 1 + 1 := by omega
    rw [e1, two_succ (by omega), two_succ (e := C) (by omega)]
    have h1 : two (B - 1) * b ≤ (red a b).1 * b := Int.mul_le_mul_of_nonneg_right n4 (by omega)
    have h2 : a * (red a b).2 ≤ a * two C := Int.mul_le_mul_of_nonneg_left (by omega) (by omega)
    have h3 : 2 * two (B - 1) * b = 2 * (two (B - 1) * b) := by grind
    have h4 : a * (2 * two C) = 2 * (a * two C) := by grind
    omega
  have lv : lessF (red a b) (pw (B - C)) = decide (a * two (C + 1) < two (B - C + (C + 1)) * b) := by
    rw [pw_red (M := C + 1) (by omega) (by omega), red_less b0 (two_pos _)]
  rw [lv] at a2
  by_cases hl : a * two (C + 1) < two (B - C + (C + 1)) * b
  · rw [decide_eq_true hl] at a2
    refine ⟨B - C - 1, C + 1, by omega, by omega, by omega, by omega, dn, ?_, ?_⟩
    · have e : B - C - 1 + (C + 1) + 1 = B - C + (C + 1) := by omega
      rw [e]
      exact hl
    · generalize pw (B - C) = pe at *
      simp [b38, exs_cons, seqF_def, startE, bitsD, hB, hC, a1, a2]
  · rw [decide_eq_false hl] at a2
    refine ⟨B - C, C + 1, by omega, by omega, by omega, by omega, by omega, up, ?_⟩
    generalize pw (B - C) = pe at *
    simp [b38, exs_cons, seqF_def, startE, bitsD, hB, hC, a1, a2]
end
end Vp.U

end

section
set_option Elab.async false
set_option linter.all false
set_option autoImplicit false
set_option maxRecDepth 100000
set_option maxHeartbeats 0
/-! the program's rounding: below -/
namespace Vp.U
open Vp L2 PySem
theorem top_pos {F : Fm} (o : F.Ok) : 1 ≤ ltopV F := by
  have p2 := two_pos F.p
  have h : half F = two F.w * two F.p := half_eq o
  have t2 : two 2 ≤ two F.w := two_le o.w0
  have t3 : two 2 = 4 := rfl
  have h2 : 4 * two F.p ≤ two F.w * two F.p := Int.mul_le_mul_of_nonneg_right (by omega) (by omega)
  unfold ltopV
  split <;> omega
theorem size_top {F : Fm} (o : F.Ok) : size F (ltopV F) = (2 * two F.p - 1) * two (eTop F - 1) := by
  have tf := top_facts o
  have h := tf.2.2.2.2
  unfold steps at h
  rw [if_pos tf.2.2.1, tf.2.2.2.1, tf.1] at h
  exact h
theorem eTop_range {F : Fm} (o : F.Ok) : 2 ≤ eTop F ∧ eTop F < two F.w := by
  have t2 : two 2 ≤ two F.w := two_le o.w0
  have t3 : two 2 = 4 := rfl
  unfold eTop topE
  split <;> omega
/-- the pattern of an exponent and the number of its steps -/
theorem low_of {F : Fm} (o : F.Ok) {N T e c : Int} (T0 : 0 < T) (e0 : 0 ≤ e) (hN : N < size F (ltopV F) * T)
    (hc : c = N / (T * two ((if 1 > e then 1 else e) - 1))) (c0 : 0 ≤ c) (h1 : e = 0 → c < two F.p) (h2 : 1 ≤ e → two F.p ≤ c ∧ c < 2 * two F.p) : IsLow F N T (e * two F.p + c % two F.p) := by
  have lt := ltop_lt o
  have p2 := two_pos F.p
  have er := eTop_range o
  have tj := two_pos ((if 1 > e then 1 else e) - 1)
  have dm := Int.mul_ediv_add_emod N (T * two ((if 1 > e then 1 else e) - 1))
  have dp : 0 < T * two ((if 1 > e then 1 else e) - 1) := Int.mul_pos T0 tj
  have d0 := Int.emod_nonneg N (show T * two ((if 1 > e then 1 else e) - 1) ≠ 0 by omega)
  have d1 := Int.emod_lt_of_pos N dp
  rw [← hc] at dm
  generalize hm : (if 1 > e then 1 else e) = m at *
  have s1 : c * two (m - 1) * T ≤ N := by
    have : T * two (m - 1) * c = c * two (m - 1) * T := by grind
    omega
  have s2 : N < (c + 1) * two (m - 1) * T := by
    have : T * two (m - 1) * c = c * two (m - 1) * T := by grind
    have e2 : (c + 1) * two (m - 1) * T = c * two (m - 1) * T + T * two (m - 1) := by grind
    omega
  -- the rest
  have hf : 0 ≤ c % two F.p ∧ c % two F.p < two F.p := ⟨Int.emod_nonneg _ (by omega), Int.emod_lt_of_pos _ p2⟩
  have hf2 : 1 ≤ e → c % two F.p = c - two F.p := fun h => by
    have g := h2 h
    have : c = (c - two F.p) + two F.p * 1 := by omega
    rw [this, Int.add_mul_emod_self_left, Int.emod_eq_of_lt (by omega) (by omega)]
    omega
  have hf1 : e = 0 → c % two F.p = c := fun h => Int.emod_eq_of_lt c0 (h1 h)
  have ct : c * two (m - 1) < size F (ltopV F) := Int.lt_of_mul_lt_mul_right (Int.lt_of_le_of_lt s1 hN) (by omega)
  have ew : e ≤ eTop F := by
    by_cases h : 1 ≤ e
    · have em : m = e := by rw [← hm]; split <;> omega
      have g := h2 h
      rw [size_top o, em] at ct
      by_cases z : e ≤ eTop F
      · exact z
      · have t1 : 2 * two (eTop F - 1) ≤ two (e - 1) := by
          rw [← two_succ (by omega)]
          exact two_le (by omega)
        have t2 := two_pos (eTop F - 1)
        have g1 : two F.p * two (e - 1) ≤ c * two (e - 1) := Int.mul_le_mul_of_nonneg_right g.1 (by have := two_pos (e - 1); omega)
        have g2 : two F.p * (2 * two (eTop F - 1)) ≤ two F.p * two (e - 1) := Int.mul_le_mul_of_nonneg_left t1 (by omega)
        have g3 : (2 * two F.p - 1) * two (eTop F - 1) = two F.p * (2 * two (eTop F - 1)) - two (eTop F - 1) := by grind
        omega
    · omega
  obtain ⟨q1, q2⟩ := split_pat o (e := e) (f := c % two F.p) e0 (by omega) hf.1 hf.2
  have sz : size F (e * two F.p + c % two F.p) = c * two (m - 1) := by
    rw [size_of_parts q1 q2 e0]
    by_cases z : e = 0
    · have em : m = 1 := by rw [← hm]; split <;> omega
      rw [if_pos z, hf1 z, em, show two (1 - 1) = 1 from rfl, Int.mul_one]
    · have em : m = e := by rw [← hm]; split <;> omega
      rw [if_neg z, hf2 (by omega), em]
      congr 1
      omega
  have e1m : e1 F (e * two F.p + c % two F.p) = m := by
    unfold e1
    rw [q1, ← hm]
  have x0 : 0 ≤ e * two F.p + c % two F.p := by
    have := Int.mul_nonneg e0 (show 0 ≤ two F.p by omega)
    omega
  have xh : e * two F.p + c % two F.p < half F := by
    rw [half_eq o]
    have h1 : (e + 1) * two F.p ≤ two F.w * two F.p := Int.mul_le_mul_of_nonneg_right (by omega) (by omega)
    rw [Int.add_mul, Int.one_mul] at h1
    omega
  generalize e * two F.p + c % two F.p = x at *
  have xl : x < ltopV F := by
    by_cases z : x < ltopV F
    · exact z
    · have := size_mono_le o (x := ltopV F) (y := x) lt.1 (by omega) xh
      omega
  refine ⟨x0, by omega, by rw [sz]; exact s1, .inr ?_⟩
  rw [size_succ o x0 (by omega), sz, e1m]
  have : c * two (m - 1) + two (m - 1) = (c + 1) * two (m - 1) := by grind
  rw [this]
  exact s2
theorem red_zero {a b : Int} (b0 : 0 < b) : (red a b).1 = 0 ↔ a = 0 := by
  have e := red_eq (t := a) b0
  have p := red_pos (t := a) b0
  constructor
  · intro h
    rw [h, Int.zero_mul] at e
    rcases Int.mul_eq_zero.mp e.symm with h | h
    · exact h
    · omega
  · intro h
    subst h
    rw [Int.zero_mul] at e
    rcases Int.mul_eq_zero.mp e with h | h
    · exact h
    · omega
section
variable {tab : Nat → Option Fn} {gl : Nat → Option D} {wn k : Nat} {F : Fm}
theorem floor_of {q : Int × Int} {n : Nat} (A : Ag tab [10]) (hq : Sh n q) (hn : n ≤ 9000) : callN tab gl wn (k + 1) 10 [fr q] = some (I (q.1 / q.2)) := by
  have d1 : divOk q.2 = true := divOk_pow 8999 hq.pos (Nat.lt_of_lt_of_le hq.bot (pow_mono (by omega))) (by omega)
  rw [callN_eq (A.get (i := 10) (by decide)) rfl]
  generalize callN tab gl wn k = cf at *
  simp [b10, exs_cons, seqF_def, startE, d1]
theorem below {a b : Int} {n : Nat} (A : Ag tab [2, 3, 6, 7, 8, 9, 10, 11, 12, 13, 14, 15, 17, 18, 19, 38, 39]) (W : 64 ≤ wn) (o : F.Mid) (a0 : 0 ≤ a) (b0 : 0 < b) (hs : Sh n (red a b)) (hn : n ≤ 4000) :
    ∃ x, IsLow F (a * S F) b x ∧ callN tab gl wn (k + 5) 39 [F.d, fr (red a b)] = some (I x) := by
  have lt := ltop_lt o.ok
  have Sp := S_pos F
  have bi := o.bias
  have p0 := o.ok.p0
  have p1 := o.ok.p1
  have tw := o.tw
  have p2 := two_pos F.p
  have tf := top_facts o.ok
  have a1 := at_k (k := k + 4) (fun k => greatest (gl := gl) (k := k) (F := F) (s := 0) (A.sub (l' := [9, 13, 15, 19]) (by decide)) W o.ok (by omega) (by omega)) (by omega)
  rw [tf.1] at a1
  have a2 := psize (gl := gl) (k := k) (x := ltopV F) (A.sub (l' := [2, 3, 6, 9, 11, 12, 14, 17, 18]) (by decide)) W o
  have a3 := pless (gl := gl) (wn := wn) (k := k + 3) (A.sub (l' := [8]) (by decide)) hs (o.size_sh (x := ltopV F)) (by omega)
  rw [red_less b0 Sp] at a3
  have i0 : ixD (fr (red a b)) (.int 0) = some (I (red a b).1) := fr0
  have rz := red_zero (a := a) b0
  by_cases h1 : a * S F < size F (ltopV F) * b
  · rw [decide_eq_true h1] at a3
    by_cases h2 : a = 0
    · subst h2
      refine ⟨0, ⟨by omega, lt.1, ?_, .inr ?_⟩, ?_⟩
      · rw [size_zero o.ok]; omega
      · have tp := top_pos o.ok
        have s1 := size_mono o.ok (x := 0) (y := 0 + 1) (by omega) (by omega) (by omega)
        rw [size_zero o.ok] at s1
        have := Int.mul_pos s1 b0
        omega
      · rw [callN_eq (A.get (i := 39) (by decide)) rfl]
        change callN tab gl wn (k + 4) _ _ = _ at a3
        generalize callN tab gl wn (k + 4) = cf at *
        have r0 := rz.mpr rfl
        rw [r0] at i0
        generalize red 0 b = ra at *
        generalize red (size F (ltopV F)) (S F) = rt at *
        simp [b39, exs_cons, seqF_def, startE, a1, a2, a3, i0, r0]
    · obtain ⟨t, M, M0, M1, t0, t1, g1, g2, a4⟩ := exponent_of (gl := gl) (k := k + 1) (A.sub (l' := [2, 8, 9, 11, 38]) (by decide)) W (show 0 < a by omega) b0 hs hn
      have a5 := at_k (k := k + 4) (fun k => bias_of (gl := gl) (k := k) (F := F) (A.sub (l' := [9, 12]) (by decide)) W o.ok) (by omega)
      -- the exponent
      generalize he' : t + bias F = e' at *
      have hlow : low F = 1 - bias F - F.p := rfl
      have low0 := low_le o.ok
      have SM : S F * two M = two (M - low F) := by
        unfold S
        rw [two_mulc (by omega) M0]
        congr 1
        omega
      have hi : 0 ≤ e' → a * S F < two (e' + F.p) * b := fun h => by
        refine Int.lt_of_mul_lt_mul_right (a := two M) ?_ (by have := two_pos M; omega)
        have e3 : a * S F * two M = (a * two M) * S F := by grind
        have e4 : two (e' + F.p) * b * two M = (two (t + M + 1) * b) * S F := by
          have : two (e' + F.p) * two M = two (t + M + 1) * S F := by
            unfold S
            rw [two_mulc (by omega) M0, two_mulc (by omega) (by omega)]
            congr 1
            omega
          have q : two (e' + F.p) * b * two M = (two (e' + F.p) * two M) * b := by grind
          rw [q, this]
          grind
        rw [e3, e4]
        exact Int.mul_lt_mul_of_pos_right g2 Sp
      have lo' : 1 ≤ e' → two (e' - 1 + F.p) * b ≤ a * S F := fun h => by
        refine Int.le_of_mul_le_mul_right (a := two M) ?_ (two_pos M)
        have e3 : a * S F * two M = (a * two M) * S F := by grind
        have e4 : two (e' - 1 + F.p) * b * two M = (two (t + M) * b) * S F := by
          have : two (e' - 1 + F.p) * two M = two (t + M) * S F := by
            unfold S
            rw [two_mulc (by omega) M0, two_mulc (by omega) (by omega)]
            congr 1
            omega
          have q : two (e' - 1 + F.p) * b * two M = (two (e' - 1 + F.p) * two M) * b := by grind
          rw [q, this]
          grind
        rw [e3, e4]
        exact Int.mul_le_mul_of_nonneg_right g1 (by omega)
      have hi0 : e' ≤ 0 → a * S F < two F.p * b := fun h => by
        refine Int.lt_of_mul_lt_mul_right (a := two M) ?_ (by have := two_pos M; omega)
        have e3 : a * S F * two M = (a * two M) * S F := by grind
        have e4 : two (t + M + 1) * S F ≤ two F.p * two M := by
          unfold S
          rw [two_mulc (by omega) M0, two_mulc (by omega) (by omega)]
          exact two_le (by omega)
        have e5 : two F.p * b * two M = (two F.p * two M) * b := by grind
        have e6 : (two (t + M + 1) * S F) * b ≤ (two F.p * two M) * b := Int.mul_le_mul_of_nonneg_right e4 (by omega)
        have e7 : (a * two M) * S F < (two (t + M + 1) * b) * S F := Int.mul_lt_mul_of_pos_right g2 Sp
        have e8 : (two (t + M + 1) * b) * S F = (two (t + M + 1) * S F) * b := by grind
        rw [e3, e5]
        omega
      generalize he : (if (0 : Int) > e' then 0 else e') = e at *
      have e0 : 0 ≤ e := by rw [← he]; split <;> omega
      have e0' : e = 0 → e' ≤ 0 := fun h => by rw [h] at he; split at he <;> omega
      have e1' : 1 ≤ e → e = e' := fun h => by split at he <;> omega
      have low' := low_of o.ok (N := a * S F) (T := b) (e := e) (c := a * S F / (b * two ((if 1 > e then 1 else e) - 1))) b0 e0 h1 rfl
      generalize hm : (if (1 : Int) > e then 1 else e) = m at *
      have m1 : 1 ≤ m := by rw [← hm]; split <;> omega
      have em1 : 1 ≤ e → m = e := fun h => by rw [← hm]; split <;> omega
      have em0 : e = 0 → m = 1 := fun h => by rw [← hm]; split <;> omega
      have mb : m ≤ 6000 := by
        rcases (show e = 0 ∨ 1 ≤ e by omega) with z | z
        · rw [em0 z]; omega
        · rw [em1 z, e1' z]; omega
      have pwe : pw (m - bias F - F.p) = red (two (m - 1)) (S F) := by
        have := pw_red (e := m - bias F - F.p) (M := -low F) (by omega) (by omega)
        rw [this]
        unfold S
        congr 2
        omega
      have a6 := ppower (gl := gl) (wn := wn) (k := k + 2) (e := m - bias F - F.p) (A.sub (l' := [2, 9, 11]) (by decide)) W (by omega)
      have hsp : Sh 3900 (red (two (m - 1)) (S F)) ∨ 3900 ≤ m := by
        by_cases z : m < 3900
        · left
          rw [← pwe]
          exact pw_sh (by omega)
        · right; omega
      have ml : m < 3900 := by
        rcases (show e = 0 ∨ 1 ≤ e by omega) with z | z
        · rw [em0 z]; omega
        · -- below the greatest pattern
          have er := eTop_range o.ok
          rw [em1 z]
          by_cases y : e < 3900
          · exact y
          · have q1 := lo' (by rw [← e1' z]; exact z)
            rw [← e1' z] at q1
            have q2 : two (e - 1 + F.p) < size F (ltopV F) := Int.lt_of_mul_lt_mul_right (Int.lt_of_le_of_lt q1 h1) (by omega)
            rw [size_top o.ok] at q2
            have q3 : two (eTop F - 1 + (F.p + 1)) ≤ two (e - 1 + F.p) := two_le (by omega)
            rw [two_add (by omega) (by omega), two_succ p0] at q3
            have q4 : (2 * two F.p - 1) * two (eTop F - 1) = two (eTop F - 1) * (2 * two F.p) - two (eTop F - 1) := by grind
            have := two_pos (eTop F - 1)
            omega
      have hsp : Sh 3900 (red (two (m - 1)) (S F)) := by
        rw [← pwe]
        exact pw_sh (by omega)
      rw [pwe] at a6
      have tm := two_pos (m - 1)
      have rp := red_top_pos Sp tm
      have a7 := pover (gl := gl) (wn := wn) (k := k + 2) (A.sub (l' := [2, 7]) (by decide)) hs hsp rp (by omega)
      have oc : overF (red a b) (red (two (m - 1)) (S F)) = red (a * S F) (b * two (m - 1)) := red_over b0 Sp tm
      have hso : Sh 7900 (overF (red a b) (red (two (m - 1)) (S F))) := by
        have := Sh.red (t := (red a b).1 * (red (two (m - 1)) (S F)).2) (b := (red a b).2 * (red (two (m - 1)) (S F)).1) (Int.mul_pos hs.pos rp) (mul_lt hs.top hsp.bot) (mul_lt hs.bot hsp.top)
        exact this.mono (by omega)
      have a8 := floor_of (gl := gl) (wn := wn) (k := k + 3) (A.sub (l' := [10]) (by decide)) hso (by omega)
      rw [oc, red_floor (Int.mul_pos b0 tm)] at a8
      rw [oc] at a7
      have a9 := raised2 (gl := gl) (k := k + 3) (e := F.p) (A.sub (l' := [9]) (by decide)) W (by omega) (by omega)
      generalize hc : a * S F / (b * two (m - 1)) = c at *
      have c0 : 0 ≤ c := by
        rw [← hc]
        exact Int.ediv_nonneg (Int.mul_nonneg a0 (by omega)) (Int.mul_nonneg (by omega) (by omega))
      have a10 := at_k (k := k + 4) (fun k => pattern_of (gl := gl) (k := k) (F := F) (s := 0) (e := e) (f := c % two F.p) (A.sub (l' := [9, 15]) (by decide)) W o.ok (by omega) (by omega) e0 (by
        rcases (show e = 0 ∨ 1 ≤ e by omega) with z | z
        · omega
        · rw [em1 z] at ml; omega)) (by omega)
      rw [Int.zero_mul, Int.zero_add] at a10
      refine ⟨e * two F.p + c % two F.p, low' c0 (fun z => ?_) (fun z => ?_), ?_⟩
      · rw [← hc, em0 z]
        refine Int.ediv_lt_of_lt_mul (Int.mul_pos b0 (two_pos _)) ?_
        rw [show two (1 - 1) = 1 from rfl, Int.mul_one]
        exact hi0 (e0' z)
      · have g := e1' z
        have q1 := lo' (by rw [← g]; exact z)
        have q2 := hi (by omega)
        rw [← g] at q1 q2
        have em := em1 z
        constructor
        · rw [← hc, em]
          refine (Int.le_ediv_iff_mul_le (Int.mul_pos b0 (two_pos _))).mpr ?_
          have e3 : two F.p * (b * two (e - 1)) = two (e - 1 + F.p) * b := by
            rw [two_add (by omega) p0]
            grind
          rw [e3]
          exact q1
        · rw [← hc, em]
          refine Int.ediv_lt_of_lt_mul (Int.mul_pos b0 (two_pos _)) ?_
          have e3 : 2 * two F.p * (b * two (e - 1)) = two (e + F.p) * b := by
            have : e + F.p = (e - 1) + 1 + F.p := by omega
            rw [this, two_add (by omega) p0, two_succ (by omega)]
            grind
          rw [e3]
          exact q2
      · rw [callN_eq (A.get (i := 39) (by decide)) rfl]
        change callN tab gl wn (k + 4) _ _ = _ at a3
        change callN tab gl wn (k + 4) _ _ = _ at a4
        change callN tab gl wn (k + 4) _ _ = _ at a6
        change callN tab gl wn (k + 4) _ _ = _ at a7
        change callN tab gl wn (k + 4) _ _ = _ at a8
        change callN tab gl wn (k + 4) _ _ = _ at a9
        generalize callN tab gl wn (k + 4) = cf at *
        have r0 : ¬ (red a b).1 = 0 := fun z => h2 (rz.mp z)
        generalize red (a * S F) (b * two (m - 1)) = ro at *
        generalize red (two (m - 1)) (S F) = rw' at *
        generalize red a b = ra at *
        generalize red (size F (ltopV F)) (S F) = rt at *
        have p3 : 0 < two F.p := p2
        subst he' hm he
        refine congrArg (fun z => Option.bind z outF) (?_ : _ = some (Fl.rt _))
        refine exs_nx (E' := [.f F.d, .f (fr ra), .u, .u, .u]) (by simp [startE, a1, a2, a3]) ?_
        refine exs_nx (E' := [.f F.d, .f (fr ra), .u, .u, .u]) (by simp [i0, r0]) ?_
        refine exs_nx (E' := [.f F.d, .f (fr ra), .f (I (if (0 : Int) > t + bias F then 0 else t + bias F)), .u, .u]) (by simp [a4, a5]) ?_
        generalize (if (0 : Int) > t + bias F then 0 else t + bias F) = e at *
        refine exs_nx (E' := [.f F.d, .f (fr ra), .f (I e), .f (fr rw'), .u]) (by
          simp at a6
          simp [a5, a6]) ?_
        refine exs_nx (E' := [.f F.d, .f (fr ra), .f (I e), .f (fr rw'), .f (I c)]) (by simp [a7, a8]) ?_
        refine exs_rt ?_
        simp [a9, a10, p3]
  · rw [decide_eq_false h1] at a3
    refine ⟨ltopV F, ⟨lt.1, by omega, by omega, .inl rfl⟩, ?_⟩
    rw [callN_eq (A.get (i := 39) (by decide)) rfl]
    change callN tab gl wn (k + 4) _ _ = _ at a3
    generalize callN tab gl wn (k + 4) = cf at *
    generalize red a b = ra at *
    generalize red (size F (ltopV F)) (S F) = rt at *
    simp [b39, exs_cons, seqF_def, startE, a1, a2, a3]
end
end Vp.U

end

section
set_option Elab.async false
set_option linter.all false
set_option autoImplicit false
set_option maxRecDepth 100000
set_option maxHeartbeats 0
/-! the program's rounding: whole -/
namespace Vp.U
open Vp L2 PySem
theorem topE_p {F : Fm} (o : F.Ok) (hf : F.full = false) : topE F * two F.p = ltopV F + 1 := by
  unfold ltopV topE
  rw [hf, if_neg (by decide), half_eq o, Int.sub_mul]
  omega
section
variable {tab : Nat → Option Fn} {gl : Nat → Option D} {wn k : Nat} {F : Fm}
theorem pendless {s : Int} (A : Ag tab [9, 13, 15, 20]) (W : 64 ≤ wn) (o : F.Ok) (s0 : 0 ≤ s) (s1 : s ≤ 1) : callN tab gl wn (k + 3) 20 [F.d, I s] = some (I (s * half F + topE F * two F.p)) := by
  have t1 := two20 (e := F.w) (by have := o.w1; omega)
  have t2 := two_pos F.w
  have a1 := top_exponent (gl := gl) (k := k) (F := F) (A.sub (l' := [9, 13]) (by decide)) W o
  have a2 := pattern_of (gl := gl) (k := k) (F := F) (s := s) (e := topE F) (f := 0) (A.sub (l' := [9, 15]) (by decide)) W o s0 (by omega) (by unfold topE; omega) (by unfold topE; omega)
  have e : (s * two F.w + topE F) * two F.p + 0 = s * half F + topE F * two F.p := by
    rw [half_eq o]
    grind
  rw [e] at a2
  rw [callN_eq (A.get (i := 20) (by decide)) rfl]
  generalize callN tab gl wn (k + 2) = cf at *
  simp [b20, exs_cons, seqF_def, startE, a1, a2]
theorem pno_number (A : Ag tab [9, 13, 15, 21]) (W : 64 ≤ wn) (o : F.Ok) (hp : 1 ≤ F.p) : callN tab gl wn (k + 3) 21 [F.d] = some (I (topE F * two F.p + two (F.p - 1))) := by
  have t1 := two20 (e := F.w) (by have := o.w1; omega)
  have t2 := two_pos F.w
  have a1 := top_exponent (gl := gl) (k := k) (F := F) (A.sub (l' := [9, 13]) (by decide)) W o
  have a2 := pattern_of (gl := gl) (k := k) (F := F) (s := 0) (e := topE F) (f := two (F.p - 1)) (A.sub (l' := [9, 15]) (by decide)) W o (by omega) (by omega) (by unfold topE; omega) (by unfold topE; omega)
  have a3 := raised2 (gl := gl) (k := k + 1) (e := F.p - 1) (A.sub (l' := [9]) (by decide)) W (by omega) (by have := o.p1; omega)
  rw [Int.zero_mul, Int.zero_add] at a2
  rw [callN_eq (A.get (i := 21) (by decide)) rfl]
  change callN tab gl wn (k + 2) _ _ = _ at a3
  generalize callN tab gl wn (k + 2) = cf at *
  simp [b21, exs_cons, seqF_def, startE, a1, a2, a3]
theorem ptop_size (A : Ag tab [2, 9, 11, 12, 13, 22]) (W : 64 ≤ wn) (o : F.Mid) : callN tab gl wn (k + 3) 22 [F.d] = some (fr (pw (topE F - bias F))) := by
  have b := o.bias
  have tw := o.tw
  have a1 := top_exponent (gl := gl) (k := k) (F := F) (A.sub (l' := [9, 13]) (by decide)) W o.ok
  have a2 := bias_of (gl := gl) (k := k) (F := F) (A.sub (l' := [9, 12]) (by decide)) W o.ok
  have a3 := ppower (gl := gl) (wn := wn) (k := k) (e := topE F - bias F) (A.sub (l' := [2, 9, 11]) (by decide)) W (by unfold topE; omega)
  rw [callN_eq (A.get (i := 22) (by decide)) rfl]
  generalize callN tab gl wn (k + 2) = cf at *
  simp [b22, exs_cons, seqF_def, startE, a1, a2, a3]
theorem above {x : Int} (A : Ag tab [9, 13, 15, 19, 20, 40]) (W : 64 ≤ wn) (o : F.Ok) (x1 : x ≤ ltopV F) : callN tab gl wn (k + 4) 40 [F.d, I x] = some (I (if F.full = false ∨ x < ltopV F then x + 1 else x)) := by
  have a1 := greatest (gl := gl) (k := k) (F := F) (s := 0) (A.sub (l' := [9, 13, 15, 19]) (by decide)) W o (by omega) (by omega)
  have a2 := pendless (gl := gl) (k := k) (F := F) (s := 0) (A.sub (l' := [9, 13, 15, 20]) (by decide)) W o (by omega) (by omega)
  rw [(top_facts o).1] at a1
  rw [Int.zero_mul, Int.zero_add] at a2
  rw [callN_eq (A.get (i := 40) (by decide)) rfl]
  generalize callN tab gl wn (k + 3) = cf at *
  have kf := kd_full (F := F)
  by_cases h : x = ltopV F
  · cases hf : F.full with
    | true =>
      rw [hf] at kf
      simp [b40, exs_cons, seqF_def, startE, a1, kf, h]
    | false =>
      rw [hf] at kf
      rw [topE_p o hf] at a2
      simp [b40, exs_cons, seqF_def, startE, a1, a2, kf, h]
  · have : x < ltopV F := by omega
    simp [b40, exs_cons, seqF_def, startE, a1, h, this]
theorem stand_in {x : Int} (A : Ag tab [2, 3, 6, 9, 11, 12, 13, 14, 15, 17, 18, 20, 22, 41]) (W : 64 ≤ wn) (o : F.Mid) : callN tab gl wn (k + 5) 41 [F.d, I x] = some (fr (red (size F x) (S F))) := by
  have a1 := at_k (k := k + 4) (fun k => pendless (gl := gl) (k := k) (F := F) (s := 0) (A.sub (l' := [9, 13, 15, 20]) (by decide)) W o.ok (by omega) (by omega)) (by omega)
  have a2 := at_k (k := k + 4) (fun k => ptop_size (gl := gl) (k := k) (F := F) (A.sub (l' := [2, 9, 11, 12, 13, 22]) (by decide)) W o) (by omega)
  have a3 := psize (gl := gl) (k := k) (x := x) (A.sub (l' := [2, 3, 6, 9, 11, 12, 14, 17, 18]) (by decide)) W o
  rw [Int.zero_mul, Int.zero_add] at a1
  rw [callN_eq (A.get (i := 41) (by decide)) rfl]
  generalize callN tab gl wn (k + 4) = cf at *
  have kf := kd_ieee (F := F)
  cases hf : F.full with
  | true =>
    rw [hf] at kf
    simp [b41, exs_cons, seqF_def, startE, a3, kf]
  | false =>
    rw [hf] at kf
    rw [size_behind o.ok hf] at a2
    rw [topE_p o.ok hf] at a1
    by_cases h : x = ltopV F + 1
    · subst h
      generalize red (size F (ltopV F + 1)) (S F) = r at *
      simp [b41, exs_cons, seqF_def, startE, a1, a2, kf]
    · generalize red (size F (ltopV F + 1)) (S F) = r at *
      simp [b41, exs_cons, seqF_def, startE, a1, a3, kf, h]
theorem nearer {a b x : Int} {n : Nat} (A : Ag tab [2, 3, 5, 6, 8, 9, 11, 12, 13, 14, 15, 17, 18, 20, 22, 41, 42]) (W : 64 ≤ wn) (o : F.Mid) (b0 : 0 < b) (hs : Sh n (red a b)) (hn : n ≤ 1800) :
    callN tab gl wn (k + 6) 42 [F.d, fr (red a b), I x, I (x + 1)] = some (I (if size F (x + 1) * b - a * S F < a * S F - size F x * b ∨ size F (x + 1) * b - a * S F = a * S F - size F x * b ∧ x % 2 = 1 then x + 1 else x)) := by
  have Sp := S_pos F
  have a1 : ∀ x, callN tab gl wn (k + 5) 41 [F.d, I x] = some (fr (red (size F x) (S F))) := fun x => stand_in (gl := gl) (k := k) (x := x) (A.sub (by decide)) W o
  have a6 := pminus (gl := gl) (wn := wn) (k := k + 3) (A.sub (l' := [2, 5]) (by decide)) hs (o.size_sh (x := x)) (by omega)
  have a7 := pminus (gl := gl) (wn := wn) (k := k + 3) (A.sub (l' := [2, 5]) (by decide)) (o.size_sh (x := x + 1)) hs (by omega)
  have h6 := hs.minus (o.size_sh (x := x))
  have h7 := (o.size_sh (x := x + 1)).minus hs
  rw [red_minus b0 Sp] at a6 h6
  rw [red_minus Sp b0, Int.mul_comm (S F) b] at a7 h7
  have bS : 0 < b * S F := Int.mul_pos b0 Sp
  have a8 := pless (gl := gl) (wn := wn) (k := k + 4) (A.sub (l' := [8]) (by decide)) h6 h7 (by omega)
  have a9 := pless (gl := gl) (wn := wn) (k := k + 4) (A.sub (l' := [8]) (by decide)) h7 h6 (by omega)
  have lc : ∀ u v : Int, decide (u * (b * S F) < v * (b * S F)) = decide (u < v) := fun u v => by
    rw [decide_eq_decide]
    exact ⟨fun h => Int.lt_of_mul_lt_mul_right h (by omega), fun h => Int.mul_lt_mul_of_pos_right h bS⟩
  rw [red_less bS bS, lc] at a8 a9
  rw [callN_eq (A.get (i := 42) (by decide)) rfl]
  change callN tab gl wn (k + 5) _ _ = _ at a6
  change callN tab gl wn (k + 5) _ _ = _ at a7
  change callN tab gl wn (k + 5) _ _ = _ at a8
  change callN tab gl wn (k + 5) _ _ = _ at a9
  have b1 := a1 x
  have b2 := a1 (x + 1)
  generalize callN tab gl wn (k + 5) = cf at *
  generalize size F (x + 1) * b - a * S F = U at *
  generalize a * S F - size F x * b = D at *
  generalize red U (b * S F) = ru at *
  generalize red D (b * S F) = rd at *
  generalize red (size F (x + 1)) (S F) = rs at *
  generalize red (size F x) (S F) = rl at *
  generalize red a b = ra at *
  by_cases h1 : D < U
  · rw [decide_eq_true h1] at a8
    rw [if_neg (by omega)]
    simp [b42, exs_cons, seqF_def, startE, b1, b2, a6, a7, a8]
  · rw [decide_eq_false h1] at a8
    by_cases h2 : U < D
    · rw [decide_eq_true h2] at a9
      rw [if_pos (.inl h2)]
      simp [b42, exs_cons, seqF_def, startE, b1, b2, a6, a7, a8, a9]
    · rw [decide_eq_false h2] at a9
      by_cases h3 : x % 2 = 1
      · have h4 : ¬ x % 2 = 0 := by omega
        rw [if_pos (.inr ⟨by omega, h3⟩)]
        simp [b42, exs_cons, seqF_def, startE, b1, b2, a6, a7, a8, a9, h4]
      · have h4 : x % 2 = 0 := by omega
        rw [if_neg (by omega)]
        simp [b42, exs_cons, seqF_def, startE, b1, b2, a6, a7, a8, a9, h4]
def isMode (m : Str) : Prop := m = evenS ∨ m = downS ∨ m = upS ∨ m = zeroS
theorem takes_low {m : Str} {s : Int} (A : Ag tab [43]) : callN tab gl wn (k + 1) 43 [.str m, I s] = some (.bl (decide (m = zeroS) || (decide (decide (m = downS) = decide (s = 0))))) := by
  rw [callN_eq (A.get (i := 43) (by decide)) rfl]
  generalize callN tab gl wn k = cf at *
  have e1 : zeroS = ("zero" : String) := rfl
  have e2 : downS = ("down" : String) := rfl
  by_cases h : m = zeroS
  · rw [e1] at h
    simp [b43, exs_cons, seqF_def, startE, h, e1, e2]
  · rw [e1] at h
    simp [b43, exs_cons, seqF_def, startE, h, e1, e2]
theorem rounded_size {m : Str} {s a b : Int} {n : Nat} (A : Ag tab [2, 3, 5, 6, 7, 8, 9, 10, 11, 12, 13, 14, 15, 17, 18, 19, 20, 22, 38, 39, 40, 41, 42, 43, 44]) (W : 64 ≤ wn) (o : F.Mid) (hm : isMode m) (s0 : 0 ≤ s) (s1 : s ≤ 1) (a0 : 0 ≤ a) (b0 : 0 < b) (hs : Sh n (red a b)) (hn : n ≤ 1800) :
    ∃ x, IsLow F (a * S F) b x ∧ callN tab gl wn (k + 7) 44 [F.d, .str m, I s, fr (red a b)] = some (I (rnd F m s (a * S F) b x)) := by
  have Sp := S_pos F
  obtain ⟨x, hx, a1⟩ := below (gl := gl) (k := k + 1) (A.sub (l' := [2, 3, 6, 7, 8, 9, 10, 11, 12, 13, 14, 15, 17, 18, 19, 38, 39]) (by decide)) W o a0 b0 hs (by omega)
  refine ⟨x, hx, ?_⟩
  have a2 := psize (gl := gl) (k := k + 2) (x := x) (A.sub (l' := [2, 3, 6, 9, 11, 12, 14, 17, 18]) (by decide)) W o
  have a3 := above (gl := gl) (k := k + 2) (x := x) (A.sub (l' := [9, 13, 15, 19, 20, 40]) (by decide)) W o.ok hx.x1
  have a4 := nearer (gl := gl) (k := k) (x := x) (A.sub (l' := [2, 3, 5, 6, 8, 9, 11, 12, 13, 14, 15, 17, 18, 20, 22, 41, 42]) (by decide)) W o b0 hs hn
  have a5 := takes_low (gl := gl) (wn := wn) (k := k + 5) (m := m) (s := s) (A.sub (l' := [43]) (by decide))
  have a6 : cmpD .Eq (fr (red (size F x) (S F))) (fr (red a b)) = some (decide (size F x * b = a * S F)) := by
    rw [fr_eq]
    congr 1
    rw [decide_eq_decide, red_inj Sp b0]
  rw [callN_eq (A.get (i := 44) (by decide)) rfl]
  change callN tab gl wn (k + 6) _ _ = _ at a1
  change callN tab gl wn (k + 6) _ _ = _ at a2
  change callN tab gl wn (k + 6) _ _ = _ at a3
  generalize callN tab gl wn (k + 6) = cf at *
  unfold rnd
  generalize red (size F x) (S F) = rl at *
  generalize red a b = ra at *
  by_cases h1 : size F x * b = a * S F
  · rw [decide_eq_true h1] at a6
    rw [if_neg (fun z => z.1 h1)]
    simp [b44, exs_cons, seqF_def, startE, a1, a2, a6]
  · rw [decide_eq_false h1] at a6
    by_cases h2 : F.full = false ∨ x < ltopV F
    · rw [if_pos h2] at a3
      rw [if_pos ⟨h1, h2⟩]
      have x1 : ¬ x + 1 = x := by omega
      have e3 : evenS = ("even" : String) := rfl
      rcases hm with hm | hm | hm | hm
      · have c : ((m = evenS ∧ (size F (x + 1) * b - a * S F < a * S F - size F x * b ∨ size F (x + 1) * b - a * S F = a * S F - size F x * b ∧ x % 2 = 1)) ∨ (m = downS ∧ s = 1) ∨ (m = upS ∧ s = 0)) ↔ (size F (x + 1) * b - a * S F < a * S F - size F x * b ∨ size F (x + 1) * b - a * S F = a * S F - size F x * b ∧ x % 2 = 1) := by
          subst hm
          simp [strs_ne.1, strs_ne.2.1]
        simp only [c]
        generalize (if size F (x + 1) * b - a * S F < a * S F - size F x * b ∨ size F (x + 1) * b - a * S F = a * S F - size F x * b ∧ x % 2 = 1 then x + 1 else x) = y at *
        rw [e3] at hm
        simp [b44, exs_cons, seqF_def, startE, a1, a2, a3, a4, a6, x1, hm]
      · have n1 : ¬ downS = evenS := by decide
        have n2 : ¬ downS = upS := by decide
        have n3 : ¬ downS = zeroS := by decide
        subst hm
        have n4 : ¬ downS = ("even" : String) := n1
        by_cases hz : s = 0
        · subst hz
          simp [n3] at a5
          simp [b44, exs_cons, seqF_def, startE, a1, a2, a3, a5, a6, x1, n1, n2, n4]
        · have z1 : s = 1 := by omega
          subst z1
          simp [n3] at a5
          simp [b44, exs_cons, seqF_def, startE, a1, a2, a3, a5, a6, x1, n1, n2, n4]
      · have n1 : ¬ upS = evenS := by decide
        have n2 : ¬ upS = downS := by decide
        have n3 : ¬ upS = zeroS := by decide
        subst hm
        have n4 : ¬ upS = ("even" : String) := n1
        by_cases hz : s = 0
        · subst hz
          simp [n3, n2] at a5
          simp [b44, exs_cons, seqF_def, startE, a1, a2, a3, a5, a6, x1, n1, n2, n4]
        · have z1 : s = 1 := by omega
          subst z1
          simp [n3, n2] at a5
          simp [b44, exs_cons, seqF_def, startE, a1, a2, a3, a5, a6, x1, n1, n2, n4]
      · subst hm
        have n4 : ¬ zeroS = ("even" : String) := strs_ne.2.2.2.1
        have n5 := strs_ne.2.2.2
        simp at a5
        simp [b44, exs_cons, seqF_def, startE, a1, a2, a3, a5, a6, x1, n4, n5]
    · rw [if_neg h2] at a3
      rw [if_neg (fun z => h2 z.2)]
      simp [b44, exs_cons, seqF_def, startE, a1, a2, a3, a6]
theorem rounded {m : Str} {s a b : Int} {n : Nat} (A : Ag tab [2, 3, 5, 6, 7, 8, 9, 10, 11, 12, 13, 14, 15, 17, 18, 19, 20, 22, 38, 39, 40, 41, 42, 43, 44, 45]) (W : 64 ≤ wn) (o : F.Mid) (hm : isMode m) (s0 : 0 ≤ s) (s1 : s ≤ 1) (a0 : 0 ≤ a) (b0 : 0 < b) (hs : Sh n (red a b)) (hn : n ≤ 1800) :
    ∃ x, IsLow F (a * S F) b x ∧ callN tab gl wn (k + 8) 45 [F.d, .str m, I s, fr (red a b)] = some (I (rnd F m s (a * S F) b x + s * half F)) := by
  obtain ⟨x, hx, a1⟩ := rounded_size (gl := gl) (k := k) (A.sub (l' := [2, 3, 5, 6, 7, 8, 9, 10, 11, 12, 13, 14, 15, 17, 18, 19, 20, 22, 38, 39, 40, 41, 42, 43, 44]) (by decide)) W o hm s0 s1 a0 b0 hs hn
  refine ⟨x, hx, ?_⟩
  have a2 := at_k (k := k + 7) (fun k => pattern_of (gl := gl) (k := k) (F := F) (s := 1) (e := 0) (f := 0) (A.sub (l' := [9, 15]) (by decide)) W o.ok (by omega) (by omega) (by omega) (by omega)) (by omega)
  have e : (1 * two F.w + 0) * two F.p + 0 = half F := by
    rw [half_eq o.ok, Int.one_mul, Int.add_zero, Int.add_zero]
  rw [e] at a2
  have ms : mulOk s (half F) = true := mulOk_l (by omega) (by omega)
  rw [callN_eq (A.get (i := 45) (by decide)) rfl]
  generalize callN tab gl wn (k + 7) = cf at *
  generalize red a b = ra at *
  simp [b45, exs_cons, seqF_def, startE, a1, a2, ms]
end
end Vp.U

end

section
set_option Elab.async false
set_option linter.all false
set_option autoImplicit false
set_option maxRecDepth 100000
set_option maxHeartbeats 0
/-! totals rounded -/
namespace Vp.U
open Vp L2 PySem
@[simp] theorem ofStr_inj_old {a b : String} : (Str.ofString a = Str.ofString b) = (a = b) := by
  refine propext ⟨fun h => ?_, fun h => congrArg _ h⟩
  rw [Str.ofString_eq_toList, Str.ofString_eq_toList] at h
  have h : a.toList.map Char.toNat = b.toList.map Char.toNat := congrArg (fun s : Str => s.cps.toList) h
  have inj : ∀ {x y : Char}, x.toNat = y.toNat → x = y := fun {x y} h => Char.ext (UInt32.toNat_inj.mp h)
  have key : ∀ (l m : List Char), l.map Char.toNat = m.map Char.toNat → l = m := by
    intro l
    induction l with
    | nil => intro m h; cases m with | nil => rfl | cons _ _ => cases h
    | cons x l ih =>
      intro m h
      cases m with
      | nil => cases h
      | cons y m =>
        rw [List.map_cons, List.map_cons, List.cons.injEq] at h
        rw [inj h.1, ih m h.2]
  exact String.toList_inj.mp (key _ _ h)
open Classical in
noncomputable def lowV (F : Fm) (N T : Int) : Int := if h : ∃ x, IsLow F N T x then h.choose else 0
theorem lowV_eq {F : Fm} (o : F.Ok) {N T x : Int} (hT : 0 < T) (h : IsLow F N T x) : lowV F N T = x := by
  have hx : ∃ x, IsLow F N T x := ⟨x, h⟩
  unfold lowV
  rw [dif_pos hx]
  exact hx.choose_spec.uniq o hT h
def kindT (q : Q4) : Str := if 0 < q.e ∨ (0 < q.b ∧ 0 < q.c) then ("none" : String) else if 0 < q.b then ("up" : String) else if 0 < q.c then ("down" : String) else ("number" : String)
def sgn (a : Int) : Int := if a < 0 then 1 else 0
noncomputable def roundQ (F : Fm) (m : Str) (q : Q4) : Int :=
  if 0 < q.e ∨ (0 < q.b ∧ 0 < q.c) then topE F * two F.p + two (F.p - 1)
  else if 0 < q.b then topE F * two F.p
  else if 0 < q.c then half F + topE F * two F.p
  else rnd F m (sgn q.a) (q.a.natAbs : Nat) (S F) (lowV F (q.a.natAbs : Nat) (S F)) + sgn q.a * half F
structure Q4.Good (F : Fm) (q : Q4) : Prop where
  b0 : 0 ≤ q.b
  c0 : 0 ≤ q.c
  e0 : 0 ≤ q.e
  fu : F.full = true → q.b = 0 ∧ q.c = 0 ∧ q.e = 0
theorem Q4.Good.zero {F : Fm} : q0.Good F := ⟨by decide, by decide, by decide, fun _ => ⟨rfl, rfl, rfl⟩⟩
theorem Q4.Good.add {F : Fm} {q r : Q4} (h : q.Good F) (g : r.Good F) : (q.add r).Good F := by
  refine ⟨Int.add_nonneg h.b0 g.b0, Int.add_nonneg h.c0 g.c0, Int.add_nonneg h.e0 g.e0, fun z => ?_⟩
  obtain ⟨a, b, c⟩ := h.fu z
  obtain ⟨a', b', c'⟩ := g.fu z
  exact ⟨by show q.b + r.b = 0; omega, by show q.c + r.c = 0; omega, by show q.e + r.e = 0; omega⟩
theorem Q4.Good.num {F : Fm} (a : Int) : Q4.Good F ⟨a, 0, 0, 0⟩ := ⟨Int.le_refl 0, Int.le_refl 0, Int.le_refl 0, fun _ => ⟨rfl, rfl, rfl⟩⟩
theorem Q4.Good.total {F : Fm} (x : Int) : (totalQ F x).Good F := by
  unfold totalQ
  by_cases hf : F.full = true
  · have : kindS F x = ("number" : String) := by
      unfold kindS
      rw [if_pos (.inl hf)]
    rw [this, if_neg str_ne1, if_neg str_ne3]
    exact Q4.Good.num _
  · split
    · exact ⟨by decide, by decide, by decide, fun z => absurd z hf⟩
    · split
      · unfold endQ
        split
        · exact ⟨by decide, by decide, by decide, fun z => absurd z hf⟩
        · exact ⟨by decide, by decide, by decide, fun z => absurd z hf⟩
      · exact Q4.Good.num _
def Q4.sub (q r : Q4) : Q4 := ⟨q.a - r.a, q.b - r.b, q.c - r.c, q.e - r.e⟩
/-- formats whose totals are not too long -/
structure Fm.W8 (F : Fm) : Prop where
  mid : F.Mid
  w8 : F.w ≤ 8
theorem Fm.Sml.w8 {F : Fm} (o : F.Sml) : F.W8 := ⟨o.mid, by have := o.w2; omega⟩
theorem Fm.W8.bias {F : Fm} (o : F.W8) : 1 ≤ bias F ∧ bias F ≤ 127 := by
  refine ⟨(bias_range o.mid.ok).1, ?_⟩
  unfold Vp.U.bias
  have h2 : two (F.w - 1) ≤ two 7 := two_le (by have := o.w8; omega)
  have e2 : two 7 = 128 := rfl
  omega
theorem Fm.W8.low {F : Fm} (o : F.W8) : -176 ≤ low F ∧ low F ≤ 0 := by
  have b := o.bias
  have := o.mid.ok.p0
  have := o.mid.ok.p1
  unfold Vp.U.low
  omega
theorem Fm.W8.SS {F : Fm} (o : F.W8) : (S F * S F).natAbs < 2 ^ 360 := by
  have l := o.low
  unfold S
  exact Nat.lt_of_lt_of_le (mul_lt (two_lt (n := 180) (by omega) (by omega)) (two_lt (n := 180) (by omega) (by omega))) (pow_mono (by omega))
theorem Fm.W8.sh {F : Fm} (o : F.W8) {a : Int} {n : Nat} (h : a.natAbs < 2 ^ n) : Sh (n + 360) (red ((a.natAbs : Nat) : Int) (S F * S F)) := by
  refine Sh.red (Int.mul_pos (S_pos F) (S_pos F)) ?_ ?_
  · rw [Int.natAbs_natCast]
    exact Nat.lt_of_lt_of_le h (pow_mono (by omega))
  · exact Nat.lt_of_lt_of_le o.SS (pow_mono (by omega))
theorem asg4 {a b c e : D} {E : Env'} {i j l m : Nat} : asgT (.tp [.nm i, .nm j, .nm l, .nm m]) (.tup [a, b, c, e]) E = some ((((E.set i (.f a)).set j (.f b)).set l (.f c)).set m (.f e)) := rfl
theorem abs_nat (a : Int) : (if a < 0 then -a else a) = ((a.natAbs : Nat) : Int) := by split <;> omega
section
variable {tab : Nat → Option Fn} {gl : Nat → Option D} {wn k : Nat} {F : Fm}
theorem kind_of_total {q : Q4} (A : Ag tab [121]) : callN tab gl wn (k + 1) 121 [q.d] = some (.str (kindT q)) := by
  rw [callN_eq (A.get (i := 121) (by decide)) rfl]
  generalize callN tab gl wn k = cf at *
  unfold kindT Q4.d
  by_cases h1 : 0 < q.e
  · simp [b121, exs_cons, seqF_def, startE, asg4, h1]
  · by_cases h2 : 0 < q.b
    · by_cases h3 : 0 < q.c
      · simp [b121, exs_cons, seqF_def, startE, asg4, h1, h2, h3]
      · simp [b121, exs_cons, seqF_def, startE, asg4, h1, h2, h3]
    · by_cases h3 : 0 < q.c
      · simp [b121, exs_cons, seqF_def, startE, asg4, h1, h2, h3]
      · simp [b121, exs_cons, seqF_def, startE, asg4, h1, h2, h3]
theorem unit_of (A : Ag tab [2, 9, 11, 12, 110, 111]) (W : 64 ≤ wn) (o : F.W8) : callN tab gl wn (k + 4) 111 [F.d] = some (fr (unitF F)) := by
  have a1 := lowest_power (gl := gl) (k := k) (F := F) (A.sub (l' := [9, 12, 110]) (by decide)) W o.mid.ok
  have l := o.low
  have a2 := ppower (gl := gl) (wn := wn) (k := k + 1) (e := 2 * low F) (A.sub (l' := [2, 9, 11]) (by decide)) W (by omega)
  rw [unit_pw o.mid.ok] at a2
  have mo : mulOk 2 (low F) = true := mulOk_l (by omega) (by omega)
  rw [callN_eq (A.get (i := 111) (by decide)) rfl]
  change callN tab gl wn (k + 3) _ _ = _ at a2
  generalize callN tab gl wn (k + 3) = cf at *
  simp [b111, exs_cons, seqF_def, startE, a1, a2, mo]
theorem sign_and_size {q : Q4} {n : Nat} (A : Ag tab [2, 3, 6, 9, 11, 12, 110, 111, 122]) (W : 64 ≤ wn) (o : F.W8) (h : q.a.natAbs < 2 ^ n) (hn : n ≤ 4000) :
    callN tab gl wn (k + 5) 122 [F.d, q.d] = some (.tup [I (sgn q.a), fr (red (q.a.natAbs : Nat) (S F * S F))]) := by
  have a1 := unit_of (gl := gl) (k := k) (F := F) (A.sub (l' := [2, 9, 11, 12, 110, 111]) (by decide)) W o
  have a2 := whole (gl := gl) (wn := wn) (k := k + 3) (n := (q.a.natAbs : Nat)) (A.sub (l' := [3]) (by decide))
  have SSp : 0 < S F * S F := Int.mul_pos (S_pos F) (S_pos F)
  have h1 : Sh (n + 1) (((q.a.natAbs : Nat) : Int), (1 : Int)) := by
    refine ⟨Int.one_pos, ?_, ?_⟩
    · show (((q.a.natAbs : Nat) : Int)).natAbs < _
      rw [Int.natAbs_natCast]
      exact Nat.lt_of_lt_of_le h (pow_mono (by omega))
    · exact Nat.lt_of_lt_of_le (by decide : 1 < 2 ^ 1) (pow_mono (by omega))
  have h2 : Sh 360 (unitF F) := by
    rw [unitF_red o.mid.ok]
    refine Sh.red SSp ?_ o.SS
    exact Nat.lt_of_lt_of_le (by decide : 1 < 2 ^ 1) (pow_mono (by omega))
  have a3 := ptimes (gl := gl) (wn := wn) (k := k + 2) (A.sub (l' := [2, 6]) (by decide)) h1 h2 (by omega)
  rw [unitF_red o.mid.ok, red_int, red_times Int.one_pos SSp, Int.mul_one, Int.one_mul] at a3
  rw [unitF_red o.mid.ok] at a1
  rw [red_int] at a2
  rw [callN_eq (A.get (i := 122) (by decide)) rfl]
  change callN tab gl wn (k + 4) _ _ = _ at a2
  change callN tab gl wn (k + 4) _ _ = _ at a3
  generalize callN tab gl wn (k + 4) = cf at *
  have i0 : ixD q.d (.int 0) = some (I q.a) := rfl
  have ab := abs_nat q.a
  generalize red ((q.a.natAbs : Nat) : Int) (S F * S F) = r at *
  generalize red ((q.a.natAbs : Nat) : Int) 1 = r1 at *
  generalize red 1 (S F * S F) = r2 at *
  generalize ((q.a.natAbs : Nat) : Int) = na at *
  unfold sgn
  generalize q.a = qa at *
  by_cases hq : qa < 0
  · rw [if_pos hq] at ab
    simp [b122, exs_cons, seqF_def, startE, a1, a2, a3, i0, ab, hq]
  · rw [if_neg hq] at ab
    subst ab
    simp [b122, exs_cons, seqF_def, startE, a1, a2, a3, i0, hq]
theorem sgn01 (a : Int) : 0 ≤ sgn a ∧ sgn a ≤ 1 := by unfold sgn; split <;> omega
theorem rounded_total {m : Str} {q : Q4} {n : Nat} (A : Ag tab [2, 3, 5, 6, 7, 8, 9, 10, 11, 12, 13, 14, 15, 17, 18, 19, 20, 21, 22, 38, 39, 40, 41, 42, 43, 44, 45, 110, 111, 121, 122, 123]) (W : 64 ≤ wn) (o : F.W8) (hp : 1 ≤ F.p) (hm : isMode m) (h : q.a.natAbs < 2 ^ n) (hn : n ≤ 1400) :
    callN tab gl wn (k + 9) 123 [F.d, .str m, q.d] = some (I (roundQ F m q)) := by
  have Sp := S_pos F
  have SSp : 0 < S F * S F := Int.mul_pos Sp Sp
  obtain ⟨s0, s1⟩ := sgn01 q.a
  have a1 := kind_of_total (gl := gl) (wn := wn) (k := k + 7) (q := q) (A.sub (l' := [121]) (by decide))
  have a2 := at_k (k := k + 8) (fun k => pno_number (gl := gl) (k := k) (F := F) (A.sub (l' := [9, 13, 15, 21]) (by decide)) W o.mid.ok hp) (by omega)
  have a3 := fun s h0 h1 => at_k (k := k + 8) (fun k => pendless (gl := gl) (k := k) (F := F) (s := s) (A.sub (l' := [9, 13, 15, 20]) (by decide)) W o.mid.ok h0 h1) (by omega)
  have a4 := sign_and_size (gl := gl) (k := k + 3) (F := F) (A.sub (l' := [2, 3, 6, 9, 11, 12, 110, 111, 122]) (by decide)) W o h (by omega)
  obtain ⟨x, hx, a5⟩ := rounded (gl := gl) (k := k) (F := F) (m := m) (s := sgn q.a) (a := (q.a.natAbs : Nat)) (b := S F * S F) (A.sub (l' := [2, 3, 5, 6, 7, 8, 9, 10, 11, 12, 13, 14, 15, 17, 18, 19, 20, 22, 38, 39, 40, 41, 42, 43, 44, 45]) (by decide)) W o.mid hm s0 s1 (by omega) SSp (o.sh h) (by omega)
  rw [IsLow.scale Sp] at hx
  rw [rnd_scale Sp] at a5
  have hl := lowV_eq o.mid.ok Sp hx
  unfold roundQ
  rw [hl]
  rw [callN_eq (A.get (i := 123) (by decide)) rfl]
  generalize callN tab gl wn (k + 8) = cf at *
  have b0 := a3 0 (by omega) (by omega)
  have b1 := a3 1 (by omega) (by omega)
  rw [Int.zero_mul, Int.zero_add] at b0
  rw [Int.one_mul] at b1
  clear a3
  generalize red ((q.a.natAbs : Nat) : Int) (S F * S F) = r at *
  unfold kindT at a1
  by_cases h1 : 0 < q.e ∨ (0 < q.b ∧ 0 < q.c)
  · rw [if_pos h1] at a1 ⊢
    simp [b123, exs_cons, seqF_def, startE, a1, a2]
  · rw [if_neg h1] at a1 ⊢
    by_cases h2 : 0 < q.b
    · rw [if_pos h2] at a1 ⊢
      simp [b123, exs_cons, seqF_def, startE, a1, b0]
    · rw [if_neg h2] at a1 ⊢
      by_cases h3 : 0 < q.c
      · rw [if_pos h3] at a1 ⊢
        simp [b123, exs_cons, seqF_def, startE, a1, b1]
      · rw [if_neg h3] at a1 ⊢
        simp [b123, exs_cons, seqF_def, startE, a1, a4, a5, asg2]
theorem taken_off {q : Q4} {x : Int} (A : Ag tab [9, 12, 13, 14, 15, 16, 17, 62, 110, 114, 115, 116, 120]) (W : 64 ≤ wn) (o : F.Ok) (h : Pt F x) (g : gl 117 = some qNone.d) : callN tab gl wn (k + 6) 120 [F.d, q.d, I x] = some (q.sub (totalQ F x)).d := by
  have a1 := total_of (gl := gl) (k := k) (x := x) (A.sub (l' := [9, 12, 13, 14, 15, 16, 17, 62, 110, 114, 115, 116]) (by decide)) W o h g
  rw [callN_eq (A.get (i := 120) (by decide)) rfl]
  generalize callN tab gl wn (k + 5) = cf at *
  generalize totalQ F x = r at *
  have e1 : evI cf gl (.fn .zip (.cons (.loc 1) (.cons (.call 116 (.cons (.loc 0) (.cons (.loc 2) .nil))) .nil))) [.f F.d, .f q.d, .f (I x), .u, .u] = some [.tup [I q.a, I r.a], .tup [I q.b, I r.b], .tup [I q.c, I r.c], .tup [I q.e, I r.e]] := by
    rw [evI_fn, evs_cons, evs_cons, evs_nil, show ev cf gl (.loc 1) [.f F.d, .f q.d, .f (I x), .u, .u] = some q.d from rfl, show ev cf gl (.call 116 (.cons (.loc 0) (.cons (.loc 2) .nil))) [.f F.d, .f q.d, .f (I x), .u, .u] = some r.d from by simp [a1]]
    rfl
  have e2 : compL (.tp [.nm 3, .nm 4]) (evC cf gl .no) (ev cf gl (.bin .sub (.loc 3) (.loc 4))) [.f F.d, .f q.d, .f (I x), .u, .u] [.tup [I q.a, I r.a], .tup [I q.b, I r.b], .tup [I q.c, I r.c], .tup [I q.e, I r.e]] = some [I (q.a - r.a), I (q.b - r.b), I (q.c - r.c), I (q.e - r.e)] := rfl
  have e3 : evL cf gl (.comp [3, 4] (.tp [.nm 3, .nm 4]) (.bin .sub (.loc 3) (.loc 4)) .no (.fn .zip (.cons (.loc 1) (.cons (.call 116 (.cons (.loc 0) (.cons (.loc 2) .nil))) .nil)))) [.f F.d, .f q.d, .f (I x), .u, .u] = some [I (q.a - r.a), I (q.b - r.b), I (q.c - r.c), I (q.e - r.e)] := by
    rw [evL_comp, e1, Option.bind_some, if_pos (by simp)]
    exact e2
  have e4 : exs cf gl wn b120 (startE 5 [F.d, q.d, I x]) = some (.rt (q.sub r).d) := by
    refine exs_rt ?_
    rw [frz_nil, ex1_ret, ev_bf, evs_cons, ev_lis]
    erw [e3]
    rfl
  rw [e4]
  rfl
theorem lrounded {m : Str} {q : Q4} {n : Nat} (A : Ag tab [126, 127, 128, 129, 131, 133, 134, 135, 137, 138, 139, 140, 141, 149, 153]) (o : F.Sml) (hp : 1 ≤ F.p) (hg : q.Good F) (h : q.a.natAbs < 2 ^ n) (hn : n ≤ 40) :
    callN tab gl wn (k + 7) 153 [F.d, .str m, q.d] = some (I (roundQ F m q)) := by
  have Sp := S_pos F
  have SSp : 0 < S F * S F := Int.mul_pos Sp Sp
  obtain ⟨s0, s1⟩ := sgn01 q.a
  have a1 := at_k (k := k + 6) (fun k => ltop (gl := gl) (wn := wn) (k := k) (F := F) (A.sub (l' := [133, 138, 139]) (by decide)) o.ok) (by omega)
  have a2 := power (gl := gl) (wn := wn) (k := k + 5) (e := F.p - 1) (A.sub (l' := [133]) (by decide)) (by have := o.p2; omega)
  rw [pw_nat (by omega)] at a2
  have a3 := at_k (k := k + 6) (fun k => lhalf (gl := gl) (wn := wn) (k := k) (F := F) (A.sub (l' := [133, 138]) (by decide)) o.ok) (by omega)
  have a4 := at_k (k := k + 6) (fun k => lunit (gl := gl) (wn := wn) (k := k) (F := F) (A.sub (l' := [133, 134, 149]) (by decide)) o.ok) (by omega)
  have h1 : Sh (n + 1) (((q.a.natAbs : Nat) : Int), (1 : Int)) := by
    refine ⟨Int.one_pos, ?_, ?_⟩
    · show (((q.a.natAbs : Nat) : Int)).natAbs < _
      rw [Int.natAbs_natCast]
      exact Nat.lt_of_lt_of_le h (pow_mono (by omega))
    · exact Nat.lt_of_lt_of_le (by decide : 1 < 2 ^ 1) (pow_mono (by omega))
  have h2 : Sh 360 (unitF F) := by
    rw [unitF_red o.ok]
    refine Sh.red SSp ?_ o.w8.SS
    exact Nat.lt_of_lt_of_le (by decide : 1 < 2 ^ 1) (pow_mono (by omega))
  have a5 := (times (gl := gl) (wn := wn) (k := k + 3) (A.sub (l' := [126, 127, 129]) (by decide)) h1 h2 (by omega)).1
  rw [unitF_red o.ok, red_int, red_times Int.one_pos SSp, Int.mul_one, Int.one_mul] at a5
  rw [unitF_red o.ok] at a4
  obtain ⟨x, hx, a6⟩ := lround (gl := gl) (wn := wn) (k := k) (F := F) (m := m) (s := sgn q.a) (a := (q.a.natAbs : Nat)) (b := S F * S F) (A.sub (l' := [126, 127, 128, 129, 131, 133, 134, 135, 137, 138, 139, 140, 141]) (by decide)) o s0 s1 (by omega) SSp (o.w8.sh h) (by omega)
  rw [IsLow.scale Sp] at hx
  rw [rnd_scale Sp] at a6
  have hl := lowV_eq o.ok Sp hx
  unfold roundQ
  rw [hl]
  rw [← red_int] at a5
  have e1 : fr (((q.a.natAbs : Nat) : Int), (1 : Int)) = .tup [I ((q.a.natAbs : Nat) : Int), I 1] := rfl
  rw [e1] at a5
  rw [callN_eq (A.get (i := 153) (by decide)) rfl]
  change callN tab gl wn (k + 6) _ _ = _ at a2
  change callN tab gl wn (k + 6) _ _ = _ at a5
  generalize callN tab gl wn (k + 6) = cf at *
  have ab := abs_nat q.a
  have mh : ∀ j : Int, 0 ≤ j → j ≤ 1 → mulOk j (half F) = true := fun j h0 h1 => mulOk_l (by omega) (by omega)
  have mh0 := mh 0 (by omega) (by omega)
  have mh1 := mh 1 (by omega) (by omega)
  generalize red ((q.a.natAbs : Nat) : Int) (S F * S F) = r at *
  generalize red 1 (S F * S F) = r2 at *
  by_cases g1 : 0 < q.e ∨ (0 < q.b ∧ 0 < q.c)
  · rw [if_pos g1]
    have hf : F.full = false := by
      cases hh : F.full with
      | false => rfl
      | true =>
        have := hg.fu hh
        omega
    rw [topE_p o.ok hf]
    have g1' : 0 < q.e ∨ ¬ 0 < q.e ∧ 0 < q.b ∧ 0 < q.c := by omega
    rcases g1' with g | ⟨g, g', g''⟩
    · simp [b153, exs_cons, seqF_def, startE, Q4.d, asg4, a1, a2, g]
    · simp [b153, exs_cons, seqF_def, startE, Q4.d, asg4, a1, a2, g, g', g'']
  · rw [if_neg g1]
    have ge : ¬ 0 < q.e := fun z => g1 (.inl z)
    have b0 := hg.b0
    have c0 := hg.c0
    by_cases g2 : 0 < q.b
    · have hf : F.full = false := by
        cases hh : F.full with
        | false => rfl
        | true =>
          have := hg.fu hh
          omega
      have gc : ¬ 0 < q.c := fun z => g1 (.inr ⟨g2, z⟩)
      have gs : 0 < q.b + q.c := by omega
      rw [if_pos g2, topE_p o.ok hf]
      simp [b153, exs_cons, seqF_def, startE, Q4.d, asg4, a1, a3, ge, g2, gc, gs, mh0]
    · rw [if_neg g2]
      by_cases g3 : 0 < q.c
      · have hf : F.full = false := by
          cases hh : F.full with
          | false => rfl
          | true =>
            have := hg.fu hh
            omega
        have gs : 0 < q.b + q.c := by omega
        rw [if_pos g3, topE_p o.ok hf]
        simp [b153, exs_cons, seqF_def, startE, Q4.d, asg4, a1, a3, ge, g2, g3, gs, mh1]
        omega
      · rw [if_neg g3]
        have gs : ¬ 0 < q.b + q.c := by omega
        generalize ((q.a.natAbs : Nat) : Int) = na at *
        unfold sgn at a6 ⊢
        by_cases hq : q.a < 0
        · rw [if_pos hq] at ab a6 ⊢
          simp [b153, exs_cons, seqF_def, startE, Q4.d, asg4, ge, g2, g3, gs, ab, hq, a4, a5, a6]
        · rw [if_neg hq] at ab a6 ⊢
          rw [ab] at hq
          simp [b153, exs_cons, seqF_def, startE, Q4.d, asg4, ge, g2, g3, gs, ab, hq, a4, a5, a6]
end
end Vp.U

end

section
set_option Elab.async false
set_option linter.all false
set_option autoImplicit false
set_option maxRecDepth 100000
set_option maxHeartbeats 0
/-! sums split in two: what is left of a sum rounded to even is a pattern's size -/
namespace Vp.U
open Vp L2 PySem
theorem low_ex {F : Fm} (o : F.Ok) {N T : Int} (hN : 0 ≤ N) (hT : 0 < T) : ∃ x, IsLow F N T x := by
  have lt := ltop_lt o
  have key : ∀ n : Nat, ∃ x, 0 ≤ x ∧ x ≤ (n : Int) ∧ size F x * T ≤ N ∧ (x = (n : Int) ∨ N < size F (x + 1) * T) := by
    intro n
    induction n with
    | zero => exact ⟨0, by omega, by omega, by rw [size_zero o, Int.zero_mul]; exact hN, .inl rfl⟩
    | succ n ih =>
      obtain ⟨x, x0, x1, x2, x3⟩ := ih
      rcases x3 with x3 | x3
      · by_cases h : size F (x + 1) * T ≤ N
        · exact ⟨x + 1, by omega, by omega, h, .inl (by omega)⟩
        · exact ⟨x, x0, by omega, x2, .inr (by omega)⟩
      · exact ⟨x, x0, by omega, x2, .inr x3⟩
  obtain ⟨x, x0, x1, x2, x3⟩ := key (ltopV F).toNat
  have e : ((ltopV F).toNat : Int) = ltopV F := by omega
  rw [e] at x1 x3
  exact ⟨x, x0, x1, x2, x3⟩
theorem lowV_is {F : Fm} (o : F.Ok) {N T : Int} (hN : 0 ≤ N) (hT : 0 < T) : IsLow F N T (lowV F N T) := by
  obtain ⟨x, hx⟩ := low_ex o hN hT
  rw [lowV_eq o hT hx]
  exact hx
theorem lowV_scale {F : Fm} (o : F.Ok) {N T c : Int} (hN : 0 ≤ N) (hT : 0 < T) (hc : 0 < c) : lowV F (N * c) (T * c) = lowV F N T := by
  have h := lowV_is o hN hT
  exact lowV_eq o (Int.mul_pos hT hc) ((IsLow.scale hc).mpr h)
theorem sgn_mul {s c : Int} (hc : 0 < c) : sgn (s * c) = sgn s := by
  unfold sgn
  by_cases h : s < 0
  · rw [if_pos h, if_pos (Int.mul_neg_of_neg_of_pos h hc)]
  · rw [if_neg h, if_neg (by have := Int.mul_nonneg (show 0 ≤ s by omega) (show 0 ≤ c by omega); omega)]
theorem abs_mul {s c : Int} (hc : 0 < c) : (((s * c).natAbs : Nat) : Int) = ((s.natAbs : Nat) : Int) * c := by
  rw [Int.natAbs_mul, Int.natCast_mul]
  congr 1
  omega
/-- a number of steps rounded -/
noncomputable def rz (F : Fm) (m : Str) (s : Int) : Int := rnd F m (sgn s) (s.natAbs : Nat) 1 (lowV F (s.natAbs : Nat) 1)
theorem roundQ_num {F : Fm} (o : F.Ok) {m : Str} {s : Int} : roundQ F m ⟨s * S F, 0, 0, 0⟩ = rz F m s + sgn s * half F := by
  unfold roundQ rz
  rw [if_neg (by simp), if_neg (by simp), if_neg (by simp)]
  simp only
  rw [sgn_mul (S_pos F), abs_mul (S_pos F)]
  have h := lowV_scale o (N := (s.natAbs : Nat)) (T := 1) (c := S F) (by omega) (by omega) (S_pos F)
  have h2 := rnd_scale (F := F) (m := m) (s := sgn s) (N := (s.natAbs : Nat)) (T := 1) (c := S F) (x := lowV F (s.natAbs : Nat) 1) (S_pos F)
  rw [Int.one_mul] at h h2
  rw [h, h2]
/-- a signed pattern of a number -/
theorem signed_pat {F : Fm} (o : F.Ok) {z t : Int} (z0 : 0 ≤ z) (z1 : z ≤ ltopV F) (t0 : 0 ≤ t) (t1 : t ≤ 1) :
    Pt F (z + t * half F) ∧ kindS F (z + t * half F) = ("number" : String) ∧ sg F (z + t * half F) = t ∧ plain F (z + t * half F) = z ∧ steps F (z + t * half F) = if t = 0 then size F z else -size F z := by
  have lt := ltop_lt o
  have hp := half_pos F
  have h1 : sg F (z + t * half F) = t := by
    rw [sg_eq o, Int.add_mul_ediv_right _ _ (by omega), Int.ediv_eq_zero_of_lt z0 (by omega), Int.zero_add]
  have h2 : plain F (z + t * half F) = z := by
    rw [plain_eq o, Int.add_mul_emod_self_right]
    exact Int.emod_eq_of_lt z0 (by omega)
  have th : t * half F ≤ 1 * half F := Int.mul_le_mul_of_nonneg_right t1 (by omega)
  have th0 : 0 ≤ t * half F := Int.mul_nonneg t0 (by omega)
  have hpt : Pt F (z + t * half F) := ⟨by omega, by rw [← half_eq o]; omega⟩
  refine ⟨hpt, ?_, h1, h2, ?_⟩
  · unfold kindS
    by_cases hf : F.full = true
    · rw [if_pos (.inl hf)]
    · have hf' : F.full = false := by cases h : F.full <;> simp_all
      refine if_pos (.inr ?_)
      have he : ee F (z + t * half F) = ee F z := by
        have p2 := two_pos F.p
        unfold ee
        have e : z + t * half F = z + t * two F.w * two F.p := by rw [half_eq o, Int.mul_assoc]
        rw [e, Int.add_mul_ediv_right _ _ (by omega), Int.add_mul_emod_self_right]
      rw [he]
      have p2 := two_pos F.p
      have tp := topE_p o hf'
      have e1 : ee F z ≤ z / two F.p := by
        have p1 := two_pos F.w
        unfold ee
        have := Int.mul_ediv_add_emod (z / two F.p) (two F.w)
        have q0 : 0 ≤ z / two F.p := Int.ediv_nonneg z0 (by omega)
        have q1 : 0 ≤ z / two F.p / two F.w := Int.ediv_nonneg q0 (by omega)
        have q2 := Int.mul_nonneg (show 0 ≤ two F.w by omega) q1
        omega
      have e2 : z / two F.p < topE F := Int.ediv_lt_of_lt_mul p2 (by omega)
      omega
  · unfold steps
    rw [h1, h2]
theorem ee_mono {F : Fm} (o : F.Ok) {x y : Int} (x0 : 0 ≤ x) (h : x ≤ y) (y1 : y < half F) : ee F x ≤ ee F y := by
  have p2 := two_pos F.p
  have f : ∀ z, 0 ≤ z → z < half F → ee F z = z / two F.p := fun z h0 h1 => by
    have hq : z / two F.p < two F.w := Int.ediv_lt_of_lt_mul p2 (by rw [← half_eq o]; exact h1)
    exact Int.emod_eq_of_lt (Int.ediv_nonneg h0 (by omega)) hq
  rw [f x x0 (by omega), f y (by omega) y1]
  exact Int.ediv_le_ediv p2 h
theorem e1_mono {F : Fm} (o : F.Ok) {x y : Int} (x0 : 0 ≤ x) (h : x ≤ y) (y1 : y < half F) : e1 F x ≤ e1 F y := by
  have := ee_mono o x0 h y1
  unfold e1
  split <;> split <;> omega
theorem size_dvd {F : Fm} (o : F.Ok) {x j : Int} (j0 : 0 ≤ j) (h : j ≤ e1 F x - 1) : two j ∣ size F x := by
  unfold size
  have : e1 F x - 1 = (e1 F x - 1 - j) + j := by omega
  rw [this, two_add (by omega) j0, ← Int.mul_assoc]
  exact Int.dvd_mul_left _ _
theorem cc_lt {F : Fm} (x : Int) : cc F x < 2 * two F.p := by
  have := ff_range (F := F) (x := x)
  unfold cc
  split <;> omega
/-- a number of few bits is a pattern's size -/
theorem repr {F : Fm} (o : F.Ok) : ∀ (n : Nat) (m : Int), 0 ≤ m → m < 2 * two F.p → m * two (n : Int) ≤ size F (ltopV F) → ∃ y, 0 ≤ y ∧ y ≤ ltopV F ∧ size F y = m * two (n : Int) := by
  have lt := ltop_lt o
  have p2 := two_pos F.p
  have er := eTop_range o
  have fin : ∀ y : Int, 0 ≤ y → y < half F → size F y ≤ size F (ltopV F) → y ≤ ltopV F := fun y h0 h1 h2 => by
    by_cases h : y ≤ ltopV F
    · exact h
    · have := size_mono o lt.1 (show ltopV F < y by omega) h1
      omega
  have big : ∀ (n : Nat) (m : Int), two F.p ≤ m → m < 2 * two F.p → m * two (n : Int) ≤ size F (ltopV F) → ∃ y, 0 ≤ y ∧ y ≤ ltopV F ∧ size F y = m * two (n : Int) := by
    intro n m m0 m1 h
    have ne : ((n : Nat) : Int) + 1 ≤ eTop F := by
      by_cases z : ((n : Nat) : Int) + 1 ≤ eTop F
      · exact z
      · rw [size_top o] at h
        have t1 : 2 * two (eTop F - 1) ≤ two (n : Int) := by
          rw [← two_succ (by omega)]
          exact two_le (by omega)
        have t2 := two_pos (eTop F - 1)
        have g1 : two F.p * two (n : Int) ≤ m * two (n : Int) := Int.mul_le_mul_of_nonneg_right m0 (by have := two_pos (n : Int); omega)
        have g2 : two F.p * (2 * two (eTop F - 1)) ≤ two F.p * two (n : Int) := Int.mul_le_mul_of_nonneg_left t1 (by omega)
        have g3 : (2 * two F.p - 1) * two (eTop F - 1) = two F.p * (2 * two (eTop F - 1)) - two (eTop F - 1) := by grind
        omega
    obtain ⟨q1, q2⟩ := split_pat o (e := (n : Int) + 1) (f := m - two F.p) (by omega) (by omega) (by omega) (by omega)
    have sz : size F (((n : Int) + 1) * two F.p + (m - two F.p)) = m * two (n : Int) := by
      rw [size_of_parts q1 q2 (by omega), if_neg (by omega)]
      congr 1
      · omega
      · congr 1
        omega
    have y0 : 0 ≤ ((n : Int) + 1) * two F.p + (m - two F.p) := by
      have := Int.mul_nonneg (show 0 ≤ (n : Int) + 1 by omega) (show 0 ≤ two F.p by omega)
      omega
    have yh : ((n : Int) + 1) * two F.p + (m - two F.p) < half F := by
      rw [half_eq o]
      have h1 : ((n : Int) + 1 + 1) * two F.p ≤ two F.w * two F.p := Int.mul_le_mul_of_nonneg_right (by omega) (by omega)
      rw [Int.add_mul _ 1, Int.one_mul] at h1
      omega
    exact ⟨_, y0, fin _ y0 yh (by rw [sz]; exact h), sz⟩
  intro n
  induction n with
  | zero =>
    intro m m0 m1 h
    by_cases g : two F.p ≤ m
    · exact big 0 m g m1 h
    · have w0 := two_pos F.w
      obtain ⟨q1, q2⟩ := split_pat o (e := 0) (f := m) (by omega) (by omega) m0 (by omega)
      rw [Int.zero_mul, Int.zero_add] at q1 q2
      have sz : size F m = m * two ((0 : Nat) : Int) := by
        rw [size_of_parts q1 q2 (by omega), if_pos rfl]
        exact (Int.mul_one m).symm
      have mh : m < half F := by
        rw [half_eq o]
        have h1 : 1 * two F.p ≤ two F.w * two F.p := Int.mul_le_mul_of_nonneg_right (by omega) (by omega)
        omega
      exact ⟨m, m0, fin m m0 mh (by rw [sz]; exact h), sz⟩
  | succ n ih =>
    intro m m0 m1 h
    by_cases g : two F.p ≤ m
    · exact big (n + 1) m g m1 h
    · have e : m * two ((n + 1 : Nat) : Int) = 2 * m * two (n : Int) := by
        have : ((n + 1 : Nat) : Int) = (n : Int) + 1 := by omega
        rw [this, two_succ (by omega)]
        grind
      rw [e] at h ⊢
      exact ih (2 * m) (by omega) (by omega) h
/-- rounding to even takes a nearest pattern -/
theorem rz_near {F : Fm} (o : F.Ok) {s : Int} (h : ((s.natAbs : Nat) : Int) ≤ size F (ltopV F)) :
    0 ≤ rz F evenS s ∧ rz F evenS s ≤ ltopV F ∧ (∀ y, 0 ≤ y → y ≤ ltopV F → (((s.natAbs : Nat) : Int) - size F (rz F evenS s)).natAbs ≤ (((s.natAbs : Nat) : Int) - size F y).natAbs) ∧ lowV F (s.natAbs : Nat) 1 ≤ rz F evenS s := by
  have lt := ltop_lt o
  have L := lowV_is o (N := (s.natAbs : Nat)) (T := 1) (by omega) (by omega)
  unfold rz
  generalize hN : ((s.natAbs : Nat) : Int) = N at *
  generalize lowV F N 1 = x at *
  have x0 := L.x0
  have x1 := L.x1
  have le := L.le
  have up := L.up
  rw [Int.mul_one] at le up
  have ys : ∀ y, 0 ≤ y → y ≤ ltopV F → (size F y ≤ size F x) ∨ (x < ltopV F ∧ size F (x + 1) ≤ size F y) := fun y h0 h1 => by
    by_cases g : y ≤ x
    · exact .inl (size_mono_le o h0 g (by omega))
    · exact .inr ⟨by omega, size_mono_le o (by omega) (by omega) (by omega)⟩
  unfold rnd
  simp only [strs_ne.1, strs_ne.2.1, false_and, or_false, true_and, Int.mul_one]
  by_cases c1 : size F x ≠ N ∧ (F.full = false ∨ x < ltopV F)
  · rw [if_pos c1]
    have xt : x < ltopV F := by
      rcases up with u | u
      · subst u
        omega
      · by_cases g : x < ltopV F
        · exact g
        · have : x = ltopV F := by omega
          subst this
          omega
    have u := up.resolve_left (by omega)
    by_cases c2 : size F (x + 1) - N < N - size F x ∨ size F (x + 1) - N = N - size F x ∧ x % 2 = 1
    · rw [if_pos c2]
      refine ⟨by omega, by omega, fun y h0 h1 => ?_, by omega⟩
      rcases ys y h0 h1 with g | g <;> omega
    · rw [if_neg c2]
      refine ⟨x0, x1, fun y h0 h1 => ?_, by omega⟩
      rcases ys y h0 h1 with g | g <;> omega
  · rw [if_neg c1]
    refine ⟨x0, x1, fun y h0 h1 => ?_, by omega⟩
    have : size F x = N := by
      by_cases g : size F x = N
      · exact g
      · have := not_and.mp c1 g
        have xe : x = ltopV F := by
          by_cases z : x < ltopV F
          · exact absurd (.inr z) this
          · omega
        subst xe
        omega
    omega
/-- a pattern's size is rounded to it -/
theorem rz_exact {F : Fm} (o : F.Ok) {m : Str} {s y : Int} (y0 : 0 ≤ y) (y1 : y ≤ ltopV F) (h : size F y = (s.natAbs : Nat)) : rz F m s = y := by
  have lt := ltop_lt o
  have L : IsLow F (s.natAbs : Nat) 1 y := by
    refine ⟨y0, y1, by omega, ?_⟩
    by_cases g : y = ltopV F
    · exact .inl g
    · right
      have := size_mono o y0 (show y < y + 1 by omega) (by omega)
      omega
  unfold rz
  rw [lowV_eq o (by omega) L]
  unfold rnd
  rw [if_neg (fun z => z.1 (by omega))]
theorem split_one {F : Fm} (o : F.Ok) {a b A B : Int} (a0 : 0 ≤ a) (a1 : a ≤ ltopV F) (b0 : 0 ≤ b) (b1 : b ≤ ltopV F) (hA : size F a = (A.natAbs : Nat)) (hB : size F b = (B.natAbs : Nat)) (ab : b ≤ a)
    (h : (((A + B).natAbs : Nat) : Int) ≤ size F (ltopV F)) : ∃ y, 0 ≤ y ∧ y ≤ ltopV F ∧ size F y = (((((A + B).natAbs : Nat) : Int) - size F (rz F evenS (A + B))).natAbs : Nat) := by
  have lt := ltop_lt o
  obtain ⟨z0, z1, z2, z3⟩ := rz_near o h
  have L := lowV_is o (N := ((A + B).natAbs : Nat)) (T := 1) (by omega) (by omega)
  have p2 := two_pos F.p
  have j0 : 0 ≤ e1 F b - 1 := by have := e1_range (x := b) o; omega
  have jab : e1 F b - 1 ≤ e1 F a - 1 := by have := e1_mono o b0 ab (by omega); omega
  have dA : two (e1 F b - 1) ∣ ((A.natAbs : Nat) : Int) := by rw [← hA]; exact size_dvd o j0 jab
  have dB : two (e1 F b - 1) ∣ ((B.natAbs : Nat) : Int) := by rw [← hB]; exact size_dvd o j0 (by omega)
  have dA' : two (e1 F b - 1) ∣ A := Int.dvd_natAbs.mp dA
  have dB' : two (e1 F b - 1) ∣ B := Int.dvd_natAbs.mp dB
  have dN : two (e1 F b - 1) ∣ (((A + B).natAbs : Nat) : Int) := Int.dvd_natAbs.mpr (Int.dvd_add dA' dB')
  have near := z2 a a0 a1
  have hb : (((A + B).natAbs : Nat) : Int) - size F a ≤ size F b ∧ size F a - (((A + B).natAbs : Nat) : Int) ≤ size F b := by
    rw [hA, hB]
    omega
  have bs : size F b = cc F b * two (e1 F b - 1) := rfl
  have cb := cc_lt (F := F) b
  have cb0 := (cc_range (x := b) o).1
  have sbt := size_mono_le o b0 b1 lt.2.1
  generalize hj : e1 F b - 1 = j at *
  generalize hN : (((A + B).natAbs : Nat) : Int) = N at *
  have N0 : 0 ≤ N := by omega
  have tj := two_pos j
  have hjn : ((j.toNat : Nat) : Int) = j := by omega
  have small : ∀ e : Int, two j ∣ e → (e.natAbs : Int) ≤ size F b → ∃ y, 0 ≤ y ∧ y ≤ ltopV F ∧ size F y = (e.natAbs : Nat) := by
    rintro e ⟨m, hm⟩ he
    have hm' : ((e.natAbs : Nat) : Int) = ((m.natAbs : Nat) : Int) * two j := by
      rw [hm, Int.natAbs_mul, Int.natCast_mul, Int.mul_comm]
      congr 1
    rw [hm', bs] at he
    have := Int.le_of_mul_le_mul_right he tj
    obtain ⟨y, y0, y1, y2⟩ := repr o j.toNat (m.natAbs : Nat) (by omega) (by omega) (by
      rw [hjn]
      have : ((m.natAbs : Nat) : Int) * two j ≤ cc F b * two j := he
      omega)
    rw [hjn, ← hm'] at y2
    exact ⟨y, y0, y1, y2⟩
  by_cases c : N ≤ two F.p * two j
  · -- the sum is a pattern's size
    obtain ⟨m, hm⟩ := dN
    have m0 : 0 ≤ m := by
      by_cases z : 0 ≤ m
      · exact z
      · have : two j * m < 0 := Int.mul_neg_of_pos_of_neg tj (by omega)
        omega
    have m1 : m ≤ two F.p := by
      rw [hm, Int.mul_comm] at c
      exact Int.le_of_mul_le_mul_right c tj
    obtain ⟨y, y0, y1, y2⟩ := repr o j.toNat m m0 (by omega) (by rw [hjn, Int.mul_comm, ← hm]; exact h)
    rw [hjn, Int.mul_comm, ← hm] at y2
    have e := rz_exact o (m := evenS) (s := A + B) y0 y1 (by omega)
    rw [e, y2]
    exact ⟨0, by omega, by omega, by rw [size_zero o]; omega⟩
  · -- the pattern rounded to has steps as long
    obtain ⟨y, y0, y1, y2⟩ := repr o j.toNat (two F.p) (by omega) (by omega) (by rw [hjn]; omega)
    rw [hjn] at y2
    have yj : e1 F y - 1 = j ∨ j < e1 F y - 1 := by
      -- the exponent of that pattern
      have ys : size F y = cc F y * two (e1 F y - 1) := rfl
      have cy := cc_lt (F := F) y
      by_cases z : j ≤ e1 F y - 1
      · omega
      · have t1 : 2 * two (e1 F y - 1) ≤ two j := by
          have er := e1_range (x := y) o
          rw [← two_succ (by omega)]
          exact two_le (by omega)
        have t2 := two_pos (e1 F y - 1)
        have g1 : cc F y * two (e1 F y - 1) < 2 * two F.p * two (e1 F y - 1) := Int.mul_lt_mul_of_pos_right cy t2
        have g2 : two F.p * (2 * two (e1 F y - 1)) ≤ two F.p * two j := Int.mul_le_mul_of_nonneg_left t1 (by omega)
        have g3 : 2 * two F.p * two (e1 F y - 1) = two F.p * (2 * two (e1 F y - 1)) := by grind
        omega
    have yz : y ≤ rz F evenS (A + B) := by
      refine Int.le_trans ?_ z3
      rcases L.up with u | u
      · omega
      · rw [Int.mul_one] at u
        by_cases g : y ≤ lowV F N 1
        · exact g
        · have l0 := L.x0
          have := size_mono_le o (x := lowV F N 1 + 1) (y := y) (by omega) (by omega) (by omega)
          omega
    have ez := e1_mono o y0 yz (by omega)
    have dz : two j ∣ size F (rz F evenS (A + B)) := size_dvd o j0 (by omega)
    refine small _ (Int.dvd_sub dN dz) ?_
    omega
end Vp.U

end

section
set_option Elab.async false
set_option linter.all false
set_option autoImplicit false
set_option maxRecDepth 100000
set_option maxHeartbeats 0
/-! sums split: what the defs compute -/
namespace Vp.U
open Vp L2 PySem
structure NumP (F : Fm) (x : Int) : Prop where
  pt : Pt F x
  nu : kindS F x = ("number" : String)
theorem NumP.total {F : Fm} {x : Int} (h : NumP F x) : totalQ F x = ⟨steps F x * S F, 0, 0, 0⟩ := by
  unfold totalQ
  rw [h.nu, if_neg str_ne1, if_neg str_ne3]
  rfl
theorem NumP.plain {F : Fm} (o : F.Ok) {x : Int} (h : NumP F x) : 0 ≤ plain F x ∧ plain F x ≤ ltopV F ∧ size F (plain F x) = ((steps F x).natAbs : Nat) := by
  have pr := plain_range o x
  have lt := ltop_lt o
  have sl := size_le o h.nu
  have tf := top_facts o
  have st := size_top o
  rw [tf.2.2.2.2, ← st] at sl
  refine ⟨pr.1, ?_, ?_⟩
  · by_cases g : Vp.U.plain F x ≤ ltopV F
    · exact g
    · have := size_mono o lt.1 (show ltopV F < Vp.U.plain F x by omega) pr.2
      omega
  · unfold steps
    split <;> omega
theorem NumP.signed {F : Fm} (o : F.Ok) {z t : Int} (z0 : 0 ≤ z) (z1 : z ≤ ltopV F) (t0 : 0 ≤ t) (t1 : t ≤ 1) : NumP F (z + t * half F) :=
  ⟨(signed_pat o z0 z1 t0 t1).1, (signed_pat o z0 z1 t0 t1).2.1⟩
theorem NumP.top {F : Fm} (o : F.Ok) : NumP F (ltopV F) := by
  have := NumP.signed o (z := ltopV F) (t := 0) (ltop_lt o).1 (by omega) (by omega) (by omega)
  rwa [Int.zero_mul, Int.add_zero] at this
theorem steps_top {F : Fm} (o : F.Ok) : steps F (ltopV F) = size F (ltopV F) := by
  have tf := top_facts o
  rw [← tf.1, tf.2.2.2.2, tf.1, size_top o]
/-- the pattern of a rounded number of steps -/
noncomputable def rpat (F : Fm) (m : Str) (s : Int) : Int := rz F m s + sgn s * half F
noncomputable def restS (F : Fm) (s : Int) : Int := s - steps F (rpat F evenS s)
theorem split_facts {F : Fm} (o : F.Ok) {x y : Int} (hx : NumP F x) (hy : NumP F y) (h : (((steps F x + steps F y).natAbs : Nat) : Int) ≤ size F (ltopV F)) :
    NumP F (rpat F evenS (steps F x + steps F y)) ∧ NumP F (rpat F evenS (restS F (steps F x + steps F y))) ∧ steps F (rpat F evenS (restS F (steps F x + steps F y))) = restS F (steps F x + steps F y) := by
  obtain ⟨a0, a1, a2⟩ := hx.plain o
  obtain ⟨b0, b1, b2⟩ := hy.plain o
  obtain ⟨z0, z1, z2, z3⟩ := rz_near o h
  have key : ∃ w, 0 ≤ w ∧ w ≤ ltopV F ∧ size F w = (((((steps F x + steps F y).natAbs : Nat) : Int) - size F (rz F evenS (steps F x + steps F y))).natAbs : Nat) := by
    by_cases g : plain F y ≤ plain F x
    · exact split_one o a0 a1 b0 b1 a2 b2 g h
    · have := split_one o b0 b1 a0 a1 b2 a2 (by omega) (by rw [Int.add_comm]; exact h)
      rwa [Int.add_comm] at this
  generalize hs : steps F x + steps F y = s at *
  obtain ⟨s0, s1⟩ := sgn01 s
  have f1 := NumP.signed o z0 z1 s0 s1
  have f2 := (signed_pat o z0 z1 s0 s1).2.2.2.2
  have e1 : rpat F evenS s = rz F evenS s + sgn s * half F := rfl
  obtain ⟨w, w0, w1, w2⟩ := key
  have hr : size F w = ((restS F s).natAbs : Nat) := by
    rw [w2]
    unfold restS
    rw [e1, f2]
    unfold sgn
    by_cases hs0 : s < 0
    · rw [if_pos hs0, if_neg (by omega)]
      omega
    · rw [if_neg hs0, if_pos rfl]
      omega
  have ew := rz_exact o (m := evenS) w0 w1 hr
  obtain ⟨t0, t1⟩ := sgn01 (restS F s)
  refine ⟨f1, ?_, ?_⟩
  · unfold rpat
    rw [ew]
    exact NumP.signed o w0 w1 t0 t1
  · unfold rpat
    rw [ew, (signed_pat o w0 w1 t0 t1).2.2.2.2, hr]
    generalize restS F s = r at *
    unfold sgn
    by_cases hr0 : r < 0
    · rw [if_pos hr0, if_neg (by omega)]
      omega
    · rw [if_neg hr0, if_pos rfl]
      omega
theorem Fm.W8.size_lt {F : Fm} (o : F.W8) {x : Int} : (size F x).natAbs < 2 ^ 310 := by
  have c := cc_range (x := x) o.mid.ok
  have h1 : (cc F x).natAbs < 2 ^ 52 := by
    have : (2 : Nat) ^ 52 = 4503599627370496 := by decide
    omega
  have er : e1 F x ≤ 255 := by
    have e0 := ee_range (x := x) o.mid.ok
    have : ee F x ≤ 255 := by
      have p1 := two_pos F.w
      have h2 := Int.emod_lt_of_pos (x / two F.p) p1
      have h3 : two F.w ≤ two 8 := two_le o.w8
      have e2 : two 8 = 256 := rfl
      unfold ee
      omega
    unfold e1
    split <;> omega
  unfold size
  exact Nat.lt_of_lt_of_le (mul_lt h1 (two_lt (n := 256) (by omega) (by omega))) (pow_mono (by omega))
theorem Fm.W8.steps_lt {F : Fm} (o : F.W8) {x : Int} : (steps F x).natAbs < 2 ^ 310 := by
  have := o.size_lt (x := plain F x)
  unfold steps
  split <;> omega
theorem Fm.W8.S_lt {F : Fm} (o : F.W8) : (S F).natAbs < 2 ^ 180 := by
  have := o.low
  unfold S
  exact two_lt (by omega) (by omega)
theorem add_lt {a b : Int} {n : Nat} (h1 : a.natAbs < 2 ^ n) (h2 : b.natAbs < 2 ^ n) : (a + b).natAbs < 2 ^ (n + 1) := by
  rw [Nat.pow_succ]
  omega
noncomputable def splitD (F : Fm) (x y : Int) : D :=
  if size F (ltopV F) < (((steps F x + steps F y).natAbs : Nat) : Int) then .non
  else .tup [I (rpat F evenS (steps F x + steps F y)), I (rpat F evenS (restS F (steps F x + steps F y)))]
noncomputable def dueD (F : Fm) (x y : Int) : D :=
  if size F (ltopV F) < (((steps F x + steps F y).natAbs : Nat) : Int) then .non
  else .tup [I (rpat F evenS (steps F x + steps F y)), I (rpat F evenS (restS F (steps F x + steps F y))), I (restS F (steps F x + steps F y) * S F)]
theorem rest_le {F : Fm} (o : F.Ok) {s : Int} (h : ((s.natAbs : Nat) : Int) ≤ size F (ltopV F)) : (restS F s).natAbs ≤ s.natAbs := by
  obtain ⟨z0, z1, z2, z3⟩ := rz_near o h
  obtain ⟨s0, s1⟩ := sgn01 s
  have f2 := (signed_pat o z0 z1 s0 s1).2.2.2.2
  have e1 : rpat F evenS s = rz F evenS s + sgn s * half F := rfl
  have n := z2 0 (by omega) (ltop_lt o).1
  rw [size_zero o] at n
  unfold restS
  rw [e1, f2]
  unfold sgn
  by_cases hs0 : s < 0
  · rw [if_pos hs0, if_neg (by omega)]
    omega
  · rw [if_neg hs0, if_pos rfl]
    omega
theorem add_num (a b c : Int) : Q4.add ⟨a * c, 0, 0, 0⟩ ⟨b * c, 0, 0, 0⟩ = ⟨(a + b) * c, 0, 0, 0⟩ := by
  unfold Q4.add
  simp [Int.add_mul]
theorem sub_num (a b c : Int) : Q4.sub ⟨a * c, 0, 0, 0⟩ ⟨b * c, 0, 0, 0⟩ = ⟨(a - b) * c, 0, 0, 0⟩ := by
  unfold Q4.sub
  simp [Int.sub_mul]
theorem abs_lt_S {F : Fm} {s t : Int} (ht : 0 ≤ t) : (t * S F < ((((s * S F).natAbs : Nat)) : Int)) ↔ t < ((s.natAbs : Nat) : Int) := by
  rw [abs_mul (S_pos F)]
  exact ⟨fun h => Int.lt_of_mul_lt_mul_right h (by have := S_pos F; omega), fun h => Int.mul_lt_mul_of_pos_right h (S_pos F)⟩
section
variable {tab : Nat → Option Fn} {gl : Nat → Option D} {wn k : Nat} {F : Fm}
theorem split_sum {x y : Int} (A : Ag tab [2, 3, 5, 6, 7, 8, 9, 10, 11, 12, 13, 14, 15, 16, 17, 18, 19, 20, 21, 22, 38, 39, 40, 41, 42, 43, 44, 45, 62, 110, 111, 114, 115, 116, 118, 120, 121, 122, 123, 169]) (W : 64 ≤ wn) (o : F.W8) (hp : 1 ≤ F.p) (hx : NumP F x) (hy : NumP F y) (g : gl 117 = some qNone.d) :
    callN tab gl wn (k + 10) 169 [F.d, I x, I y] = some (splitD F x y) := by
  have ok := o.mid.ok
  have AT : Ag tab [9, 12, 13, 14, 15, 16, 17, 62, 110, 114, 115, 116] := A.sub (by decide)
  have AR : Ag tab [2, 3, 5, 6, 7, 8, 9, 10, 11, 12, 13, 14, 15, 17, 18, 19, 20, 21, 22, 38, 39, 40, 41, 42, 43, 44, 45, 110, 111, 121, 122, 123] := A.sub (by decide)
  have a1 := at_k (k := k + 9) (fun k => total_of (gl := gl) (k := k) (F := F) (x := x) AT W ok hx.pt g) (by omega)
  have a2 := at_k (k := k + 9) (fun k => total_of (gl := gl) (k := k) (F := F) (x := y) AT W ok hy.pt g) (by omega)
  have a3 := at_k (k := k + 9) (fun k => total_of (gl := gl) (k := k) (F := F) (x := ltopV F) AT W ok (NumP.top ok).pt g) (by omega)
  rw [hx.total] at a1
  rw [hy.total] at a2
  rw [(NumP.top ok).total, steps_top ok] at a3
  have a4 := together (gl := gl) (wn := wn) (k := k + 8) (q := ⟨steps F x * S F, 0, 0, 0⟩) (r := ⟨steps F y * S F, 0, 0, 0⟩) (A.sub (l' := [118]) (by decide))
  rw [add_num] at a4
  have a5 := at_k (k := k + 9) (fun k => greatest (gl := gl) (k := k) (F := F) (s := 0) (A.sub (l' := [9, 13, 15, 19]) (by decide)) W ok (by omega) (by omega)) (by omega)
  rw [(top_facts ok).1] at a5
  have sb : (steps F x + steps F y).natAbs < 2 ^ 311 := add_lt o.steps_lt o.steps_lt
  have ssb : ((steps F x + steps F y) * S F).natAbs < 2 ^ 491 := mul_lt sb o.S_lt
  have ab := abs_nat ((steps F x + steps F y) * S F)
  have st0 : 0 ≤ size F (ltopV F) := size_nonneg ok
  have lc := abs_lt_S (F := F) (s := steps F x + steps F y) st0
  unfold splitD
  by_cases hc : size F (ltopV F) < (((steps F x + steps F y).natAbs : Nat) : Int)
  · rw [if_pos hc]
    have hc' := lc.mpr hc
    rw [callN_eq (A.get (i := 169) (by decide)) rfl]
    change callN tab gl wn (k + 9) _ _ = _ at a4
    generalize callN tab gl wn (k + 9) = cf at *
    rw [← ab] at hc'
    have i0 : ∀ a : Int, ixD (Q4.d ⟨a, 0, 0, 0⟩) (.int 0) = some (I a) := fun _ => rfl
    generalize (steps F x + steps F y) * S F = s at *
    generalize size F (ltopV F) * S F = t at *
    simp [b169, exs_cons, seqF_def, startE, a1, a2, a3, a4, a5, i0, hc']
  · rw [if_neg hc]
    have hc' : ¬ size F (ltopV F) * S F < ((((steps F x + steps F y) * S F).natAbs : Nat) : Int) := fun h => hc (lc.mp h)
    have hle : (((steps F x + steps F y).natAbs : Nat) : Int) ≤ size F (ltopV F) := by omega
    obtain ⟨f1, f2, f3⟩ := split_facts ok hx hy hle
    have rl := rest_le ok hle
    have a6 := rounded_total (gl := gl) (k := k) (F := F) (m := evenS) (q := ⟨(steps F x + steps F y) * S F, 0, 0, 0⟩) AR W o hp (.inl rfl) ssb (by omega)
    rw [roundQ_num ok] at a6
    have e1 : rz F evenS (steps F x + steps F y) + sgn (steps F x + steps F y) * half F = rpat F evenS (steps F x + steps F y) := rfl
    rw [e1] at a6
    have a7 := at_k (k := k + 9) (fun k => taken_off (gl := gl) (k := k) (F := F) (q := ⟨(steps F x + steps F y) * S F, 0, 0, 0⟩) (x := rpat F evenS (steps F x + steps F y)) (A.sub (l' := [9, 12, 13, 14, 15, 16, 17, 62, 110, 114, 115, 116, 120]) (by decide)) W ok f1.pt g) (by omega)
    rw [f1.total, sub_num] at a7
    have e2 : steps F x + steps F y - steps F (rpat F evenS (steps F x + steps F y)) = restS F (steps F x + steps F y) := rfl
    rw [e2] at a7
    have rb : (restS F (steps F x + steps F y)).natAbs < 2 ^ 311 := by omega
    have a8 := rounded_total (gl := gl) (k := k) (F := F) (m := evenS) (q := ⟨restS F (steps F x + steps F y) * S F, 0, 0, 0⟩) AR W o hp (.inl rfl) (mul_lt rb o.S_lt) (by omega)
    rw [roundQ_num ok] at a8
    have e3 : rz F evenS (restS F (steps F x + steps F y)) + sgn (restS F (steps F x + steps F y)) * half F = rpat F evenS (restS F (steps F x + steps F y)) := rfl
    rw [e3] at a8
    rw [callN_eq (A.get (i := 169) (by decide)) rfl]
    change callN tab gl wn (k + 9) _ _ = _ at a4
    generalize callN tab gl wn (k + 9) = cf at *
    rw [← ab] at hc'
    have i0 : ∀ a : Int, ixD (Q4.d ⟨a, 0, 0, 0⟩) (.int 0) = some (I a) := fun _ => rfl
    have ev : evenS = ("even" : String) := rfl
    rw [ev] at a6 a8 a7 ⊢
    generalize rpat F ("even" : String) (restS F (steps F x + steps F y)) = r2 at *
    generalize rpat F ("even" : String) (steps F x + steps F y) = r1 at *
    generalize restS F (steps F x + steps F y) * S F = rs at *
    generalize (steps F x + steps F y) * S F = s at *
    generalize size F (ltopV F) * S F = t at *
    simp [b169, exs_cons, seqF_def, startE, a1, a2, a3, a4, a5, a6, a7, a8, i0, hc']
/-- tiny formats -/
structure Fm.Tny (F : Fm) : Prop where
  sml : F.Sml
  w4 : F.w ≤ 4
  p5 : F.p ≤ 5
theorem Fm.Tny.size_lt {F : Fm} (o : F.Tny) {x : Int} : (size F x).natAbs < 2 ^ 21 := by
  have c := cc_lt (F := F) x
  have c0 := (cc_range (x := x) o.sml.ok).1
  have h2 : two F.p ≤ two 5 := two_le o.p5
  have e2 : two 5 = 32 := rfl
  have h1 : (cc F x).natAbs < 2 ^ 6 := by
    have : (2 : Nat) ^ 6 = 64 := by decide
    omega
  have er : e1 F x ≤ 15 := by
    have e0 := ee_range (x := x) o.sml.ok
    have : ee F x ≤ 15 := by
      have p1 := two_pos F.w
      have h2 := Int.emod_lt_of_pos (x / two F.p) p1
      have h3 : two F.w ≤ two 4 := two_le o.w4
      have e2 : two 4 = 16 := rfl
      unfold ee
      omega
    unfold e1
    split <;> omega
  unfold size
  exact Nat.lt_of_lt_of_le (mul_lt h1 (two_lt (n := 15) (by omega) (by omega))) (pow_mono (by omega))
theorem Fm.Tny.steps_lt {F : Fm} (o : F.Tny) {x : Int} : (steps F x).natAbs < 2 ^ 21 := by
  have := o.size_lt (x := plain F x)
  unfold steps
  split <;> omega
theorem Fm.Tny.S_lt {F : Fm} (o : F.Tny) : (S F).natAbs < 2 ^ 12 := by
  have b : bias F ≤ 7 := by
    unfold bias
    have h2 : two (F.w - 1) ≤ two 3 := two_le (by have := o.w4; omega)
    have e2 : two 3 = 8 := rfl
    omega
  have := o.p5
  unfold S
  exact two_lt (by unfold low; omega) (by omega)
theorem ltotal {x : Int} (A : Ag tab [126, 127, 129, 130, 133, 134, 135, 136, 137, 138, 147, 148, 149, 150]) (o : F.Sml) (hx : Pt F x) : callN tab gl wn (k + 6) 150 [F.d, I x] = some (totalQ F x).d := by
  have a1 := lkind (gl := gl) (wn := wn) (k := k + 1) (x := x) (A.sub (l' := [133, 135, 136, 148]) (by decide)) o.ok
  obtain ⟨a3, b3⟩ := lvalue (gl := gl) (wn := wn) (k := k) (x := x) (A.sub (l' := [126, 127, 129, 133, 134, 135, 137, 138, 147]) (by decide)) o
  have a5 := lhalf (gl := gl) (wn := wn) (k := k + 3) (F := F) (A.sub (l' := [133, 138]) (by decide)) o.ok
  have a6 := lunit (gl := gl) (wn := wn) (k := k + 2) (F := F) (A.sub (l' := [133, 134, 149]) (by decide)) o.ok
  have hu : Sh 125 (unitF F) := by
    rw [← unit_pw o.ok]
    have b1 := o.bias
    have p0 := o.ok.p0
    have p2 := o.p2
    exact pw_sh (by unfold low; omega)
  obtain ⟨a8, b8⟩ := over (gl := gl) (wn := wn) (k := k + 2) (A.sub (l' := [126, 127, 130]) (by decide)) b3 hu Int.one_pos (by omega)
  have ov := over_val o.ok hx
  have g1 := ge_half o.ok hx
  have s1 := hx.sg
  rw [callN_eq (A.get (i := 150) (by decide)) rfl]
  change callN tab gl wn (k + 5) _ _ = _ at a1
  change callN tab gl wn (k + 5) _ _ = _ at a5
  change callN tab gl wn (k + 5) _ _ = _ at a6
  change callN tab gl wn (k + 5) _ _ = _ at a8
  generalize callN tab gl wn (k + 5) = cf at *
  unfold totalQ
  have i0 : ixD (fr (overF (valueF F x) (unitF F))) (.int 0) = some (I (overF (valueF F x) (unitF F)).1) := fr0
  rw [ov] at i0
  generalize overF (valueF F x) (unitF F) = ou at *
  rcases kind3 F x with hk | hk | hk
  · rw [hk] at a1 ⊢
    simp [b150, exs_cons, seqF_def, startE, a1, a3, a6, a8, i0, Q4.d]
  · rw [hk] at a1 ⊢
    by_cases hs : sg F x = 0
    · have q1 : x < half F := g1.2.mpr hs
      have q2 : ¬ half F ≤ x := by omega
      simp [b150, exs_cons, seqF_def, startE, a1, a5, endQ, hs, q1, q2, Q4.d]
    · have q2 : half F ≤ x := g1.1.mpr (by omega)
      have q1 : ¬ x < half F := by omega
      simp [b150, exs_cons, seqF_def, startE, a1, a5, endQ, hs, q1, q2, Q4.d]
  · rw [hk] at a1 ⊢
    simp [b150, exs_cons, seqF_def, startE, a1, qNone, Q4.d]
theorem lsplit {x y : Int} (A : Ag tab [126, 127, 128, 129, 130, 131, 133, 134, 135, 136, 137, 138, 139, 140, 141, 147, 148, 149, 150, 151, 153, 170]) (o : F.Tny) (hp : 1 ≤ F.p) (hx : NumP F x) (hy : NumP F y) :
    callN tab gl wn (k + 8) 170 [F.d, I x, I y] = some (dueD F x y) := by
  have ok := o.sml.ok
  have AT : Ag tab [126, 127, 129, 130, 133, 134, 135, 136, 137, 138, 147, 148, 149, 150] := A.sub (by decide)
  have AR : Ag tab [126, 127, 128, 129, 131, 133, 134, 135, 137, 138, 139, 140, 141, 149, 153] := A.sub (by decide)
  have a1 := ltotal (gl := gl) (wn := wn) (k := k + 1) (F := F) (x := x) AT o.sml hx.pt
  have a2 := ltotal (gl := gl) (wn := wn) (k := k + 1) (F := F) (x := y) AT o.sml hy.pt
  have a3 := ltotal (gl := gl) (wn := wn) (k := k + 1) (F := F) (x := ltopV F) AT o.sml (NumP.top ok).pt
  rw [hx.total] at a1
  rw [hy.total] at a2
  rw [(NumP.top ok).total, steps_top ok] at a3
  have a4 := ltogether (gl := gl) (wn := wn) (k := k + 6) (q := ⟨steps F x * S F, 0, 0, 0⟩) (r := ⟨steps F y * S F, 0, 0, 0⟩) (A.sub (l' := [151]) (by decide))
  rw [add_num] at a4
  have a5 := at_k (k := k + 7) (fun k => ltop (gl := gl) (wn := wn) (k := k) (F := F) (A.sub (l' := [133, 138, 139]) (by decide)) ok) (by omega)
  have sb : (steps F x + steps F y).natAbs < 2 ^ 22 := add_lt o.steps_lt o.steps_lt
  have ssb : ((steps F x + steps F y) * S F).natAbs < 2 ^ 34 := mul_lt sb o.S_lt
  have ab := abs_nat ((steps F x + steps F y) * S F)
  have st0 : 0 ≤ size F (ltopV F) := size_nonneg ok
  have lc := abs_lt_S (F := F) (s := steps F x + steps F y) st0
  unfold dueD
  by_cases hc : size F (ltopV F) < (((steps F x + steps F y).natAbs : Nat) : Int)
  · rw [if_pos hc]
    have hc' := lc.mpr hc
    rw [callN_eq (A.get (i := 170) (by decide)) rfl]
    change callN tab gl wn (k + 7) _ _ = _ at a4
    generalize callN tab gl wn (k + 7) = cf at *
    rw [← ab] at hc'
    have i0 : ∀ a : Int, ixD (Q4.d ⟨a, 0, 0, 0⟩) (.int 0) = some (I a) := fun _ => rfl
    generalize (steps F x + steps F y) * S F = s at *
    generalize size F (ltopV F) * S F = t at *
    simp [b170, exs_cons, seqF_def, startE, a1, a2, a3, a4, a5, i0, hc']
  · rw [if_neg hc]
    have hc' : ¬ size F (ltopV F) * S F < ((((steps F x + steps F y) * S F).natAbs : Nat) : Int) := fun h => hc (lc.mp h)
    have hle : (((steps F x + steps F y).natAbs : Nat) : Int) ≤ size F (ltopV F) := by omega
    obtain ⟨f1, f2, f3⟩ := split_facts ok hx hy hle
    have rl := rest_le ok hle
    have a6 := lrounded (gl := gl) (wn := wn) (k := k) (F := F) (m := evenS) (q := ⟨(steps F x + steps F y) * S F, 0, 0, 0⟩) AR o.sml hp (Q4.Good.num _) ssb (by omega)
    rw [roundQ_num ok] at a6
    have e1 : rz F evenS (steps F x + steps F y) + sgn (steps F x + steps F y) * half F = rpat F evenS (steps F x + steps F y) := rfl
    rw [e1] at a6
    have a7 := ltotal (gl := gl) (wn := wn) (k := k + 1) (F := F) (x := rpat F evenS (steps F x + steps F y)) AT o.sml f1.pt
    rw [f1.total] at a7
    have rb : (restS F (steps F x + steps F y)).natAbs < 2 ^ 22 := by omega
    have a8 := lrounded (gl := gl) (wn := wn) (k := k) (F := F) (m := evenS) (q := ⟨restS F (steps F x + steps F y) * S F, 0, 0, 0⟩) AR o.sml hp (Q4.Good.num _) (mul_lt rb o.S_lt) (by omega)
    rw [roundQ_num ok] at a8
    have e3 : rz F evenS (restS F (steps F x + steps F y)) + sgn (restS F (steps F x + steps F y)) * half F = rpat F evenS (restS F (steps F x + steps F y)) := rfl
    rw [e3] at a8
    have e2 : (steps F x + steps F y) * S F - steps F (rpat F evenS (steps F x + steps F y)) * S F = restS F (steps F x + steps F y) * S F := by
      unfold restS
      rw [Int.sub_mul]
    rw [callN_eq (A.get (i := 170) (by decide)) rfl]
    change callN tab gl wn (k + 7) _ _ = _ at a4
    generalize callN tab gl wn (k + 7) = cf at *
    rw [← ab] at hc'
    have i0 : ∀ a : Int, ixD (Q4.d ⟨a, 0, 0, 0⟩) (.int 0) = some (I a) := fun _ => rfl
    have ev : evenS = ("even" : String) := rfl
    rw [ev] at a6 a8 a7 e2 ⊢
    generalize rpat F ("even" : String) (restS F (steps F x + steps F y)) = r2 at *
    generalize rpat F ("even" : String) (steps F x + steps F y) = r1 at *
    generalize restS F (steps F x + steps F y) * S F = rs at *
    generalize (steps F x + steps F y) * S F = s at *
    generalize steps F r1 * S F = sr at *
    generalize size F (ltopV F) * S F = t at *
    have a8' : cf 153 [F.d, .str ("even" : String), .tup [I rs, I 0, I 0, I 0]] = some (I r2) := a8
    simp [b170, exs_cons, seqF_def, startE, a1, a2, a3, a4, a5, a6, a7, a8', i0, hc', e2]
end
end Vp.U

end

section
set_option Elab.async false
set_option linter.all false
set_option autoImplicit false
set_option maxRecDepth 100000
set_option maxHeartbeats 0
/-! helpers for the laws -/
namespace Vp.U
open Vp L2 PySem
theorem drawn {ns : List Int} {n : Nat} {lim : Int} (hl : ns.length = n) (hr : ∀ n ∈ ns, 0 ≤ n ∧ n < lim) {j : Int} (h0 : 0 ≤ j) (h1 : j < n) : ∃ q, atI (ns.map D.int) j = some (I q) ∧ 0 ≤ q ∧ q < lim := by
  have hj : j.toNat < ns.length := by omega
  exact ⟨ns[j.toNat], atI_ints h0 hj, hr _ (List.getElem_mem hj)⟩
@[simp] theorem listof_lst {ds : List D} : bfO .listof [.lst ds] = some ds := (rfl)

theorem ne_pair {a b c d : Int} : cmpD .NotEq (.tup [I a, I b]) (.tup [I c, I d]) = some !(decide (a = c) && decide (b = d)) := by
  rw [show cmpD .NotEq (.tup [I a, I b]) (.tup [I c, I d]) = (cmpD .Eq (.tup [I a, I b]) (.tup [I c, I d])).map (!·) from rfl, eq_pair]
  rfl
theorem sh4 (q : Q4) : SeqAt.shaped (D.py q.d) = true := rfl
theorem ne4 (q : Q4) : cmpD .NotEq q.d q.d = some false := by
  rw [show cmpD .NotEq q.d q.d = (cmpD .Eq q.d q.d).map (!·) from rfl, show cmpD .Eq q.d q.d = some true from eq_tup_refl (sh4 q)]
  rfl
theorem sl_tup {cf : Nat → List D → Option D} {gl : Nat → Option D} {a : Ex} {lo hi : Opt} {E : Env'} {ds : List D} {l u : Option Int} (h1 : ev cf gl a E = some (.tup ds)) (h2 : partD (evP cf gl lo) E = some l) (h3 : partD (evP cf gl hi) E = some u) (h : ¬ (HT.sIx ds.length 0 l = 0 ∧ HT.sIx ds.length ds.length u = ds.length)) : ap3 slD (ev cf gl a) (partD (evP cf gl lo)) (partD (evP cf gl hi)) E = some (.tup (cutD ds l u)) := by
  unfold ap3
  rw [h1, h2, h3]
  show (if _ then none else some _) = _
  rw [if_neg h]
theorem splitD_comm {F : Fm} {x y : Int} : splitD F x y = splitD F y x := by
  unfold splitD
  rw [Int.add_comm]
/-- the kind of a drawn format -/
theorem kd_ix {q : Int} (h : 0 ≤ q) : atI [D.str ("ieee" : String), D.str ("full" : String)] (q % 2) = some (.str (Fm.kd ⟨decide (q % 2 = 1), 0, 0⟩)) := by
  unfold Fm.kd
  have h2 : q % 2 = 0 ∨ q % 2 = 1 := by omega
  rcases h2 with h2 | h2 <;> rw [h2] <;> rfl
end Vp.U

end

section
set_option Elab.async false
set_option linter.all false
set_option autoImplicit false
set_option maxRecDepth 100000
set_option maxHeartbeats 0
/-! steps of a list and totals at once -/
namespace Vp.U
open Vp L2 PySem
theorem depth_ints : ∀ ns : List Int, PyData.depthAll (D.pys (ns.map .int)) ≤ 1
  | [] => by simp [D.pys, PyData.depthAll]
  | n :: r => by
    have := depth_ints r
    simp only [List.map_cons, D.pys, D.py, PyData.depthAll, PyData.depth]
    omega
theorem lay_ints : ∀ ns : List Int, PyData.canLayAll0 (D.pys (ns.map .int)) = true
  | [] => rfl
  | n :: r => by
    simp only [List.map_cons, D.pys, D.py, PyData.canLayAll0, PyData.canLay0, lay_ints r, Bool.and_self]
theorem sh_ints (ns : List Int) : SeqAt.shaped (D.py (.lst (ns.map .int))) = true := by
  unfold SeqAt.shaped
  simp only [D.py, PyData.canLay0, lay_ints, Bool.true_and, decide_eq_true_eq, PyData.depth]
  have := depth_ints ns
  omega
theorem eqv_ints : ∀ a b : List Int, PyData.eqvAll (D.pys (a.map .int)) (D.pys (b.map .int)) = decide (a = b)
  | [], [] => rfl
  | [], _ :: _ => rfl
  | _ :: _, [] => rfl
  | x :: a, y :: b => by
    simp only [List.map_cons, D.pys, D.py, PyData.eqvAll, PyData.eqv, eqv_ints a b, List.cons.injEq]
    by_cases h1 : x = y <;> by_cases h2 : a = b <;> simp [h1, h2]
theorem eq_ints {a b : List Int} : cmpD .Eq (.lst (a.map .int)) (.lst (b.map .int)) = some (decide (a = b)) := by
  show (if SeqAt.shaped (D.py (.lst (a.map .int))) = true ∧ SeqAt.shaped (D.py (.lst (b.map .int))) = true then some (PyData.eqv (D.py (.lst (a.map .int))) (D.py (.lst (b.map .int)))) else none) = _
  rw [if_pos ⟨sh_ints a, sh_ints b⟩]
  simp only [D.py, PyData.eqv, eqv_ints]
theorem ne_ints {a b : List Int} : cmpD .NotEq (.lst (a.map .int)) (.lst (b.map .int)) = some (!decide (a = b)) := by
  rw [show cmpD .NotEq (.lst (a.map .int)) (.lst (b.map .int)) = (cmpD .Eq (.lst (a.map .int)) (.lst (b.map .int))).map (!·) from rfl, eq_ints]
  rfl
theorem ixOwn_at {i : Nat} {fb : Env' → Option D} {E : Env'} {ds : List D} {j : Int} (h : E[i]? = some (.o ds)) (hf : fb E = some (.int j)) : ixOwn i fb E = atI ds j := by
  unfold ixOwn
  rw [h]
  show (fb E).bind _ = _
  rw [hf]
  rfl
theorem atI_last {α : Type} {l : List α} {d : α} : atI (l ++ [d]) (-1) = some d := by
  unfold atI ixN
  rw [if_neg (by decide), if_pos (by simp only [List.length_append, List.length_singleton]; omega), Option.bind_some]
  rw [show ((-1 : Int) + ((l ++ [d]).length : Nat)).toNat = l.length from by simp only [List.length_append, List.length_singleton]; omega]
  simp
theorem roundQ_pt {F : Fm} (o : F.Ok) (hp : 1 ≤ F.p) {m : Str} {q : Q4} (hg : q.Good F) : Pt F (roundQ F m q) := by
  have hh := half_eq o
  have lt := ltop_lt o
  have p2 := two_pos F.p
  have p3 := two_pos (F.p - 1)
  have pp : two F.p = 2 * two (F.p - 1) := by
    have := two_add (a := 1) (b := F.p - 1) (by omega) (by omega)
    rw [show (1 : Int) + (F.p - 1) = F.p by omega] at this
    rw [this]
    rfl
  have tv : F.full = false → ltopV F = half F - two F.p - 1 := fun h => by
    unfold ltopV
    rw [h]
    rfl
  obtain ⟨s0, s1⟩ := sgn01 q.a
  have fin : ∀ y : Int, 0 ≤ y → y < half F * 2 → Pt F y := fun y h0 h1 => ⟨h0, by rw [← hh]; omega⟩
  unfold roundQ
  have ff : 0 < q.e ∨ 0 < q.b ∨ 0 < q.c → F.full = false := fun h => by
    cases z : F.full with
    | false => rfl
    | true =>
      have := hg.fu z
      omega
  split
  · rename_i h
    have hf := ff (by omega)
    rw [topE_p o hf]
    have := tv hf
    exact fin _ (by omega) (by omega)
  · split
    · rename_i h
      have hf := ff (by omega)
      rw [topE_p o hf]
      have := tv hf
      exact fin _ (by omega) (by omega)
    · split
      · rename_i h
        have hf := ff (by omega)
        rw [topE_p o hf]
        have := tv hf
        exact fin _ (by omega) (by omega)
      · have lo := lowV_is o (N := (q.a.natAbs : Nat)) (T := S F) (by omega) (S_pos F)
        have x0 := lo.x0
        have x1 := lo.x1
        generalize lowV F (q.a.natAbs : Nat) (S F) = x at *
        have r : 0 ≤ rnd F m (sgn q.a) (q.a.natAbs : Nat) (S F) x ∧ rnd F m (sgn q.a) (q.a.natAbs : Nat) (S F) x < half F := by
          unfold rnd
          split
          · rename_i h
            have h2 : x + 1 < half F := by
              rcases h.2 with h2 | h2
              · have := lt.2.2.1 h2
                omega
              · omega
            split <;> omega
          · omega
        have h2 : sgn q.a = 0 ∨ sgn q.a = 1 := by omega
        rcases h2 with h2 | h2
        · rw [h2] at r ⊢
          exact fin _ (by omega) (by omega)
        · rw [h2] at r ⊢
          exact fin _ (by omega) (by omega)
def at0 (xs : List Int) (i : Nat) : Int := xs[i]?.getD 0
theorem at0_get {xs : List Int} {i : Nat} {x : Int} (h : xs[i]? = some x) : at0 xs i = x := by
  unfold at0
  rw [h]
  rfl
theorem at0_mem {xs : List Int} {i : Nat} (h : i < xs.length) : at0 xs i ∈ xs := by
  rw [at0_get (List.getElem?_eq_getElem h)]
  exact List.getElem_mem h
section
variable (F : Fm) (m : Str) (x : Nat → Int)
noncomputable def totS : Nat → Q4
  | 0 => q0
  | i + 1 => totalQ F (roundQ F m ((totS i).add (totalQ F (x i))))
noncomputable def stp (i : Nat) : Int := roundQ F m ((totS F m x i).add (totalQ F (x i)))
noncomputable def sumS : Nat → Q4
  | 0 => q0
  | i + 1 => (sumS i).add (totalQ F (x i))
noncomputable def onc (i : Nat) : Int := roundQ F m (sumS F x (i + 1))
noncomputable def prt (n : Nat) : List Int := ((List.range n).filter fun i => !decide (stp F m x i = onc F m x i)).map fun (i : Nat) => (i : Int) + 1
noncomputable def dueS (n : Nat) : D := match prt F m x n with
  | [] => .tup [.str ("same" : String)]
  | i :: _ => .tup [.str ("parts" : String), I i]
theorem totS_good (i : Nat) : (totS F m x i).Good F := by
  cases i with
  | zero => exact Q4.Good.zero
  | succ i => exact Q4.Good.total _
theorem sumS_good (i : Nat) : (sumS F x i).Good F := by
  induction i with
  | zero => exact Q4.Good.zero
  | succ i ih => exact ih.add (Q4.Good.total _)
end
theorem total_lt {F : Fm} {x : Int} {n : Nat} (h : (steps F x * S F).natAbs < 2 ^ n) : (totalQ F x).a.natAbs < 2 ^ n := by
  unfold totalQ
  have z : 0 < 2 ^ n := Nat.pow_pos (by omega)
  split
  · exact z
  · split
    · unfold endQ
      split <;> exact z
    · exact h
theorem totS_lt {F : Fm} {m : Str} {x : Nat → Int} {n : Nat} (h : ∀ x, (steps F x * S F).natAbs < 2 ^ n) (i : Nat) : (totS F m x i).a.natAbs < 2 ^ n := by
  cases i with
  | zero => exact Nat.pow_pos (by omega)
  | succ i => exact total_lt (h _)
theorem sumS_lt {F : Fm} {x : Nat → Int} {n : Nat} (h : ∀ x, (steps F x * S F).natAbs < 2 ^ n) (i : Nat) : (sumS F x i).a.natAbs ≤ i * 2 ^ n := by
  induction i with
  | zero =>
    show (0 : Int).natAbs ≤ _
    omega
  | succ i ih =>
    have h2 := total_lt (h (x i))
    have : (sumS F x (i + 1)).a = (sumS F x i).a + (totalQ F (x i)).a := rfl
    rw [this, Nat.succ_mul]
    omega
theorem W8_tot {F : Fm} (o : F.W8) (x : Int) : (steps F x * S F).natAbs < 2 ^ 490 := mul_lt o.steps_lt o.S_lt
theorem Tny_tot {F : Fm} (o : F.Tny) (x : Int) : (steps F x * S F).natAbs < 2 ^ 33 := mul_lt o.steps_lt o.S_lt
theorem stp_lt {F : Fm} {m : Str} {x : Nat → Int} {n : Nat} (h : ∀ x, (steps F x * S F).natAbs < 2 ^ n) (i : Nat) : ((totS F m x i).add (totalQ F (x i))).a.natAbs < 2 ^ (n + 1) := by
  have h1 := totS_lt (m := m) (x := x) h i
  have h2 := total_lt (h (x i))
  exact add_lt h1 h2
theorem range_snoc {f : Nat → Int} {i : Nat} : ((List.range (i + 1)).map f).map D.int = ((List.range i).map f).map D.int ++ [.int (f i)] := by
  rw [List.range_succ, List.map_append, List.map_append]
  rfl
section
variable {tab : Nat → Option Fn} {gl : Nat → Option D} {wn k : Nat} {F : Fm}
abbrev stepTab : List Nat := [2, 3, 5, 6, 7, 8, 9, 10, 11, 12, 13, 14, 15, 16, 17, 18, 19, 20, 21, 22, 38, 39, 40, 41, 42, 43, 44, 45, 62, 110, 111, 114, 115, 116, 118, 119, 121, 122, 123]
theorem steps_body {m : Str} {xs : List Int} (A : Ag tab stepTab) (W : 64 ≤ wn) (o : F.W8) (hp : 1 ≤ F.p) (hm : isMode m) (hx : ∀ x ∈ xs, Pt F x) (g : gl 117 = some qNone.d) (g0 : gl 113 = some q0.d) (hn : xs.length ≤ 1000) :
    exs (callN tab gl wn (k + 9)) gl wn b537 (startE 6 [F.d, .str m, .lst (xs.map .int)]) = some (.ro (((List.range xs.length).map (stp F m (at0 xs))).map .int)) := by
  have a1 : ∀ q : Q4, q.a.natAbs < 2 ^ 600 → callN tab gl wn (k + 9) 123 [F.d, .str m, q.d] = some (I (roundQ F m q)) := fun q hq => rounded_total (k := k) (A.sub (by decide)) W o hp hm hq (by omega)
  have a2 : ∀ (q : Q4) (x : Int), Pt F x → callN tab gl wn (k + 9) 119 [F.d, q.d, I x] = some (q.add (totalQ F x)).d := fun q x h => added (k := k + 3) (A.sub (by decide)) W o.mid.ok h g
  have a3 : ∀ x : Int, Pt F x → callN tab gl wn (k + 9) 116 [F.d, I x] = some (totalQ F x).d := fun x h => total_of (k := k + 4) (A.sub (by decide)) W o.mid.ok h g
  generalize callN tab gl wn (k + 9) = cf at *
  obtain ⟨E', e1, c5, rfl⟩ := forF_inv (t := .nm 5) (b := exs cf gl wn b537_1) (xs.map .int)
    (fun i E => ∃ c5, E = [.f F.d, .f (.str m), .f (.lst (xs.map .int)), .o (((List.range i).map (stp F m (at0 xs))).map .int), .f (totS F m (at0 xs) i).d, c5])
    [.f F.d, .f (.str m), .f (.lst (xs.map .int)), .o [], .f q0.d, .u] ⟨_, rfl⟩ (by
      rintro i d E hd ⟨c5, rfl⟩
      rw [List.getElem?_map] at hd
      obtain ⟨x, hx1, rfl⟩ := Option.map_eq_some_iff.mp hd
      have hi := (List.getElem?_eq_some_iff.mp hx1).1
      have px := hx x (List.mem_of_getElem? hx1)
      have ex := at0_get hx1
      have b2 := a2 (totS F m (at0 xs) i) x px
      have b1 := a1 ((totS F m (at0 xs) i).add (totalQ F x)) (by
        have := stp_lt (m := m) (x := at0 xs) (W8_tot o) i
        rw [ex] at this
        exact Nat.lt_of_lt_of_le this (Nat.pow_le_pow_right (by omega) (by omega)))
      have es : stp F m (at0 xs) i = roundQ F m ((totS F m (at0 xs) i).add (totalQ F x)) := by
        unfold stp
        rw [ex]
      have ps : Pt F (stp F m (at0 xs) i) := roundQ_pt o.mid.ok hp ((totS_good F m _ i).add (Q4.Good.total _))
      have b3 := a3 _ ps
      have et : totS F m (at0 xs) (i + 1) = totalQ F (stp F m (at0 xs) i) := rfl
      rw [← es] at b1
      rw [← et] at b3
      have hl : (((List.range i).map (stp F m (at0 xs))).map D.int).length < lineN := by
        simp only [List.length_map, List.length_range, lineN_eq]
        omega
      refine ⟨_, [.f F.d, .f (.str m), .f (.lst (xs.map .int)), .o (((List.range (i + 1)).map (stp F m (at0 xs))).map .int), .f (totS F m (at0 xs) (i + 1)).d, .f (I x)], rfl, .inl ?_, _, rfl⟩
      rw [range_snoc]
      generalize ((List.range i).map (stp F m (at0 xs))).map D.int = ds at *
      generalize stp F m (at0 xs) i = st at *
      generalize totS F m (at0 xs) (i + 1) = t1 at *
      generalize (totS F m (at0 xs) i) = t0 at *
      generalize t0.add (totalQ F x) = t2 at *
      refine exs_nx (E' := [.f F.d, .f (.str m), .f (.lst (xs.map .int)), .o (ds ++ [I st]), .f t0.d, .f (I x)]) ?_ ?_
      · rw [frz_nil, ex1_app, appF_ok (ds := ds) (d := I st) rfl (by simp [b1, b2]) hl]
        rfl
      · refine exs_nx (E' := [.f F.d, .f (.str m), .f (.lst (xs.map .int)), .o (ds ++ [I st]), .f t1.d, .f (I x)]) ?_ rfl
        have e9 : ev cf gl (.subO 3 (.neg (.int 1))) [.f F.d, .f (.str m), .f (.lst (xs.map .int)), .o (ds ++ [I st]), .f t0.d, .f (I x)] = some (I st) := by
          rw [ev_subO, ixOwn_at (ds := ds ++ [I st]) (j := -1) rfl rfl, atI_last]
        rw [frz_nil, ex1_asg, ev_call, evs_cons, evs_cons, e9]
        simp [b3])
  refine exs_nx (E' := [.f F.d, .f (.str m), .f (.lst (xs.map .int)), .o [], .u, .u]) (by simp [startE]) ?_
  refine exs_nx (E' := [.f F.d, .f (.str m), .f (.lst (xs.map .int)), .o [], .f q0.d, .u]) (by simp [g0]) ?_
  rw [List.length_map] at e1
  refine exs_nx (E' := _) (by rw [frz_nil, ex1_for]; exact e1) ?_
  refine exs_ro ?_
  rw [frz_nil, ex1_retO]
  exact retOF_ok rfl
theorem steps_of {m : Str} {xs : List Int} (A : Ag tab (537 :: stepTab)) (W : 64 ≤ wn) (o : F.W8) (hp : 1 ≤ F.p) (hm : isMode m) (hx : ∀ x ∈ xs, Pt F x) (g : gl 117 = some qNone.d) (g0 : gl 113 = some q0.d) (hn : xs.length ≤ 1000) :
    callN tab gl wn (k + 10) 537 [F.d, .str m, .lst (xs.map .int)] = some (.lst (((List.range xs.length).map (stp F m (at0 xs))).map .int)) ∧
    callN tab gl wn (k + 10) (537 + ownN) [F.d, .str m, .lst (xs.map .int)] = some (.lst (((List.range xs.length).map (stp F m (at0 xs))).map .int)) := by
  have h := steps_body (k := k) (m := m) (xs := xs) (A.sub (l' := stepTab) (by decide)) W o hp hm hx g g0 hn
  constructor
  · rw [callN_eq (A.get (i := 537) (by decide)) rfl, h]
    rfl
  · rw [callO_eq (A.get (i := 537) (by decide)) rfl, h]
    rfl
theorem once_of {m : Str} {xs : List Int} (A : Ag tab (165 :: stepTab)) (W : 64 ≤ wn) (o : F.W8) (hp : 1 ≤ F.p) (hm : isMode m) (hx : ∀ x ∈ xs, Pt F x) (g : gl 117 = some qNone.d) (g0 : gl 113 = some q0.d) (hn : xs.length ≤ 1000) :
    callN tab gl wn (k + 10) 165 [F.d, .str m, .lst (xs.map .int)] = some (.lst (((List.range xs.length).map (onc F m (at0 xs))).map .int)) := by
  have a1 : ∀ q : Q4, q.a.natAbs < 2 ^ 600 → callN tab gl wn (k + 9) 123 [F.d, .str m, q.d] = some (I (roundQ F m q)) := fun q hq => rounded_total (k := k) (A.sub (by decide)) W o hp hm hq (by omega)
  have a2 : ∀ (q : Q4) (x : Int), Pt F x → callN tab gl wn (k + 9) 119 [F.d, q.d, I x] = some (q.add (totalQ F x)).d := fun q x h => added (k := k + 3) (A.sub (by decide)) W o.mid.ok h g
  rw [callN_eq (A.get (i := 165) (by decide)) rfl]
  generalize callN tab gl wn (k + 9) = cf at *
  obtain ⟨E', e1, c5, rfl⟩ := forF_inv (t := .nm 5) (b := exs cf gl wn b165_1) (xs.map .int)
    (fun i E => ∃ c5, E = [.f F.d, .f (.str m), .f (.lst (xs.map .int)), .o (((List.range i).map (onc F m (at0 xs))).map .int), .f (sumS F (at0 xs) i).d, c5])
    [.f F.d, .f (.str m), .f (.lst (xs.map .int)), .o [], .f q0.d, .u] ⟨_, rfl⟩ (by
      rintro i d E hd ⟨c5, rfl⟩
      rw [List.getElem?_map] at hd
      obtain ⟨x, hx1, rfl⟩ := Option.map_eq_some_iff.mp hd
      have hi := (List.getElem?_eq_some_iff.mp hx1).1
      have px := hx x (List.mem_of_getElem? hx1)
      have ex := at0_get hx1
      have b2 := a2 (sumS F (at0 xs) i) x px
      have b1 := a1 (sumS F (at0 xs) (i + 1)) (by
        have := sumS_lt (x := at0 xs) (W8_tot o) (i + 1)
        have h2 : (i + 1) * 2 ^ 490 < 2 ^ 600 := by
          have h3 : (i + 1) * 2 ^ 490 ≤ 2 ^ 10 * 2 ^ 490 := Nat.mul_le_mul_right _ (by omega)
          have h4 : (2 : Nat) ^ 10 * 2 ^ 490 < 2 ^ 600 := by decide
          omega
        omega)
      have et : sumS F (at0 xs) (i + 1) = (sumS F (at0 xs) i).add (totalQ F x) := by
        rw [← ex]
        rfl
      rw [← et] at b2
      have es : onc F m (at0 xs) i = roundQ F m (sumS F (at0 xs) (i + 1)) := rfl
      rw [← es] at b1
      have hl : (((List.range i).map (onc F m (at0 xs))).map D.int).length < lineN := by
        simp only [List.length_map, List.length_range, lineN_eq]
        omega
      refine ⟨_, [.f F.d, .f (.str m), .f (.lst (xs.map .int)), .o (((List.range (i + 1)).map (onc F m (at0 xs))).map .int), .f (sumS F (at0 xs) (i + 1)).d, .f (I x)], rfl, .inl ?_, _, rfl⟩
      rw [range_snoc]
      generalize ((List.range i).map (onc F m (at0 xs))).map D.int = ds at *
      generalize onc F m (at0 xs) i = st at *
      generalize sumS F (at0 xs) (i + 1) = t1 at *
      generalize (sumS F (at0 xs) i) = t0 at *
      refine exs_nx (E' := [.f F.d, .f (.str m), .f (.lst (xs.map .int)), .o ds, .f t1.d, .f (I x)]) (by simp [b2]) ?_
      refine exs_nx (E' := [.f F.d, .f (.str m), .f (.lst (xs.map .int)), .o (ds ++ [I st]), .f t1.d, .f (I x)]) ?_ rfl
      rw [frz_nil, ex1_app, appF_ok (ds := ds) (d := I st) rfl (by simp [b1]) hl]
      rfl)
  rw [List.length_map] at e1
  have hh : exs cf gl wn b165 (startE 6 [F.d, .str m, .lst (xs.map .int)]) = some (.rt (.lst (((List.range xs.length).map (onc F m (at0 xs))).map .int))) := by
    refine exs_nx (E' := [.f F.d, .f (.str m), .f (.lst (xs.map .int)), .o [], .u, .u]) (by simp [startE]) ?_
    refine exs_nx (E' := [.f F.d, .f (.str m), .f (.lst (xs.map .int)), .o [], .f q0.d, .u]) (by simp [g0]) ?_
    refine exs_nx (E' := _) (by rw [frz_nil, ex1_for]; exact e1) ?_
    refine exs_rt ?_
    rfl
  rw [hh]
  rfl
theorem len_ok {α : Type} {l : List α} {n : Nat} (h : l.length ≤ n) (hn : n ≤ 16777216) : l.length ≤ lineN := by
  rw [lineN_eq]
  omega
theorem find_steps {m : Str} {xs : List Int} (A : Ag tab (537 :: 165 :: 166 :: stepTab)) (W : 64 ≤ wn) (o : F.W8) (hp : 1 ≤ F.p) (hm : isMode m) (hx : ∀ x ∈ xs, Pt F x) (g : gl 117 = some qNone.d) (g0 : gl 113 = some q0.d) (hn : xs.length ≤ 1000) :
    callN tab gl wn (k + 11) 166 [F.d, .str m, .lst (xs.map .int)] = some (dueS F m (at0 xs) xs.length) := by
  have a1 := (steps_of (k := k) (m := m) (xs := xs) (A.sub (l' := 537 :: stepTab) (by decide)) W o hp hm hx g g0 hn).1
  have a2 := once_of (k := k) (m := m) (xs := xs) (A.sub (l' := 165 :: stepTab) (by decide)) W o hp hm hx g g0 hn
  rw [callN_eq (A.get (i := 166) (by decide)) rfl]
  generalize callN tab gl wn (k + 10) = cf at *
  have ez : (((((List.range xs.length).map (stp F m (at0 xs))).map D.int).zip (((List.range xs.length).map (onc F m (at0 xs))).map D.int)).map fun p => D.tup [p.1, p.2]) = (List.range xs.length).map fun i => .tup [I (stp F m (at0 xs) i), I (onc F m (at0 xs) i)] := by
    rw [List.map_map, List.map_map, List.zip_map', List.map_map]
    rfl
  have en : ((List.range xs.length).map fun i => D.tup [I (stp F m (at0 xs) i), I (onc F m (at0 xs) i)]).zipIdx.map (fun p => D.tup [.int (p.2 : Nat), p.1]) = (List.range xs.length).map fun i => .tup [I (i : Nat), .tup [I (stp F m (at0 xs) i), I (onc F m (at0 xs) i)]] := by
    refine List.ext_getElem (by simp) fun i h1 h2 => ?_
    simp
  have hh : exs cf gl wn b166 (startE 7 [F.d, .str m, .lst (xs.map .int)]) = some (.rt (dueS F m (at0 xs) xs.length)) := by
    let ps : D := .lst ((List.range xs.length).map fun i => .tup [I (stp F m (at0 xs) i), I (onc F m (at0 xs) i)])
    let so : D := .lst ((prt F m (at0 xs) xs.length).map .int)
    refine exs_nx (E' := [.f F.d, .f (.str m), .f (.lst (xs.map .int)), .f ps, .u, .u, .u]) ?_ ?_
    · have e1 : evL cf gl (.zpl (.call 537 (.cons (.loc 0) (.cons (.loc 1) (.cons (.loc 2) .nil)))) (.call 165 (.cons (.loc 0) (.cons (.loc 1) (.cons (.loc 2) .nil))))) [.f F.d, .f (.str m), .f (.lst (xs.map .int)), .u, .u, .u, .u] = some ((List.range xs.length).map fun i => .tup [I (stp F m (at0 xs) i), I (onc F m (at0 xs) i)]) := by
        rw [← ez, evL_zpl]
        simp [a1, a2]
      rw [frz_nil, ex1_asg, ev_lis, show startE 7 [F.d, .str m, .lst (xs.map .int)] = [.f F.d, .f (.str m), .f (.lst (xs.map .int)), .u, .u, .u, .u] from rfl, e1]
      rfl
    refine exs_nx (E' := [.f F.d, .f (.str m), .f (.lst (xs.map .int)), .f ps, .f so, .u, .u]) ?_ ?_
    · have e2 : evL cf gl (.comp [5, 6] (.tp [(.nm 5), (.nm 6)]) (.bin .add (.loc 5) (.int 1)) (.yes (.cmp .NotEq (.sub (.loc 6) (.int 0)) (.sub (.loc 6) (.int 1)))) (.fn .enum (.cons (.loc 3) .nil))) [.f F.d, .f (.str m), .f (.lst (xs.map .int)), .f ps, .u, .u, .u] = some ((prt F m (at0 xs) xs.length).map .int) := by
        have e3 : evI cf gl (.fn .enum (.cons (.loc 3) .nil)) [.f F.d, .f (.str m), .f (.lst (xs.map .int)), .f ps, .u, .u, .u] = some ((List.range xs.length).map fun i => .tup [I (i : Nat), .tup [I (stp F m (at0 xs) i), I (onc F m (at0 xs) i)]]) := by
          rw [← en]
          rfl
        rw [evL_comp, e3, Option.bind_some, if_pos (len_ok (n := 1000) (by simp only [List.length_map, List.length_range]; exact hn) (by omega))]
        rw [compL_filM (p := fun i => !decide (stp F m (at0 xs) i = onc F m (at0 xs) i)) (g := fun i => I ((i : Nat) + 1))]
        · unfold prt
          rw [List.map_map]
          rfl
        · intro i hi
          have j0 : ∀ a b : D, atI [a, b] 0 = some a := fun _ _ => rfl
          have j1 : ∀ a b : D, atI [a, b] 1 = some b := fun _ _ => rfl
          refine ⟨[.f F.d, .f (.str m), .f (.lst (xs.map .int)), .f ps, .u, .f (I (i : Nat)), .f (.tup [I (stp F m (at0 xs) i), I (onc F m (at0 xs) i)])], rfl, ?_, fun _ => ?_⟩
          · simp [j0, j1]
          · simp
      rw [frz_nil, ex1_asg, ev_lis, e2]
      rfl
    refine exs_rt ?_
    rw [frz_nil, ex1_ret]
    have e4 : ev cf gl (.ife (.loc 4) (.tup (.cons (.str ("parts" : String)) (.cons (.sub (.loc 4) (.int 0)) .nil))) (.tup (.cons (.str ("same" : String)) .nil))) [.f F.d, .f (.str m), .f (.lst (xs.map .int)), .f ps, .f so, .u, .u] = some (dueS F m (at0 xs) xs.length) := by
      unfold dueS
      simp only [so]
      cases prt F m (at0 xs) xs.length with
      | nil => rfl
      | cons i r =>
        have j0 : ∀ (a : D) (l : List D), atI (a :: l) 0 = some a := fun a l => by
          have := atI_nat (ds := a :: l) (k := 0) (by simp)
          exact this
        simp [j0]
    rw [e4]
    rfl
  rw [hh]
  rfl
/-- what the judge tells of a paper's words -/
noncomputable def judS (F : Fm) (m : Str) (x : Nat → Int) (n : Nat) : List D → Bool
  | [.str s] => decide (s = ("same" : String)) && decide ((List.range n).map (stp F m x) = (List.range n).map (onc F m x))
  | [.str s, .int j] => decide (s = ("parts" : String)) && (decide (1 ≤ j ∧ j ≤ n) && !decide (stp F m x (j - 1).toNat = onc F m x (j - 1).toNat))
  | _ => false
def isPaper : List D → Bool
  | [] => true
  | [.str _] => true
  | [.str _, .int _] => true
  | [.str _, .int _, .int _] => true
  | _ => false
theorem is_whole {j : Int} (A : Ag tab [1]) : callN tab gl wn (k + 1) 1 [I j] = some (.bl true) := by
  rw [callN_eq (A.get (i := 1) (by decide)) rfl]
  generalize callN tab gl wn k = cf at *
  simp [b1, exs_cons, seqF_def, startE, Vp.Sh.isi_simp]
theorem judge_steps {m : Str} {xs : List Int} {vs : List D} (A : Ag tab (1 :: 537 :: 165 :: 167 :: stepTab)) (W : 64 ≤ wn) (o : F.W8) (hp : 1 ≤ F.p) (hm : isMode m) (hx : ∀ x ∈ xs, Pt F x) (g : gl 117 = some qNone.d) (g0 : gl 113 = some q0.d) (hn : xs.length ≤ 1000) (hv : isPaper vs = true) :
    callN tab gl wn (k + 11) 167 [F.d, .str m, .lst (xs.map .int), .tup vs] = some (.bl (judS F m (at0 xs) xs.length vs)) := by
  have a1 := (steps_of (k := k) (m := m) (xs := xs) (A.sub (l' := 537 :: stepTab) (by decide)) W o hp hm hx g g0 hn).1
  have a2 := once_of (k := k) (m := m) (xs := xs) (A.sub (l' := 165 :: stepTab) (by decide)) W o hp hm hx g g0 hn
  have a3 : ∀ j, callN tab gl wn (k + 10) 1 [I j] = some (.bl true) := fun j => is_whole (k := k + 9) (A.sub (by decide))
  have e5 := eq_ints (a := (List.range xs.length).map (stp F m (at0 xs))) (b := (List.range xs.length).map (onc F m (at0 xs)))
  have f1 : ∀ j : Int, 1 ≤ j → j ≤ xs.length → atI (((List.range xs.length).map (stp F m (at0 xs))).map D.int) (j - 1) = some (I (stp F m (at0 xs) (j - 1).toNat)) := fun j h1 h2 => by
    rw [atI_ints (by omega) (by simp only [List.length_map, List.length_range]; omega)]
    simp
  have f2 : ∀ j : Int, 1 ≤ j → j ≤ xs.length → atI (((List.range xs.length).map (onc F m (at0 xs))).map D.int) (j - 1) = some (I (onc F m (at0 xs) (j - 1).toNat)) := fun j h1 h2 => by
    rw [atI_ints (by omega) (by simp only [List.length_map, List.length_range]; omega)]
    simp
  have hl : (((List.range xs.length).map (stp F m (at0 xs))).map D.int).length = xs.length := by simp
  rw [callN_eq (A.get (i := 167) (by decide)) rfl]
  generalize callN tab gl wn (k + 10) = cf at *
  generalize hS : ((List.range xs.length).map (stp F m (at0 xs))).map D.int = ss at *
  generalize hO : ((List.range xs.length).map (onc F m (at0 xs))).map D.int = os at *
  have hh : exs cf gl wn b167 (startE 6 [F.d, .str m, .lst (xs.map .int), .tup vs]) = some (.rt (.bl (judS F m (at0 xs) xs.length vs))) := by
    refine exs_nx (E' := [.f F.d, .f (.str m), .f (.lst (xs.map .int)), .f (.tup vs), .f (.lst ss), .f (.lst os)]) (by simp [startE, a1, a2]) ?_
    have i0 : ∀ (a : D) (l : List D), atI (a :: l) 0 = some a := fun a l => by
      have := atI_nat (ds := a :: l) (k := 0) (by simp)
      exact this
    have i1 : ∀ (a b : D) (l : List D), atI (a :: b :: l) 1 = some b := fun a b l => by
      have := atI_nat (ds := a :: b :: l) (k := 1) (by simp)
      exact this
    match vs, hv with
    | [], _ => simp [exs_cons, seqF_def, judS]
    | [.str s], _ =>
      by_cases h : s = ("same" : String)
      · simp [exs_cons, seqF_def, judS, i0, h, e5]
      · simp [exs_cons, seqF_def, judS, i0, h]
    | [.str s, .int j], _ =>
      by_cases h : s = ("parts" : String)
      · by_cases h1 : 1 ≤ j
        · by_cases h2 : j ≤ xs.length
          · simp [exs_cons, seqF_def, judS, i0, i1, h, h1, h2, a3, hl, f1 j h1 h2, f2 j h1 h2]
          · simp [exs_cons, seqF_def, judS, i0, i1, h, h1, h2, a3, hl]
        · simp [exs_cons, seqF_def, judS, i0, i1, h, h1, a3]
      · simp [exs_cons, seqF_def, judS, i0, i1, h]
    | [.str s, .int j, .int l], _ => simp [exs_cons, seqF_def, judS]
  rw [hh]
  rfl
/-- where each beginning is a pattern's value, the steps are the same -/
theorem exact_same {m : Str} {x : Nat → Int} {n : Nat} (h : ∀ i, i < n → totalQ F (onc F m x i) = sumS F x (i + 1)) : prt F m x n = [] := by
  have key : ∀ i, i < n → stp F m x i = onc F m x i := by
    intro i
    induction i with
    | zero => intro _; rfl
    | succ i ih =>
      intro hi
      have e : totS F m x (i + 1) = totalQ F (stp F m x i) := rfl
      show roundQ F m ((totS F m x (i + 1)).add (totalQ F (x (i + 1)))) = roundQ F m ((sumS F x (i + 1)).add (totalQ F (x (i + 1))))
      rw [e, ih (by omega), h i (by omega)]
  unfold prt
  rw [List.filter_eq_nil_iff.mpr]
  · rfl
  · intro i hi
    rw [key i (List.mem_range.mp hi)]
    simp
end
end Vp.U

end

section
set_option Elab.async false
set_option linter.all false
set_option autoImplicit false
set_option maxRecDepth 100000
set_option maxHeartbeats 0
/-! texts: signs, digits -/
namespace Vp.U
open Vp L2 PySem
abbrev sl (l : List Nat) : Str := ⟨l.toArray⟩
theorem sl_app (a b : List Nat) : sl a ++ sl b = sl (a ++ b) := TL.ext_tl (by rw [TL.tl_append])
theorem sl_len (l : List Nat) : (sl l).length = l.length := by rw [TL.len_tl]
theorem sl_inj {a b : List Nat} : sl a = sl b ↔ a = b := ⟨fun h => by have := congrArg TL.tl h; exact this, fun h => by rw [h]⟩
theorem sl_str (s : String) : Str.ofString s = sl (s.toList.map Char.toNat) := TL.ext_tl (TL.tl_ofString s)
def dig (n : Nat) : Nat := if n < 10 then 48 + n else 87 + n
def digs (b n : Nat) : List Nat := if h : 2 ≤ b ∧ b ≤ n then digs b (n / b) ++ [n % b] else [n]
  termination_by n
  decreasing_by exact Nat.div_lt_self (by omega) (by omega)
theorem digs_lt {b n : Nat} (h : n < b) : digs b n = [n] := by
  unfold digs
  rw [dif_neg (by omega)]
theorem digs_step {b n : Nat} (hb : 2 ≤ b) (h : b ≤ n) : digs b n = digs b (n / b) ++ [n % b] := by
  conv => lhs; unfold digs
  rw [dif_pos ⟨hb, h⟩]
theorem digs_ne (b n : Nat) : digs b n ≠ [] := by
  unfold digs
  split <;> simp
theorem digs_pos (b n : Nat) : 0 < (digs b n).length := List.length_pos_iff.mpr (digs_ne b n)
theorem digs_mem {b n : Nat} (hb : 2 ≤ b) : ∀ d ∈ digs b n, d < b := by
  induction n using Nat.strongRecOn with
  | _ n ih =>
    by_cases h : n < b
    · rw [digs_lt h]
      intro d hd
      rw [List.mem_singleton.mp hd]
      exact h
    · rw [digs_step hb (by omega)]
      intro d hd
      rcases List.mem_append.mp hd with hd | hd
      · exact ih (n / b) (Nat.div_lt_self (by omega) (by omega)) d hd
      · rw [List.mem_singleton.mp hd]
        exact Nat.mod_lt n (by omega)
def val (b : Nat) (ds : List Nat) : Nat := ds.foldl (fun a d => a * b + d) 0
theorem val_snoc (b : Nat) (ds : List Nat) (d : Nat) : val b (ds ++ [d]) = val b ds * b + d := by
  unfold val
  rw [List.foldl_append]
  rfl
theorem val_digs {b n : Nat} (hb : 2 ≤ b) : val b (digs b n) = n := by
  induction n using Nat.strongRecOn with
  | _ n ih =>
    by_cases h : n < b
    · rw [digs_lt h]
      simp [val]
    · rw [digs_step hb (by omega), val_snoc, ih (n / b) (Nat.div_lt_self (by omega) (by omega)), Nat.mul_comm]
      exact Nat.div_add_mod n b
theorem val_zeros (b : Nat) (ds : List Nat) (k : Nat) : val b (ds ++ List.replicate k 0) = val b ds * b ^ k := by
  induction k with
  | zero => simp
  | succ k ih =>
    rw [List.replicate_succ', ← List.append_assoc, val_snoc, ih, Nat.pow_succ, Nat.mul_assoc, Nat.add_zero]
theorem val_lead (b : Nat) (ds : List Nat) (k : Nat) : val b (List.replicate k 0 ++ ds) = val b ds := by
  induction k with
  | zero => rfl
  | succ k ih =>
    rw [List.replicate_succ, List.cons_append]
    have : val b (0 :: (List.replicate k 0 ++ ds)) = val b (List.replicate k 0 ++ ds) := by
      unfold val
      rw [List.foldl_cons, Nat.zero_mul]
    rw [this, ih]
theorem digs_len {b n k : Nat} (hb : 2 ≤ b) (hk : 0 < k) (h : n < b ^ k) : (digs b n).length ≤ k := by
  induction k generalizing n with
  | zero => omega
  | succ k ih =>
    by_cases hn : n < b
    · rw [digs_lt hn, List.length_singleton]
      omega
    · rw [digs_step hb (by omega), List.length_append, List.length_singleton]
      have h2 : n / b < b ^ k := Nat.div_lt_of_lt_mul (by rw [Nat.pow_succ, Nat.mul_comm] at h; exact h)
      have hk0 : 0 < k := by
        rcases Nat.eq_zero_or_pos k with z | z
        · subst z
          simp at h
          omega
        · exact z
      have := ih hk0 h2
      omega
theorem digs_low {b n : Nat} (hb : 2 ≤ b) (h0 : 0 < n) : b ^ ((digs b n).length - 1) ≤ n := by
  induction n using Nat.strongRecOn with
  | _ n ih =>
    by_cases h : n < b
    · rw [digs_lt h]
      simp
      omega
    · have hq : 0 < n / b := Nat.div_pos (by omega) (by omega)
      have i := ih (n / b) (Nat.div_lt_self (by omega) (by omega)) hq
      have p := digs_pos b (n / b)
      rw [digs_step hb (by omega), List.length_append, List.length_singleton]
      have e : (digs b (n / b)).length + 1 - 1 = (digs b (n / b)).length - 1 + 1 := by omega
      rw [e, Nat.pow_succ]
      exact Nat.le_trans (Nat.mul_le_mul_right b i) (Nat.div_mul_le_self n b)
theorem digs_high {b n : Nat} (hb : 2 ≤ b) : n < b ^ (digs b n).length := by
  induction n using Nat.strongRecOn with
  | _ n ih =>
    by_cases h : n < b
    · rw [digs_lt h]
      simp
      omega
    · have i := ih (n / b) (Nat.div_lt_self (by omega) (by omega))
      rw [digs_step hb (by omega), List.length_append, List.length_singleton, Nat.pow_succ]
      exact (Nat.div_lt_iff_lt_mul (by omega)).mp i
theorem digs_shift {b n : Nat} (hb : 2 ≤ b) (h0 : 0 < n) (k : Nat) : digs b (n * b ^ k) = digs b n ++ List.replicate k 0 := by
  induction k with
  | zero => simp
  | succ k ih =>
    have hp : 0 < b ^ k := Nat.pow_pos (by omega)
    have h1 : 1 ≤ n * b ^ k := Nat.mul_pos h0 hp
    have e : n * b ^ (k + 1) = n * b ^ k * b := by rw [Nat.pow_succ, Nat.mul_assoc]
    have h2 : b ≤ n * b ^ k * b := by
      have := Nat.mul_le_mul_right b h1
      omega
    rw [e, digs_step hb h2, Nat.mul_div_cancel _ (by omega), ih, Nat.mul_mod_left, List.replicate_succ', List.append_assoc]
theorem dig_num (n : Nat) : (digs 10 n).map dig = TL.numL n := by
  induction n using Nat.strongRecOn with
  | _ n ih =>
    by_cases h : n < 10
    · rw [digs_lt h, TL.numL_lt h]
      simp [dig, h]
    · have hm : n % 10 < 10 := Nat.mod_lt n (by omega)
      rw [digs_step (by omega) (by omega), TL.numL_step (by omega), List.map_append, ih (n / 10) (by omega)]
      simp [dig, hm]
def signsS : Str := ("0123456789abcdef" : String)
theorem signs_len : signsS.length = 16 := by decide +kernel
theorem signs_get : ∀ i, i < 16 → (TL.tl signsS)[i]? = some (dig i) := by decide +kernel
theorem signs_occ : ∀ i, i < 16 → (Builtin.Str.occurrences signsS (sl [dig i]) 0 signsS.length 1).head? = some i := by decide +kernel
theorem signs_take : ∀ b, b ≤ 16 → ∀ d, d < b → dig d ∈ (TL.tl signsS).take b := by decide +kernel
theorem dec_mem : ∀ d, d < 10 → dig d ∈ TL.tl (Str.ofString "0123456789") := by decide +kernel
theorem ix_str {z : Str} {i : Int} : ixD (.str z) (.int i) = if z.length ≤ lineN then (atI z.cps.toList i).map fun c => .str ⟨#[c]⟩ else none := (rfl)
theorem sign_ix {i : Int} (h0 : 0 ≤ i) (h1 : i < 16) : ixD (.str signsS) (.int i) = some (.str (sl [dig i.toNat])) := by
  rw [ix_str, signs_len, if_pos (by rw [lineN_eq]; omega), atI_get (k := i.toNat) (by omega) (signs_get _ (by omega))]
  rfl
theorem sl_ix {l : List Nat} {i : Int} (h0 : 0 ≤ i) (h1 : i < l.length) (hl : l.length ≤ 16777216) : ixD (.str (sl l)) (.int i) = some (.str (sl [l[i.toNat]'(by omega)])) := by
  rw [ix_str, sl_len, if_pos (by rw [lineN_eq]; exact hl), atI_get (k := i.toNat) (d := l[i.toNat]'(by omega)) (by omega) (List.getElem?_eq_getElem (by omega))]
  rfl
theorem sign_index {i : Nat} (h : i < 16) : mtD .index (.str signsS) [.str (sl [dig i])] = some (.int (i : Nat)) := by
  show (Builtin.Str.occurrences signsS (sl [dig i]) 0 signsS.length 1).head?.map _ = _
  rw [signs_occ i h]
  rfl
theorem items_sl {l : List Nat} : itemsD (.str (sl l)) = some (l.map fun c => .str (sl [c])) := (rfl)
theorem emp : (("" : String) : Str) = sl [] := by decide +kernel
theorem in_one {c : Nat} {z : Str} : cmpD .In (.str (sl [c])) (.str z) = some (decide (c ∈ TL.tl z)) := (rfl)
theorem joinL_one : ∀ l : List Nat, TL.joinL [] (l.map fun c => [c]) = l
  | [] => rfl
  | [_] => rfl
  | a :: b :: r => by
    have := joinL_one (b :: r)
    show [a] ++ ([] ++ TL.joinL [] ((b :: r).map fun c => [c])) = _
    rw [this]
    rfl
theorem strsOf_map : ∀ l : List Nat, strsOf (l.map fun c => .str (sl [c])) = some (l.map fun c => sl [c])
  | [] => rfl
  | c :: r => by
    show (strsOf (r.map fun c => .str (sl [c]))).map (sl [c] :: ·) = _
    rw [strsOf_map r]
    rfl
theorem sum_ones : ∀ l : List Nat, ((l.map fun c => sl [c]).map (·.length)).sum = l.length
  | [] => rfl
  | c :: r => by
    rw [List.map_cons, List.map_cons, List.sum_cons, sum_ones r, List.length_cons]
    show 1 + r.length = _
    omega
theorem join_sl {l : List Nat} (h : l.length ≤ 16777216) : mtD .join (.str (sl [])) [.lst (l.map fun c => .str (sl [c]))] = some (.str (sl l)) := by
  show ((some (l.map fun c => D.str (sl [c]))).bind strsOf).bind (fun ys => if (ys.map (·.length)).sum + ys.length * (sl []).length ≤ 16777216 then some (D.str (Txt.join (sl []) ys)) else none) = _
  rw [Option.bind_some, strsOf_map, Option.bind_some, sum_ones, sl_len, List.length_nil, Nat.mul_zero, Nat.add_zero, if_pos h]
  congr 2
  refine TL.ext_tl ?_
  rw [TL.join_eq, TL.tl_join, List.map_map]
  exact joinL_one l
theorem times_sl {c : Nat} {k : Int} (h : k ≤ 1000000) (h0 : -1000000 ≤ k) : binD .mul (.str (sl [c])) (.int k) = some (.str (sl (List.replicate k.toNat c))) := by
  rw [mul_str, if_pos ⟨h, h0, by rw [sl_len, List.length_singleton]; omega⟩]
  congr 2
  refine TL.ext_tl ?_
  show (List.replicate k.toNat [c]).flatten = List.replicate k.toNat c
  induction k.toNat with
  | zero => rfl
  | succ n ih => rw [List.replicate_succ, List.flatten_cons, ih, List.replicate_succ]; rfl
theorem add_sl {a b : List Nat} (h : a.length + b.length ≤ 16777216) : binD .add (.str (sl a)) (.str (sl b)) = some (.str (sl (a ++ b))) := by
  rw [add_str, sl_len, sl_len, lineN_eq, if_pos h, sl_app]
theorem len_sl {l : List Nat} (h : l.length ≤ 16777216) : bfD .len [.str (sl l)] = some (.int (l.length : Nat)) := by
  rw [len_str, sl_len, lineN_eq, if_pos h]
theorem cut_none {α : Type} (xs : List α) {c : Int} (h : 0 ≤ c) : cutD xs none (some c) = xs.take c.toNat := cut_take xs h
theorem slice_sl {l : List Nat} {lo hi : Option Int} (h : l.length ≤ 16777216) : slD (.str (sl l)) lo hi = some (.str (sl (cutD l lo hi))) := by
  show (if (sl l).length ≤ lineN then some (D.str (cutS (sl l) lo hi)) else none) = _
  rw [sl_len, lineN_eq, if_pos h]
  congr 2
theorem part_yes {a b : List Nat} {c : Nat} (h : c ∉ a) (hl : (a ++ c :: b).length ≤ 16777216) : mtD .partition (.str (sl (a ++ c :: b))) [.str (sl [c])] = some (.tup [.str (sl a), .str (sl [c]), .str (sl b)]) := by
  show (if ((sl [c]).length == 0) = false ∧ (sl (a ++ c :: b)).length ≤ lineN then some (D.tup [.str (Txt.partition (sl (a ++ c :: b)) (sl [c])).1, .str (Txt.partition (sl (a ++ c :: b)) (sl [c])).2.1, .str (Txt.partition (sl (a ++ c :: b)) (sl [c])).2.2]) else none) = _
  rw [if_pos ⟨rfl, by rw [sl_len, lineN_eq]; exact hl⟩]
  have e : sl (a ++ c :: b) = sl a ++ sl [c] ++ sl b := by rw [sl_app, sl_app, List.append_assoc]; rfl
  rw [e, TL.partition_app (y := sl [c]) (s := c) (S := []) rfl h]
theorem part_no {a : List Nat} {c : Nat} (h : c ∉ a) (hl : a.length ≤ 16777216) : mtD .partition (.str (sl a)) [.str (sl [c])] = some (.tup [.str (sl a), .str (sl []), .str (sl [])]) := by
  show (if ((sl [c]).length == 0) = false ∧ (sl a).length ≤ lineN then some (D.tup [.str (Txt.partition (sl a) (sl [c])).1, .str (Txt.partition (sl a) (sl [c])).2.1, .str (Txt.partition (sl a) (sl [c])).2.2]) else none) = _
  rw [if_pos ⟨rfl, by rw [sl_len, lineN_eq]; exact hl⟩]
  rw [TL.partition_none (y := sl [c]) (s := c) (S := []) rfl h]
  rfl
/-- the signs of a whole number -/
def numI (i : Int) : List Nat := if i < 0 then 45 :: (digs 10 i.natAbs).map dig else (digs 10 i.natAbs).map dig
theorem num_str (i : Int) : (toString i : Str) = sl (numI i) := by
  refine TL.ext_tl ?_
  unfold numI
  by_cases h : i < 0
  · rw [if_pos h, dig_num]
    obtain ⟨n, rfl⟩ : ∃ n : Nat, i = Int.negSucc n := ⟨i.natAbs - 1, by omega⟩
    rw [TL.tl_ofString]
    show (("-" ++ Nat.repr (n + 1) : String).toList).map Char.toNat = _
    rw [String.toList_append, List.map_append]
    have e := TL.tl_num (n + 1)
    rw [TL.tl_ofString] at e
    have e' : (Nat.repr (n + 1)).toList.map Char.toNat = TL.numL (n + 1) := e
    rw [e']
    rfl
  · rw [if_neg h, dig_num]
    obtain ⟨n, rfl⟩ : ∃ n : Nat, i = (n : Int) := ⟨i.toNat, by omega⟩
    exact TL.tl_num n
end Vp.U

end

section
set_option Elab.async false
set_option linter.all false
set_option autoImplicit false
set_option maxRecDepth 100000
set_option maxHeartbeats 0
/-! texts of numbers: what the program's defs compute -/
namespace Vp.U
open Vp L2 PySem
theorem s_plus : Str.ofString "+" = sl [43] := by decide +kernel
theorem s_minus : Str.ofString "-" = sl [45] := by decide +kernel
theorem s_mark : Str.ofString "^" = sl [94] := by decide +kernel
theorem s_point : Str.ofString "." = sl [46] := by decide +kernel
theorem s_zero : Str.ofString "0" = sl [48] := by decide +kernel
theorem s_zp : Str.ofString "0." = sl [48, 46] := by decide +kernel
theorem dig_ge {d : Nat} (h : d < 16) : 48 ≤ dig d ∧ dig d ≤ 102 ∧ dig d ≠ 94 ∧ (dig d ≤ 57 ∨ 97 ≤ dig d) := by
  unfold dig
  split <;> omega
/-- a text of digits, with a point and a power -/
def pointL : Option (List Nat) → List Nat
  | none => []
  | some B => 46 :: B.map dig
def powL : Option Int → List Nat
  | none => []
  | some j => 94 :: numI j
def textL (A : List Nat) (B : Option (List Nat)) (P : Option Int) : List Nat := A.map dig ++ pointL B ++ powL P
def sgnL (s : Int) : List Nat := if s = 1 then [45] else []
/-- the layout of digits with a power -/
def spreadL (ds : List Nat) (k : Int) : List Nat :=
  if 0 ≤ k ∧ (ds.length : Int) + k ≤ 21 then textL (ds ++ List.replicate k.toNat 0) none none
  else if k < 0 ∧ 0 < (ds.length : Int) + k then textL (ds.take ((ds.length : Int) + k).toNat) (some (ds.drop ((ds.length : Int) + k).toNat)) none
  else if -7 < (ds.length : Int) + k ∧ (ds.length : Int) + k ≤ 0 then textL [0] (some (List.replicate (-(ds.length : Int) - k).toNat 0 ++ ds)) none
  else textL (ds.take 1) (if 1 < ds.length then some (ds.drop 1) else none) (some ((ds.length : Int) + k - 1))
def layL (b : Nat) (s : Int) (d : Nat) (k : Int) : List Nat := sgnL s ++ spreadL (digs b d) k
section
variable {tab : Nat → Option Fn} {gl : Nat → Option D} {wn k : Nat}
theorem are_digits {l : List Nat} {z : Str} (A : Ag tab [23]) (hne : l ≠ []) (hm : ∀ c ∈ l, c ∈ TL.tl z) (hl : l.length ≤ 16777216) : callN tab gl wn (k + 1) 23 [.str (sl l), .str z] = some (.bl true) := by
  rw [callN_eq (A.get (i := 23) (by decide)) rfl]
  generalize callN tab gl wn k = cf at *
  have e1 : evL cf gl (.comp [2] (.nm 2) (.cmp .In (.loc 2) (.loc 1)) .no (.ex (.loc 0))) [.f (.str (sl l)), .f (.str z), .u] = some ((l.map fun c => decide (c ∈ TL.tl z)).map .bl) := by
    rw [evL_comp, evI_ex, show ev cf gl (.loc 0) [.f (.str (sl l)), .f (.str z), .u] = some (.str (sl l)) from rfl, bind_s, items_sl, bind_s, if_pos (by rw [List.length_map, lineN_eq]; exact hl), List.map_map]
    exact compL_mapM (fun _ => rfl) fun c hc => ⟨[.f (.str (sl l)), .f (.str z), .f (.str (sl [c]))], rfl, rfl⟩
  have e2 : (l.map fun c => decide (c ∈ TL.tl z)).all id = true := by
    rw [List.all_eq_true]
    intro b hb
    obtain ⟨c, hc, rfl⟩ := List.mem_map.mp hb
    simpa using hm c hc
  have e3 : exs cf gl wn b23 (startE 3 [.str (sl l), .str z]) = some (.rt (.bl true)) := by
    refine exs_rt ?_
    rw [frz_nil, ex1_ret, show startE 3 [.str (sl l), .str z] = [.f (.str (sl l)), .f (.str z), .u] from rfl, ev_and, ev_one, ev_bf, evs_cons, ev_lis, e1, map_s, bind_s, evs_nil, map_s, bind_s, all_bls, e2]
    have : cmpD .NotEq (.str (sl l)) (.str (Str.ofString "")) = some true := by
      rw [ne_str, emp]
      simp [sl_inj, hne]
    simp [this, hne, emp]
  rw [e3]
  rfl
theorem number_in {ds : List Nat} {b : Nat} (A : Ag tab [24]) (g30 : gl 30 = some (.str signsS)) (hd : ∀ d ∈ ds, d < 16) (hb : b ≤ 16) (hl : ds.length ≤ 16777216) : callN tab gl wn (k + 1) 24 [.str (sl (ds.map dig)), I b] = some (I (val b ds : Nat)) := by
  rw [callN_eq (A.get (i := 24) (by decide)) rfl]
  generalize callN tab gl wn k = cf at *
  obtain ⟨E', e1, c, rfl⟩ := forF_inv (t := .nm 3) (b := exs cf gl wn b24_1) ((ds.map dig).map fun c => .str (sl [c]))
    (fun i E => ∃ c, E = [.f (.str (sl (ds.map dig))), .f (I b), .f (I (val b (ds.take i) : Nat)), c]) [.f (.str (sl (ds.map dig))), .f (I b), .f (I 0), .u] ⟨_, rfl⟩ (by
      rintro i d E hi ⟨c, rfl⟩
      rw [List.getElem?_map, List.getElem?_map] at hi
      obtain ⟨x, hx, rfl⟩ := Option.map_eq_some_iff.mp hi
      obtain ⟨y, hy, rfl⟩ := Option.map_eq_some_iff.mp hx
      have hy16 := hd y (List.mem_of_getElem? hy)
      have e2 : ds.take (i + 1) = ds.take i ++ [y] := by rw [List.take_add_one, hy]; rfl
      have mo : mulOk (val b (ds.take i) : Nat) (b : Int) = true := mulOk_r (by omega) (by omega)
      refine ⟨_, [.f (.str (sl (ds.map dig))), .f (I b), .f (I (val b (ds.take (i + 1)) : Nat)), .f (.str (sl [dig y]))], rfl, .inl ?_, _, rfl⟩
      rw [e2, val_snoc]
      refine exs_nx (E' := _) ?_ rfl
      have ei := sign_index hy16
      generalize val b (ds.take i) = v at *
      generalize sl (ds.map dig) = tx at *
      simp [g30, ei, mo])
  rw [List.length_map, List.length_map, List.take_length] at e1
  have e3 : exs cf gl wn b24 (startE 4 [.str (sl (ds.map dig)), I b]) = some (.rt (I (val b ds : Nat))) := by
    refine exs_nx (E' := [.f (.str (sl (ds.map dig))), .f (I b), .f (I 0), .u]) rfl ?_
    refine exs_nx (E' := [.f (.str (sl (ds.map dig))), .f (I b), .f (I (val b ds : Nat)), c]) ?_ (exs_rt rfl)
    rw [frz_nil, ex1_for, evI_ex, show ev cf gl (.loc 0) [.f (.str (sl (ds.map dig))), .f (I b), .f (I 0), .u] = some (.str (sl (ds.map dig))) from rfl, bind_s, items_sl, bind_s]
    exact e1
  rw [e3]
  rfl
theorem sign_in (c : Nat) : cmpD .In (.str (sl [c])) (.tup [.str (Str.ofString "+"), .str (Str.ofString "-")]) = some (decide (c = 43 ∨ c = 45)) := by
  show some ((Str.ofString "+" == sl [c]) || ((Str.ofString "-" == sl [c]) || false)) = _
  rw [s_plus, s_minus, Bool.or_false]
  congr 1
  rw [Bool.eq_iff_iff]
  simp only [Bool.or_eq_true, beq_iff_eq, sl_inj, List.cons.injEq, and_true, decide_eq_true_eq]
  constructor <;> rintro (h | h) <;> omega
theorem slice1 {cf : Nat → List D → Option D} {gl : Nat → Option D} {a : Ex} {lo hi : Opt} {E : Env'} {l : List Nat} {x y : Option Int} (h1 : ev cf gl a E = some (.str (sl l))) (h2 : partD (evP cf gl lo) E = some x) (h3 : partD (evP cf gl hi) E = some y) (hl : l.length ≤ 16777216) :
    ev cf gl (.sl a lo hi) E = some (.str (sl (cutD l x y))) := by
  rw [ev_sl]
  unfold ap3
  rw [h1, h2, h3]
  exact slice_sl hl
theorem wsign_minus {l : List Nat} (A : Ag tab [25]) (hl : l.length ≤ 16000000) : callN tab gl wn (k + 1) 25 [.str (sl (45 :: l))] = some (.tup [I 1, .str (sl l)]) := by
  rw [callN_eq (A.get (i := 25) (by decide)) rfl]
  generalize callN tab gl wn k = cf at *
  have e3 : exs cf gl wn b25 (startE 1 [.str (sl (45 :: l))]) = some (.rt (.tup [I 1, .str (sl l)])) := by
    have c1 : ev cf gl (.sl (.loc 0) .no (.yes (.int 1))) [.f (.str (sl (45 :: l)))] = some (.str (sl [45])) := by
      rw [slice1 (l := 45 :: l) (x := none) (y := some 1) rfl rfl rfl (by rw [List.length_cons]; omega), cut_none _ (by omega)]
      rfl
    have c2 : ev cf gl (.sl (.loc 0) (.yes (.int 1)) .no) [.f (.str (sl (45 :: l)))] = some (.str (sl l)) := by
      rw [slice1 (l := 45 :: l) (x := some 1) (y := none) rfl rfl rfl (by rw [List.length_cons]; omega), cut_drop _ (by omega)]
      rfl
    have c3 : ixD (.str (sl (45 :: l))) (.int 0) = some (.str (sl [45])) := by
      rw [sl_ix (by omega) (by simp) (by rw [List.length_cons]; omega)]
      rfl
    have si := sign_in 45
    have t : tev cf gl (.cmp .In (.sl (.loc 0) .no (.yes (.int 1))) (.tup (.cons (.str ("+" : String)) (.cons (.str ("-" : String)) .nil)))) [.f (.str (sl (45 :: l)))] = some true := by
      rw [tev_cmp, c1, bind_s]
      exact si
    refine exs_rt ?_
    rw [frz_nil, ex1_ife, show startE 1 [.str (sl (45 :: l))] = [.f (.str (sl (45 :: l)))] from rfl, t, bind_s, if_pos rfl]
    refine exs_rt ?_
    rw [frz_nil, ex1_ret, ev_tup, evs_cons, evs_cons, c2, ev_bf, evs_cons, ev_cmp, ev_sub, show ev cf gl (.loc 0) [.f (.str (sl (45 :: l)))] = some (.str (sl (45 :: l))) from rfl, bind_s, ev_int, bind_s, c3, bind_s, ev_str, bind_s, eq_str, s_minus]
    simp
  rw [e3]
  rfl
theorem wsign_none {c : Nat} {l : List Nat} (A : Ag tab [25]) (h1 : c ≠ 43) (h2 : c ≠ 45) (hl : l.length ≤ 16000000) : callN tab gl wn (k + 1) 25 [.str (sl (c :: l))] = some (.tup [I 0, .str (sl (c :: l))]) := by
  rw [callN_eq (A.get (i := 25) (by decide)) rfl]
  generalize callN tab gl wn k = cf at *
  have e3 : exs cf gl wn b25 (startE 1 [.str (sl (c :: l))]) = some (.rt (.tup [I 0, .str (sl (c :: l))])) := by
    have c1 : ev cf gl (.sl (.loc 0) .no (.yes (.int 1))) [.f (.str (sl (c :: l)))] = some (.str (sl [c])) := by
      rw [slice1 (l := c :: l) (x := none) (y := some 1) rfl rfl rfl (by rw [List.length_cons]; omega), cut_none _ (by omega)]
      rfl
    have si := sign_in c
    rw [decide_eq_false (by omega)] at si
    have t : tev cf gl (.cmp .In (.sl (.loc 0) .no (.yes (.int 1))) (.tup (.cons (.str ("+" : String)) (.cons (.str ("-" : String)) .nil)))) [.f (.str (sl (c :: l)))] = some false := by
      rw [tev_cmp, c1, bind_s]
      exact si
    refine exs_nx (E' := [.f (.str (sl (c :: l)))]) ?_ (exs_rt rfl)
    rw [frz_nil, ex1_ife, show startE 1 [.str (sl (c :: l))] = [.f (.str (sl (c :: l)))] from rfl, t, bind_s, if_neg (by decide)]
    rfl
  rw [e3]
  rfl
theorem dig_cons {b n : Nat} : ∃ c r, (digs b n).map dig = c :: r ∧ ((2 ≤ b ∧ b ≤ 16) → c ≠ 43 ∧ c ≠ 45) := by
  cases h : digs b n with
  | nil => exact absurd h (digs_ne b n)
  | cons d ds =>
    refine ⟨dig d, ds.map dig, rfl, fun ⟨h2, h16⟩ => ?_⟩
    have := digs_mem h2 d (by rw [h]; exact List.mem_cons_self)
    have := dig_ge (d := d) (by omega)
    omega
theorem power_in {j : Int} (A : Ag tab [23, 24, 25, 26]) (g30 : gl 30 = some (.str signsS)) (g27 : gl 27 = some (.str (Str.ofString "0123456789"))) (g28 : gl 28 = some (.int 6)) (hj : j.natAbs < 1000000) : callN tab gl wn (k + 2) 26 [.str (sl (numI j))] = some (I j) := by
  have hlen : (digs 10 j.natAbs).length ≤ 6 := by
    refine digs_len (by omega) (by omega) ?_
    have : (10 : Nat) ^ 6 = 1000000 := by decide
    omega
  have hm := digs_mem (b := 10) (n := j.natAbs) (by omega)
  have a1 := are_digits (gl := gl) (wn := wn) (k := k) (l := (digs 10 j.natAbs).map dig) (z := Str.ofString "0123456789") (A.sub (l' := [23]) (by decide)) (by simp [digs_ne]) (fun c hc => by
    obtain ⟨d, hd, rfl⟩ := List.mem_map.mp hc
    exact dec_mem d (hm d hd)) (by rw [List.length_map]; omega)
  have a2 := number_in (gl := gl) (wn := wn) (k := k) (ds := digs 10 j.natAbs) (b := 10) (A.sub (l' := [24]) (by decide)) g30 (fun d hd => by have := hm d hd; omega) (by omega) (by omega)
  rw [val_digs (by omega)] at a2
  have a3 : callN tab gl wn (k + 1) 25 [.str (sl (numI j))] = some (.tup [I (if j < 0 then 1 else 0), .str (sl ((digs 10 j.natAbs).map dig))]) := by
    unfold numI
    by_cases h : j < 0
    · rw [if_pos h, if_pos h]
      exact wsign_minus (A.sub (l' := [25]) (by decide)) (by rw [List.length_map]; omega)
    · rw [if_neg h, if_neg h]
      obtain ⟨c, r, e, hc⟩ := dig_cons (b := 10) (n := j.natAbs)
      obtain ⟨c1, c2⟩ := hc ⟨by omega, by omega⟩
      have hr : r.length ≤ 16000000 := by
        have := congrArg List.length e
        rw [List.length_map, List.length_cons] at this
        omega
      rw [e]
      exact wsign_none (A.sub (l' := [25]) (by decide)) c1 c2 hr
  rw [callN_eq (A.get (i := 26) (by decide)) rfl]
  generalize callN tab gl wn (k + 1) = cf at *
  have l1 := len_sl (l := (digs 10 j.natAbs).map dig) (by rw [List.length_map]; omega)
  rw [List.length_map] at l1
  have lt : ¬ (6 : Int) < ((digs 10 j.natAbs).length : Nat) := by omega
  generalize sl ((digs 10 j.natAbs).map dig) = tx at *
  generalize ((digs 10 j.natAbs).length : Nat) = n at *
  generalize sl (numI j) = tj at *
  have a2' : cf 24 [.str tx, .int 10] = some (I (j.natAbs : Nat)) := a2
  by_cases h : j < 0
  · rw [if_pos h] at a3
    have e : -((j.natAbs : Nat) : Int) = j := by omega
    generalize ((j.natAbs : Nat) : Int) = na at *
    simp [b26, exs_cons, seqF_def, startE, asg2, a1, a2', a3, g27, g28, l1, lt, e]
  · rw [if_neg h] at a3
    have e : ((j.natAbs : Nat) : Int) = j := by omega
    rw [e] at a2'
    simp [b26, exs_cons, seqF_def, startE, asg2, a1, a2', a3, g27, g28, l1, lt]
theorem check_digits {ds : List Nat} {b : Nat} (A : Ag tab [23, 29]) (g30 : gl 30 = some (.str signsS)) (hne : ds ≠ []) (hd : ∀ d ∈ ds, d < b) (hb : b ≤ 16) (hl : ds.length ≤ 16777216) : callN tab gl wn (k + 2) 29 [.str (sl (ds.map dig)), I b] = some .non := by
  have cs : cutS signsS none (some (b : Int)) = sl ((TL.tl signsS).take b) := by
    refine TL.ext_tl ?_
    show ((TL.tl signsS).drop _).take _ = _
    have e : HT.sIx signsS.length signsS.length (some (b : Int)) = min b signsS.length := HT.sIx_nat _ _ _
    rw [e, signs_len]
    show ((TL.tl signsS).drop 0).take (min b 16 - 0) = _
    rw [List.drop_zero, Nat.sub_zero, Nat.min_eq_left hb]
  have a1 := are_digits (gl := gl) (wn := wn) (k := k) (l := ds.map dig) (z := sl ((TL.tl signsS).take b)) (A.sub (l' := [23]) (by decide)) (by simpa using hne) (fun c hc => by
    obtain ⟨d, hd', rfl⟩ := List.mem_map.mp hc
    exact signs_take b hb d (hd d hd')) (by rw [List.length_map]; exact hl)
  rw [callN_eq (A.get (i := 29) (by decide)) rfl]
  generalize callN tab gl wn (k + 1) = cf at *
  have c1 : ev cf gl (.sl (.glo 30) .no (.yes (.loc 1))) [.f (.str (sl (ds.map dig))), .f (I b)] = some (.str (sl ((TL.tl signsS).take b))) := by
    rw [ev_sl]
    unfold ap3
    rw [ev_glo, g30]
    show slD (.str signsS) none (some (b : Int)) = _
    show (if signsS.length ≤ lineN then some (D.str (cutS signsS none (some (b : Int)))) else none) = _
    rw [signs_len, if_pos (by rw [lineN_eq]; omega), cs]
  have t : tev cf gl (.nott (.call 23 (.cons (.loc 0) (.cons (.sl (.glo 30) .no (.yes (.loc 1))) .nil)))) [.f (.str (sl (ds.map dig))), .f (I b)] = some false := by
    rw [tev_nott, tev_call, ev_call, evs_cons, evs_cons, c1, show ev cf gl (.loc 0) [.f (.str (sl (ds.map dig))), .f (I b)] = some (.str (sl (ds.map dig))) from rfl, evs_nil, bind_s, bind_s, map_s, map_s, bind_s, a1]
    rfl
  have e3 : exs cf gl wn b29 (startE 2 [.str (sl (ds.map dig)), I b]) = some (.nx [.f (.str (sl (ds.map dig))), .f (I b)]) := by
    refine exs_nx (E' := [.f (.str (sl (ds.map dig))), .f (I b)]) ?_ rfl
    rw [frz_nil, ex1_ife, show startE 2 [.str (sl (ds.map dig)), I b] = [.f (.str (sl (ds.map dig))), .f (I b)] from rfl, t, bind_s, if_neg (by decide)]
    rfl
  rw [e3]
  rfl
end
end Vp.U

end

section
set_option Elab.async false
set_option linter.all false
set_option autoImplicit false
set_option maxRecDepth 100000
set_option maxHeartbeats 0
/-! texts of numbers: split, digits, layout -/
namespace Vp.U
open Vp L2 PySem
def words : List (Str × D) := [(("inf" : String), .tup [.str ("endless" : String), .int 0]), (("+inf" : String), .tup [.str ("endless" : String), .int 0]), (("-inf" : String), .tup [.str ("endless" : String), .int 1]), (("nan" : String), .tup [.str ("none" : String)])]
theorem words_none {s : Int} {a : Nat} {r : List Nat} (ha : a < 16) : words.lookup (sl (sgnL s ++ dig a :: r)) = none := by
  have da := dig_ge ha
  have k1 : Str.ofString "inf" = sl [105, 110, 102] := by decide +kernel
  have k2 : Str.ofString "+inf" = sl [43, 105, 110, 102] := by decide +kernel
  have k3 : Str.ofString "-inf" = sl [45, 105, 110, 102] := by decide +kernel
  have k4 : Str.ofString "nan" = sl [110, 97, 110] := by decide +kernel
  have n : ∀ c : List Nat, sgnL s ++ dig a :: r ≠ c → (sl (sgnL s ++ dig a :: r) == sl c) = false := fun c h => by
    rw [beq_eq_false_iff_ne]
    exact fun z => h (sl_inj.mp z)
  have m1 : sgnL s ++ dig a :: r ≠ [105, 110, 102] := by
    unfold sgnL
    split <;> simp <;> omega
  have m2 : sgnL s ++ dig a :: r ≠ [43, 105, 110, 102] := by
    unfold sgnL
    split <;> simp <;> omega
  have m3 : sgnL s ++ dig a :: r ≠ [45, 105, 110, 102] := by
    unfold sgnL
    split <;> simp <;> omega
  have m4 : sgnL s ++ dig a :: r ≠ [110, 97, 110] := by
    unfold sgnL
    split <;> simp <;> omega
  unfold words
  rw [k1, k2, k3, k4]
  simp only [List.lookup, n _ m1, n _ m2, n _ m3, n _ m4]
def markL (P : Option Int) : List Nat := match P with | none => [] | some _ => [94]
def pwL (P : Option Int) : List Nat := match P with | none => [] | some j => numI j
def dotL (B : Option (List Nat)) : List Nat := match B with | none => [] | some _ => [46]
theorem tru_sl {l : List Nat} (h : l.length ≤ 16777216) : truD (.str (sl l)) = some (decide (l ≠ [])) := by
  show (if (sl l).length ≤ lineN then some (((sl l).length : Int) != 0) else none) = _
  rw [sl_len, lineN_eq, if_pos h]
  congr 1
  cases l with
  | nil => rfl
  | cons a r =>
    have : (((a :: r).length : Nat) : Int) ≠ 0 := by rw [List.length_cons]; omega
    simp [this]
    omega
theorem numI_len {j : Int} (h : j.natAbs < 1000000) : (numI j).length ≤ 7 := by
  have hlen : (digs 10 j.natAbs).length ≤ 6 := by
    refine digs_len (by omega) (by omega) ?_
    have : (10 : Nat) ^ 6 = 1000000 := by decide
    omega
  unfold numI
  split
  · rw [List.length_cons, List.length_map]
    omega
  · rw [List.length_map]
    omega
theorem dig_free {ds : List Nat} {c : Nat} (h : ∀ d ∈ ds, d < 16) (hc : c < 48 ∨ c = 94) : c ∉ ds.map dig := by
  intro hm
  obtain ⟨d, hd, rfl⟩ := List.mem_map.mp hm
  have := dig_ge (h d hd)
  omega
structure TextOk (b : Nat) (A : List Nat) (B : Option (List Nat)) (P : Option Int) : Prop where
  b2 : 2 ≤ b
  b16 : b ≤ 16
  a0 : A ≠ []
  a1 : ∀ d ∈ A, d < b
  al : A.length ≤ 100000
  b0 : ∀ L, B = some L → L ≠ []
  b1 : ∀ L, B = some L → ∀ d ∈ L, d < b
  bl : ∀ L, B = some L → L.length ≤ 100000
  p : ∀ j, P = some j → j.natAbs < 1000000
section
variable {tab : Nat → Option Fn} {gl : Nat → Option D} {wn k : Nat}
theorem split_text {b : Nat} {A : List Nat} {B : Option (List Nat)} {P : Option Int} {s : Int} (T : Ag tab [23, 24, 25, 26, 29, 31]) (g30 : gl 30 = some (.str signsS)) (g27 : gl 27 = some (.str (Str.ofString "0123456789"))) (g28 : gl 28 = some (.int 6)) (g32 : gl 32 = some (dicOf words)) (g538 : gl 538 = some (.str (Str.ofString "^")))
    (h : TextOk b A B P) (hs : s = 0 ∨ s = 1) : callN tab gl wn (k + 3) 31 [I b, .str (sl (sgnL s ++ textL A B P))] = some (.tup [.str ("number" : String), I s, I (val b (A ++ B.getD []) : Nat), I (P.getD 0 - ((B.getD []).length : Nat))]) := by
  have h16 : ∀ d ∈ A, d < 16 := fun d hd => by have := h.a1 d hd; have := h.b16; omega
  have hB16 : ∀ d ∈ B.getD [], d < 16 := fun d hd => by
    cases hB : B with
    | none => rw [hB] at hd; cases hd
    | some L =>
      rw [hB] at hd
      have := h.b1 L hB d hd
      have := h.b16
      omega
  have hBl : (B.getD []).length ≤ 100000 := by
    cases hB : B with
    | none => simp
    | some L => exact h.bl L hB
  have hPl : (powL P).length ≤ 8 := by
    cases hP : P with
    | none => simp [powL]
    | some j =>
      have := numI_len (h.p j hP)
      simp [powL]
      omega
  have hbl : (pointL B).length ≤ 100001 := by
    cases hB : B with
    | none => simp [pointL]
    | some L =>
      have := h.bl L hB
      simp [pointL]
      omega
  have al := h.al
  obtain ⟨a, r, hA⟩ : ∃ a r, A = a :: r := by
    cases hA : A with
    | nil => exact absurd hA h.a0
    | cons a r => exact ⟨a, r, rfl⟩
  have ha16 := h16 a (by rw [hA]; exact List.mem_cons_self)
  have da := dig_ge ha16
  have hT : textL A B P = dig a :: (r.map dig ++ pointL B ++ powL P) := by
    unfold textL
    rw [hA]
    rfl
  have lT : (textL A B P).length ≤ 16000000 := by
    unfold textL
    rw [List.length_append, List.length_append, List.length_map]
    omega
  have c25 : callN tab gl wn (k + 2) 25 [.str (sl (sgnL s ++ textL A B P))] = some (.tup [I s, .str (sl (textL A B P))]) := by
    unfold sgnL
    rcases hs with rfl | rfl
    · rw [if_neg (by decide), List.nil_append, hT]
      rw [hT, List.length_cons] at lT
      exact wsign_none (k := k + 1) (T.sub (by decide)) (by omega) (by omega) (by omega)
    · exact wsign_minus (k := k + 1) (T.sub (by decide)) lT
  have c26 : ∀ j, P = some j → callN tab gl wn (k + 2) 26 [.str (sl (numI j))] = some (I j) := fun j hj => power_in (k := k) (T.sub (by decide)) g30 g27 g28 (h.p j hj)
  have c29 : callN tab gl wn (k + 2) 29 [.str (sl (A.map dig)), I b] = some .non := check_digits (k := k) (T.sub (by decide)) g30 h.a0 h.a1 h.b16 (by omega)
  have c29B : ∀ L, B = some L → callN tab gl wn (k + 2) 29 [.str (sl (L.map dig)), I b] = some .non := fun L hL => check_digits (k := k) (T.sub (by decide)) g30 (h.b0 L hL) (h.b1 L hL) h.b16 (by have := h.bl L hL; omega)
  have c24 : callN tab gl wn (k + 2) 24 [.str (sl ((A ++ B.getD []).map dig)), I b] = some (I (val b (A ++ B.getD []) : Nat)) := number_in (k := k + 1) (T.sub (by decide)) g30 (fun d hd => by
    rcases List.mem_append.mp hd with hd | hd
    · exact h16 d hd
    · exact hB16 d hd) h.b16 (by rw [List.length_append]; omega)
  have wn0 : words.lookup (sl (sgnL s ++ textL A B P)) = none := by
    rw [hT]
    exact words_none ha16
  have f94 : 94 ∉ A.map dig ++ pointL B := by
    intro hm
    rcases List.mem_append.mp hm with hm | hm
    · exact dig_free h16 (.inr rfl) hm
    · cases hB : B with
      | none => rw [hB] at hm; cases hm
      | some L =>
        rw [hB] at hm
        rcases List.mem_cons.mp hm with hm | hm
        · omega
        · exact dig_free (fun d hd => by have := h.b1 L hB d hd; have := h.b16; omega) (.inr rfl) hm
  have p1 : mtD .partition (.str (sl (textL A B P))) [.str (Str.ofString "^")] = some (.tup [.str (sl (A.map dig ++ pointL B)), .str (sl (markL P)), .str (sl (pwL P))]) := by
    rw [s_mark]
    unfold textL
    cases P with
    | none =>
      show mtD .partition (.str (sl (A.map dig ++ pointL B ++ []))) _ = _
      rw [List.append_nil]
      exact part_no f94 (by rw [List.length_append, List.length_map]; omega)
    | some j =>
      refine part_yes f94 ?_
      unfold textL at lT
      simp only [powL] at lT
      omega
  have f46 : 46 ∉ A.map dig := dig_free h16 (.inl (by omega))
  have p2 : mtD .partition (.str (sl (A.map dig ++ pointL B))) [.str (Str.ofString ".")] = some (.tup [.str (sl (A.map dig)), .str (sl (dotL B)), .str (sl ((B.getD []).map dig))]) := by
    rw [s_point]
    cases B with
    | none =>
      show mtD .partition (.str (sl (A.map dig ++ []))) _ = _
      rw [List.append_nil]
      exact part_no f46 (by rw [List.length_map]; omega)
    | some L =>
      refine part_yes f46 ?_
      simp only [pointL] at hbl
      rw [List.length_append, List.length_map]
      omega
  have lB : ((B.getD []).map dig).length ≤ 16777216 := by rw [List.length_map]; omega
  have ad : binD .add (.str (sl (A.map dig))) (.str (sl ((B.getD []).map dig))) = some (.str (sl ((A ++ B.getD []).map dig))) := by
    rw [add_sl (by rw [List.length_map, List.length_map]; omega), List.map_append]
  have le := len_sl lB
  rw [List.length_map] at le
  have tm : truD (.str (sl (markL P))) = some P.isSome := by
    rw [tru_sl (by cases P <;> simp [markL])]
    cases P <;> rfl
  have td : truD (.str (sl (dotL B))) = some B.isSome := by
    rw [tru_sl (by cases B <;> simp [dotL])]
    cases B <;> rfl
  rw [callN_eq (T.get (i := 31) (by decide)) rfl]
  generalize callN tab gl wn (k + 2) = cf at *
  have hh : exs cf gl wn b31 (startE 11 [I b, .str (sl (sgnL s ++ textL A B P))]) = some (.rt (.tup [.str ("number" : String), I s, I (val b (A ++ B.getD []) : Nat), I (P.getD 0 - ((B.getD []).length : Nat))])) := by
    have gin : ginG (dicOf words) (.str (sl (sgnL s ++ textL A B P))) = some (.bl false) := by
      have e : ginG (dicOf words) (.str (sl (sgnL s ++ textL A B P))) = ginD (textK (words.map fun e => ((.inr e.1 : Key), e.2))) (.str (sl (sgnL s ++ textL A B P))) := rfl
      rw [e, textK_dicOf]
      have e2 : ginD words (.str (sl (sgnL s ++ textL A B P))) = some (.bl (words.lookup (sl (sgnL s ++ textL A B P))).isSome) := rfl
      rw [e2, wn0]
      rfl
    generalize sl (sgnL s ++ textL A B P) = t0 at *
    generalize sl (textL A B P) = t1 at *
    generalize sl (A.map dig ++ pointL B) = t2 at *
    generalize sl (A.map dig) = tA at *
    generalize sl ((A ++ B.getD []).map dig) = tAB at *
    generalize hv : val b (A ++ B.getD []) = v at *
    refine exs_nx (E' := [.f (I b), .f (.str t0), .u, .u, .u, .u, .u, .u, .u, .u, .u]) ?_ ?_
    · simp [startE, g32, gin]
    refine exs_nx (E' := [.f (I b), .f (.str t0), .u, .f (I s), .f (.str t1), .u, .u, .u, .u, .u, .u]) (by simp [c25, asg2]) ?_
    refine exs_nx (E' := [.f (I b), .f (.str t0), .u, .f (I s), .f (.str t1), .f (.str t2), .f (.str (sl (markL P))), .f (.str (sl (pwL P))), .u, .u, .u]) (by simp [g538, p1]) ?_
    refine exs_nx (E' := [.f (I b), .f (.str t0), .f (I (P.getD 0)), .f (I s), .f (.str t1), .f (.str t2), .f (.str (sl (markL P))), .f (.str (sl (pwL P))), .u, .u, .u]) ?_ ?_
    · cases P with
      | none => simp [tm]
      | some j =>
        have := c26 j rfl
        simp [tm, pwL, this]
    refine exs_nx (E' := [.f (I b), .f (.str t0), .f (I (P.getD 0)), .f (I s), .f (.str t1), .f (.str t2), .f (.str (sl (markL P))), .f (.str (sl (pwL P))), .f (.str tA), .f (.str (sl (dotL B))), .f (.str (sl ((B.getD []).map dig)))]) (by simp [p2]) ?_
    refine exs_nx (E' := [.f (I b), .f (.str t0), .f (I (P.getD 0)), .f (I s), .f (.str t1), .f (.str t2), .f (.str (sl (markL P))), .f (.str (sl (pwL P))), .f (.str tA), .f (.str (sl (dotL B))), .f (.str (sl ((B.getD []).map dig)))]) (by simp [c29]) ?_
    refine exs_nx (E' := [.f (I b), .f (.str t0), .f (I (P.getD 0)), .f (I s), .f (.str t1), .f (.str t2), .f (.str (sl (markL P))), .f (.str (sl (pwL P))), .f (.str tA), .f (.str (sl (dotL B))), .f (.str (sl ((B.getD []).map dig)))]) ?_ ?_
    · cases B with
      | none => simp [td]
      | some L =>
        have := c29B L rfl
        simp [td, this, exs_cons, seqF_def]
    · refine exs_rt ?_
      generalize sl ((B.getD []).map dig) = tB at *
      generalize (B.getD []).length = lb at *
      simp [ad, c24, le]
  rw [hh]
  rfl
theorem digits_of {b n : Nat} (T : Ag tab [33]) (g30 : gl 30 = some (.str signsS)) (b2 : 2 ≤ b) (b16 : b ≤ 16) (hl : (digs b n).length < wn) (hw : wn ≤ 100000) : callN tab gl wn (k + 1) 33 [I b, I n] = some (.str (sl ((digs b n).map dig))) := by
  rw [callN_eq (T.get (i := 33) (by decide)) rfl]
  generalize callN tab gl wn k = cf at *
  let Inv : Nat → Env' → Prop := fun m E => ∃ (num : Nat) (fd : List Nat), E = [.f (I b), .f (I num), .o (fd.map fun d => .str (sl [dig d]))] ∧ digs b n = digs b num ++ fd.reverse ∧ m = (digs b num).length
  obtain ⟨E', m', e1, ⟨num, fd, rfl, i1, i2⟩, e2⟩ := whileF_inv (c := tev cf gl (.cmp .GtE (.loc 1) (.loc 0))) (b := exs cf gl wn b33_1) Inv (by
    rintro m E ⟨num, fd, rfl, i1, i2⟩
    have ct : tev cf gl (.cmp .GtE (.loc 1) (.loc 0)) [.f (I b), .f (I num), .o (fd.map fun d => .str (sl [dig d]))] = some (decide (b ≤ num)) := by
      simp
    by_cases hc : b ≤ num
    · right
      have st := digs_step b2 hc
      have hm : num % b < b := Nat.mod_lt _ (by omega)
      refine ⟨[.f (I b), .f (I (num / b : Nat)), .o ((fd ++ [num % b]).map fun d => .str (sl [dig d]))], (digs b (num / b)).length, by rw [ct, decide_eq_true hc], ?_, ?_, num / b, fd ++ [num % b], rfl, ?_, rfl⟩
      · have hp : (0 : Int) < (b : Int) := by omega
        have em : ((num : Int) % (b : Int)) = ((num % b : Nat) : Int) := by omega
        have ed : ((num : Int) / (b : Int)) = ((num / b : Nat) : Int) := by omega
        have dv : divOk (b : Int) = true := divOk_small hp (by omega)
        have si := sign_ix (i := ((num % b : Nat) : Int)) (by omega) (by omega)
        have eb : ev cf gl (.sub (.glo 30) (.bin .mod (.loc 1) (.loc 0))) [.f (I b), .f (I num), .o (fd.map fun d => .str (sl [dig d]))] = some (.str (sl [dig (num % b)])) := by
          rw [ev_sub, ev_glo, g30, bind_s, ev_bin, show ev cf gl (.loc 1) [.f (I b), .f (I num), .o (fd.map fun d => .str (sl [dig d]))] = some (I num) from rfl, bind_s, show ev cf gl (.loc 0) [.f (I b), .f (I num), .o (fd.map fun d => .str (sl [dig d]))] = some (I b) from rfl, bind_s, mod_int, if_pos hp, bind_s, em, si]
          congr 4
        have hfl : (fd.map fun d => D.str (sl [dig d])).length < lineN := by
          have := congrArg List.length i1
          rw [List.length_append, List.length_reverse] at this
          rw [List.length_map, lineN_eq]
          omega
        refine exs_nx (E' := [.f (I b), .f (I num), .o ((fd ++ [num % b]).map fun d => .str (sl [dig d]))]) ?_ ?_
        · rw [frz_nil, ex1_app, appF_ok (ds := fd.map fun d => .str (sl [dig d])) rfl eb hfl, List.map_append]
          rfl
        · refine exs_nx (E' := _) ?_ rfl
          rw [frz_nil, ex1_asg, ev_bin, show ev cf gl (.loc 1) [.f (I b), .f (I num), .o ((fd ++ [num % b]).map fun d => .str (sl [dig d]))] = some (I num) from rfl, bind_s, show ev cf gl (.loc 0) [.f (I b), .f (I num), .o ((fd ++ [num % b]).map fun d => .str (sl [dig d]))] = some (I b) from rfl, bind_s, fdiv_int, if_pos dv, bind_s, ed]
          rfl
      · rw [i2, st, List.length_append, List.length_singleton]
        omega
      · rw [i1, st, List.reverse_append, List.append_assoc]
        rfl
    · left
      rw [ct, decide_eq_false hc]) wn _ _ hl ⟨n, [], rfl, by simp, rfl⟩
  have hnum : num < b := by
    have ct : tev cf gl (.cmp .GtE (.loc 1) (.loc 0)) [.f (I b), .f (I num), .o (fd.map fun d => .str (sl [dig d]))] = some (decide (b ≤ num)) := by
      simp
    rw [ct] at e2
    have := Option.some.inj e2
    simpa using this
  have fin : digs b n = num :: fd.reverse := by
    rw [i1, digs_lt hnum]
    rfl
  have si := sign_ix (i := (num : Int)) (by omega) (by omega)
  have hh : exs cf gl wn b33 (startE 3 [I b, I n]) = some (.rt (.str (sl ((digs b n).map dig)))) := by
    refine exs_nx (E' := [.f (I b), .f (I n), .o []]) rfl ?_
    refine exs_nx (E' := [.f (I b), .f (I num), .o (fd.map fun d => .str (sl [dig d]))]) ?_ (exs_rt ?_)
    · rw [frz_nil, ex1_whl]
      exact e1
    · show ex1 cf gl wn _ [.f (I b), .f (I num), .f (.lst (fd.map fun d => .str (sl [dig d])))] = _
      have ll : fd.length < 100000 := by
        have := congrArg List.length i1
        rw [List.length_append, List.length_reverse] at this
        omega
      have l1 : ev cf gl (.bin .add (.lis (.lst (.cons (.sub (.glo 30) (.loc 1)) .nil))) (.lis (.rvl (.loc 2)))) [.f (I b), .f (I num), .f (.lst (fd.map fun d => .str (sl [dig d])))] = some (.lst (((digs b n).map dig).map fun c => .str (sl [c]))) := by
        have l2 : ev cf gl (.lis (.lst (.cons (.sub (.glo 30) (.loc 1)) .nil))) [.f (I b), .f (I num), .f (.lst (fd.map fun d => .str (sl [dig d])))] = some (.lst [.str (sl [dig num])]) := by
          rw [ev_lis, evL_lst, evs_cons, ev_sub, ev_glo, g30, bind_s, show ev cf gl (.loc 1) [.f (I b), .f (I num), .f (.lst (fd.map fun d => .str (sl [dig d])))] = some (I num) from rfl, bind_s, si]
          rfl
        have l3 : ev cf gl (.lis (.rvl (.loc 2))) [.f (I b), .f (I num), .f (.lst (fd.map fun d => .str (sl [dig d])))] = some (.lst (fd.reverse.map fun d => .str (sl [dig d]))) := by
          rw [ev_lis, evL_rvl, show ev cf gl (.loc 2) [.f (I b), .f (I num), .f (.lst (fd.map fun d => .str (sl [dig d])))] = some (.lst (fd.map fun d => .str (sl [dig d]))) from rfl, bind_s, lisOf_lst, map_s, map_s, List.map_reverse]
        rw [ev_bin, l2, bind_s, l3, bind_s, add_lst, if_pos (by rw [List.length_map, List.length_reverse, List.length_singleton, lineN_eq]; omega), fin, List.map_map]
        rfl
      rw [ex1_ret, ev_mth, ev_str, emp, bind_s, evs_cons, l1, bind_s, evs_nil, map_s, bind_s, join_sl (by rw [List.length_map]; omega)]
      rfl
  rw [hh]
  rfl
theorem minus_times {s : Int} (hs : s = 0 ∨ s = 1) : binD .mul (.str (Str.ofString "-")) (.int s) = some (.str (sl (sgnL s))) := by
  rw [s_minus, times_sl (by omega) (by omega)]
  rcases hs with rfl | rfl <;> rfl
theorem spread {ds : List Nat} {q : Int} (T : Ag tab [34]) (g35 : gl 35 = some (.int 21)) (g36 : gl 36 = some (.int (-7))) (g538 : gl 538 = some (.str (Str.ofString "^"))) (h0 : ds ≠ []) (hl : ds.length ≤ 100000) (q0 : -100000 ≤ q) (q1 : q ≤ 100000) :
    callN tab gl wn (k + 1) 34 [.str (sl (ds.map dig)), I q] = some (.str (sl (spreadL ds q))) := by
  rw [callN_eq (T.get (i := 34) (by decide)) rfl]
  generalize callN tab gl wn k = cf at *
  have hp : 0 < ds.length := List.length_pos_iff.mpr h0
  have lm : (ds.map dig).length = ds.length := List.length_map ..
  have le := len_sl (l := ds.map dig) (by omega)
  rw [lm] at le
  have hh : exs cf gl wn b34 (startE 4 [.str (sl (ds.map dig)), I q]) = some (.rt (.str (sl (spreadL ds q)))) := by
    let E : Env' := [.f (.str (sl (ds.map dig))), .f (I q), .f (I (ds.length : Nat)), .u]
    refine exs_nx (E' := E) ?_ ?_
    · rw [frz_nil, ex1_asg, ev_bf, evs_cons, show ev cf gl (.loc 0) (startE 4 [.str (sl (ds.map dig)), I q]) = some (.str (sl (ds.map dig))) from rfl, evs_nil, bind_s, map_s, bind_s, le]
      rfl
    have o0 : ev cf gl (.loc 0) E = some (.str (sl (ds.map dig))) := rfl
    have o1 : ev cf gl (.loc 1) E = some (I q) := rfl
    have o2 : ev cf gl (.loc 2) E = some (I (ds.length : Nat)) := rfl
    have o3 : ev cf gl (.bin .add (.loc 2) (.loc 1)) E = some (I ((ds.length : Nat) + q)) := rfl
    have t1 : tev cf gl (.bool .And (.cons (.cmp .GtE (.loc 1) (.int 0)) (.cons (.cmp .LtE (.bin .add (.loc 2) (.loc 1)) (.glo 35)) .nil))) E = some (decide (0 ≤ q ∧ (ds.length : Int) + q ≤ 21)) := by
      rw [tev_and, tev_cmp, o1, bind_s, ev_int, bind_s, ge_int, bind_s, tev_one, tev_cmp, o3, bind_s, ev_glo, g35, bind_s, le_int]
      by_cases z : 0 ≤ q <;> simp [z]
    have t2 : tev cf gl (.chain .Lt .Lt (.loc 1) (.int 0) (.bin .add (.loc 2) (.loc 1))) E = some (decide (q < 0 ∧ 0 < (ds.length : Int) + q)) := by
      rw [tev_chain, ev_chain, o1, bind_s, ev_int, bind_s, lt_int, bind_s, o3, bind_s, lt_int]
      by_cases z : q < 0 <;> simp [z]
    have t3 : tev cf gl (.chain .Lt .LtE (.glo 36) (.bin .add (.loc 2) (.loc 1)) (.int 0)) E = some (decide (-7 < (ds.length : Int) + q ∧ (ds.length : Int) + q ≤ 0)) := by
      rw [tev_chain, ev_chain, ev_glo, g36, bind_s, o3, bind_s, lt_int, bind_s, ev_int, bind_s, le_int]
      by_cases z : -7 < (ds.length : Int) + q <;> simp [z]
    unfold spreadL
    by_cases c1 : 0 ≤ q ∧ (ds.length : Int) + q ≤ 21
    · rw [if_pos c1]
      refine exs_rt ?_
      rw [frz_nil, ex1_ife, t1, bind_s, if_pos (by simpa using c1)]
      refine exs_rt ?_
      rw [frz_nil, ex1_ret, ev_bin, o0, bind_s, ev_bin, ev_str, bind_s, o1, bind_s, s_zero, times_sl (by omega) (by omega), bind_s, add_sl (by rw [lm, List.length_replicate]; omega), map_s]
      unfold textL pointL powL
      rw [List.append_nil, List.append_nil, List.map_append, List.map_replicate]
      rfl
    rw [if_neg c1]
    refine exs_nx (E' := E) ?_ ?_
    · rw [frz_nil, ex1_ife, t1, bind_s, if_neg (by simpa using c1)]
      rfl
    by_cases c2 : q < 0 ∧ 0 < (ds.length : Int) + q
    · rw [if_pos c2]
      refine exs_rt ?_
      rw [frz_nil, ex1_ife, t2, bind_s, if_pos (by simpa using c2)]
      refine exs_rt ?_
      have w1 : partD (evP cf gl (.yes (.bin .add (.loc 2) (.loc 1)))) E = some (some ((ds.length : Int) + q)) := rfl
      rw [frz_nil, ex1_ret, ev_bin, ev_bin, slice1 (x := none) (y := some ((ds.length : Int) + q)) o0 rfl w1 (by omega), bind_s, ev_str, bind_s, s_point, cut_none _ (by omega), add_sl (by rw [List.length_take, lm, List.length_singleton]; omega), bind_s, slice1 (x := some ((ds.length : Int) + q)) (y := none) o0 w1 rfl (by omega), bind_s, cut_drop _ (by omega), add_sl (by rw [List.length_append, List.length_take, List.length_drop, lm, List.length_singleton]; omega), map_s]
      have fe : (ds.map dig).take ((ds.length : Int) + q).toNat ++ [46] ++ (ds.map dig).drop ((ds.length : Int) + q).toNat = textL (ds.take ((ds.length : Int) + q).toNat) (some (ds.drop ((ds.length : Int) + q).toNat)) none := by
        show _ = (ds.take _).map dig ++ (46 :: (ds.drop _).map dig) ++ []
        rw [List.append_nil, List.map_take, List.map_drop, List.append_assoc]
        rfl
      rw [fe]
    rw [if_neg c2]
    refine exs_nx (E' := E) ?_ ?_
    · rw [frz_nil, ex1_ife, t2, bind_s, if_neg (by simpa using c2)]
      rfl
    by_cases c3 : -7 < (ds.length : Int) + q ∧ (ds.length : Int) + q ≤ 0
    · rw [if_pos c3]
      refine exs_rt ?_
      rw [frz_nil, ex1_ife, t3, bind_s, if_pos (by simpa using c3)]
      refine exs_rt ?_
      have o4 : ev cf gl (.bin .sub (.neg (.loc 2)) (.loc 1)) E = some (I (-(ds.length : Int) - q)) := rfl
      rw [frz_nil, ex1_ret, ev_bin, ev_bin, ev_str, bind_s, ev_bin, ev_str, bind_s, o4, bind_s, s_zero, s_zp, times_sl (by omega) (by omega), bind_s, add_sl (by rw [List.length_replicate]; simp; omega), bind_s, o0, bind_s, add_sl (by rw [List.length_append, List.length_replicate, lm]; simp; omega), map_s]
      have fe : [48, 46] ++ List.replicate (-(ds.length : Int) - q).toNat 48 ++ ds.map dig = textL [0] (some (List.replicate (-(ds.length : Int) - q).toNat 0 ++ ds)) none := by
        show _ = [0].map dig ++ (46 :: (List.replicate _ 0 ++ ds).map dig) ++ []
        rw [List.append_nil, List.map_append, List.map_replicate]
        rfl
      rw [fe]
    rw [if_neg c3]
    refine exs_nx (E' := E) ?_ ?_
    · rw [frz_nil, ex1_ife, t3, bind_s, if_neg (by simpa using c3)]
      rfl
    obtain ⟨d, r, hds⟩ : ∃ d r, ds = d :: r := by
      cases hd : ds with
      | nil => exact absurd hd h0
      | cons d r => exact ⟨d, r, rfl⟩
    let rs : List Nat := pointL (if 1 < ds.length then some (ds.drop 1) else none)
    have lrs : rs.length ≤ 100001 := by
      show (pointL _).length ≤ _
      split
      · simp [pointL]
        omega
      · simp [pointL]
    refine exs_nx (E' := [.f (.str (sl (ds.map dig))), .f (I q), .f (I (ds.length : Nat)), .f (.str (sl rs))]) ?_ (exs_rt ?_)
    · have tt : tev cf gl (.cmp .Gt (.loc 2) (.int 1)) E = some (decide (1 < ds.length)) := by
        rw [tev_cmp, o2, bind_s, ev_int, bind_s, gt_int]
        congr 1
        rw [Bool.eq_iff_iff, decide_eq_true_eq, decide_eq_true_eq]
        omega
      rw [frz_nil, ex1_asg, ev_ife, tt, bind_s]
      by_cases z : 1 < ds.length
      · rw [if_pos (by simpa using z), ev_bin, ev_str, bind_s, slice1 (x := some 1) (y := none) o0 rfl rfl (by omega), bind_s, cut_drop _ (by omega), s_point, add_sl (by rw [List.length_drop, lm, List.length_singleton]; omega)]
        simp only [rs, if_pos z, pointL, List.map_drop]
        rfl
      · rw [if_neg (by simpa using z), ev_str, emp]
        simp only [rs, if_neg z, pointL]
        rfl
    · have nq : ((ds.length : Int) + q - 1).natAbs < 1000000 := by omega
      have lg : ((ds.length : Int) + q - 1).natAbs.log2 < 1920 := by
        by_cases z : ((ds.length : Int) + q - 1).natAbs = 0
        · rw [z]
          decide
        · refine (Nat.log2_lt z).mpr (Nat.lt_of_lt_of_le nq ?_)
          exact Nat.le_trans (by decide : 1000000 ≤ 2 ^ 20) (Nat.pow_le_pow_right (by omega) (by omega))
      have ln := numI_len nq
      let E2 : Env' := [.f (.str (sl (ds.map dig))), .f (I q), .f (I (ds.length : Nat)), .f (.str (sl rs))]
      have p0 : ev cf gl (.sub (.loc 0) (.int 0)) E2 = some (.str (sl [dig d])) := by
        rw [ev_sub, show ev cf gl (.loc 0) E2 = some (.str (sl (ds.map dig))) from rfl, bind_s, ev_int, bind_s, sl_ix (by omega) (by rw [lm]; omega) (by omega)]
        simp only [hds]
        rfl
      have p3 : ev cf gl (.bin .sub (.bin .add (.loc 2) (.loc 1)) (.int 1)) E2 = some (I ((ds.length : Int) + q - 1)) := rfl
      rw [frz_nil, ex1_ret, ev_fst]
      rw [evFs_cons, evFs_cons, evFs_cons, evFs_cons, evFs_nil]
      have fm : ∀ l : List Nat, l.length ≤ 16777216 → fmtD (.str (sl l)) = some (.str (sl l)) := fun l h => by rw [fmt_str, sl_len, lineN_eq, if_pos h]
      have em : Str.empty = sl [] := rfl
      have ap : ∀ a b : List Nat, a.length + b.length ≤ 16777216 → (sl a ++ sl b).length ≤ lineN := fun a b h => by rw [sl_app, sl_len, List.length_append, lineN_eq]; exact h
      rw [jsE_cons, show ev cf gl (.sub (.loc 0) (.int 0)) [.f (.str (sl (ds.map dig))), .f (I q), .f (I (ds.length : Nat)), .f (.str (sl rs))] = some (.str (sl [dig d])) from p0, bind_s, fm _ (by simp), bind_s, em]
      simp only []
      rw [if_pos (ap _ _ (by simp)), sl_app, jsE_cons, show ev cf gl (.loc 3) [.f (.str (sl (ds.map dig))), .f (I q), .f (I (ds.length : Nat)), .f (.str (sl rs))] = some (.str (sl rs)) from rfl, bind_s, fm _ (by omega), bind_s]
      simp only []
      rw [if_pos (ap _ _ (by simp; omega)), sl_app, jsE_cons, ev_glo, g538, bind_s, s_mark, fm _ (by simp), bind_s]
      simp only []
      rw [if_pos (ap _ _ (by simp; omega)), sl_app, jsE_cons, show ev cf gl (.bin .sub (.bin .add (.loc 2) (.loc 1)) (.int 1)) [.f (.str (sl (ds.map dig))), .f (I q), .f (I (ds.length : Nat)), .f (.str (sl rs))] = some (I ((ds.length : Int) + q - 1)) from p3, bind_s, fmt_int, if_pos lg, bind_s, num_str]
      simp only []
      rw [if_pos (ap _ _ (by simp; omega)), sl_app, jsE_nil]
      have fe : [] ++ [dig d] ++ rs ++ [94] ++ numI ((ds.length : Int) + q - 1) = textL (ds.take 1) (if 1 < ds.length then some (ds.drop 1) else none) (some ((ds.length : Int) + q - 1)) := by
        unfold textL
        simp only [rs, powL, hds, List.take, List.map_cons, List.map_nil, List.nil_append, List.append_assoc]
        rfl
      rw [fe]
      rfl
  rw [hh]
  rfl
theorem layout {b d : Nat} {s q : Int} (T : Ag tab [33, 34, 37]) (g30 : gl 30 = some (.str signsS)) (g35 : gl 35 = some (.int 21)) (g36 : gl 36 = some (.int (-7))) (g538 : gl 538 = some (.str (Str.ofString "^"))) (b2 : 2 ≤ b) (b16 : b ≤ 16) (hs : s = 0 ∨ s = 1) (hl : (digs b d).length < wn) (hw : wn ≤ 100000) (q0 : -100000 ≤ q) (q1 : q ≤ 100000) (hL : (spreadL (digs b d) q).length ≤ 1000000) :
    callN tab gl wn (k + 2) 37 [I b, I s, I d, I q] = some (.str (sl (layL b s d q))) := by
  have a1 := digits_of (gl := gl) (k := k) (n := d) (T.sub (l' := [33]) (by decide)) g30 b2 b16 hl hw
  have a2 := spread (gl := gl) (wn := wn) (k := k) (ds := digs b d) (q := q) (T.sub (l' := [34]) (by decide)) g35 g36 g538 (digs_ne b d) (by omega) q0 q1
  have a3 := minus_times hs
  have ls : (sgnL s).length ≤ 1 := by
    unfold sgnL
    split <;> simp
  have a4 := add_sl (a := sgnL s) (b := spreadL (digs b d) q) (by omega)
  rw [callN_eq (T.get (i := 37) (by decide)) rfl]
  generalize callN tab gl wn (k + 1) = cf at *
  unfold layL
  generalize sl ((digs b d).map dig) = t1 at *
  generalize sl (spreadL (digs b d) q) = t2 at *
  simp [b37, exs_cons, seqF_def, startE, a1, a2, a3, a4]
end
end Vp.U

end

section
set_option Elab.async false
set_option linter.all false
set_option autoImplicit false
set_option maxRecDepth 100000
set_option maxHeartbeats 0
/-! texts of numbers read -/
namespace Vp.U
open Vp L2 PySem
theorem bpow_pos {b : Nat} (hb : 2 ≤ b) (n : Nat) : 0 < (b : Int) ^ n := Int.pow_pos (by omega)
theorem bpow_lt {b : Nat} (hb : b ≤ 16) (n : Nat) : ((b : Int) ^ n).natAbs < 2 ^ (4 * n + 1) := by
  rw [Int.natAbs_pow, Int.natAbs_natCast]
  have h1 : b ^ n ≤ 16 ^ n := Nat.pow_le_pow_left hb n
  have h2 : (16 : Nat) ^ n = 2 ^ (4 * n) := by rw [Nat.pow_mul]
  rw [h2] at h1
  exact Nat.lt_of_le_of_lt h1 (Nat.pow_lt_pow_right (by omega) (by omega))
def bp (b : Nat) (q : Int) : Int × Int := red ((b : Int) ^ q.toNat) ((b : Int) ^ (-q).toNat)
theorem Sh.bp {b : Nat} {q : Int} {n : Nat} (b2 : 2 ≤ b) (hb : b ≤ 16) (h : q.natAbs ≤ n) : Sh (4 * n + 1) (bp b q) :=
  Sh.red (bpow_pos b2 _) (Nat.lt_of_lt_of_le (bpow_lt hb _) (pow_mono (by omega))) (Nat.lt_of_lt_of_le (bpow_lt hb _) (pow_mono (by omega)))
def len (b d : Nat) : Int := ((digs b d).length : Nat)
/-- what a text's number and power are read as -/
def toldF (F : Fm) (b N : Nat) (q : Int) : Int × Int :=
  if topE F + 2 < len b N + q then red (two (topE F + 1)) 1 else red ((N : Int) * (b : Int) ^ q.toNat) ((b : Int) ^ (-q).toNat)
theorem far_size {F : Fm} (o : F.Ok) : size F (ltopV F) < two (topE F + 1) * S F ∧ (F.full = false → size F (ltopV F + 1) ≤ two (topE F + 1) * S F) := by
  have er := eTop_range o
  have p2 := two_pos F.p
  have b1 := bias_range o
  have tt : topE F = two F.w - 1 := rfl
  have e0 : S F = two (bias F + F.p - 1) := by unfold S low; congr 1; omega
  constructor
  · rw [size_top o, e0, ← two_add (by omega) (by have := o.p0; omega)]
    have j := two_pos (eTop F - 1)
    have e1 : 2 * two F.p * two (eTop F - 1) = two (F.p + eTop F) := by
      have := two_succ (e := F.p) o.p0
      rw [← this, ← two_add (by have := o.p0; omega) (by omega)]
      congr 1
      omega
    have e2 : two (F.p + eTop F) ≤ two (topE F + 1 + (bias F + F.p - 1)) := two_le (by omega)
    rw [Int.sub_mul, Int.one_mul]
    omega
  · intro hf
    have h := size_behind o hf
    have tb : bias F ≤ topE F := by
      have : bias F = two (F.w - 1) - 1 := rfl
      have := two_le (a := F.w - 1) (b := F.w) (by omega)
      omega
    rw [pw_nat (by omega), red_int] at h
    have h2 := (red_inj Int.one_pos (S_pos F)).mp h
    rw [Int.mul_one] at h2
    rw [← h2]
    exact Int.mul_le_mul_of_nonneg_right (two_le (by omega)) (Int.le_of_lt (S_pos F))
theorem far_low {F : Fm} (o : F.Ok) {N T : Int} (T0 : 0 < T) (h : two (topE F + 1) * S F * T ≤ N) : IsLow F N T (ltopV F) := by
  have fs := (far_size o).1
  have h1 := Int.mul_lt_mul_of_pos_right fs T0
  exact ⟨(ltop_lt o).1, Int.le_refl _, by omega, .inl rfl⟩
theorem far_rnd {F : Fm} (o : F.Ok) {N T : Int} {m : Str} {s : Int} (T0 : 0 < T) (h : two (topE F + 1) * S F * T ≤ N) :
    rnd F m s N T (ltopV F) = if F.full = false ∧ (m = evenS ∨ (m = downS ∧ s = 1) ∨ (m = upS ∧ s = 0)) then ltopV F + 1 else ltopV F := by
  obtain ⟨f1, f2⟩ := far_size o
  have h1 := Int.mul_lt_mul_of_pos_right f1 T0
  unfold rnd
  by_cases hf : F.full = false
  · have h2 := Int.mul_le_mul_of_nonneg_right (f2 hf) (Int.le_of_lt T0)
    rw [if_pos ⟨by omega, .inl hf⟩]
    have e : (m = evenS ∧ (size F (ltopV F + 1) * T - N < N - size F (ltopV F) * T ∨ size F (ltopV F + 1) * T - N = N - size F (ltopV F) * T ∧ ltopV F % 2 = 1)) ↔ m = evenS :=
      ⟨fun z => z.1, fun z => ⟨z, .inl (by omega)⟩⟩
    simp only [e, hf, true_and]
  · rw [if_neg (by rintro ⟨_, z⟩; rcases z with z | z; exact hf z; omega), if_neg (fun z => hf z.1)]
theorem lay_facts {b d : Nat} {q : Int} (b2 : 2 ≤ b) (b16 : b ≤ 16) (d0 : 0 < d) (hl : (digs b d).length ≤ 1000) (hq : q.natAbs ≤ 1400) :
    ∃ (A : List Nat) (B : Option (List Nat)) (P : Option Int), spreadL (digs b d) q = textL A B P ∧ TextOk b A B P ∧
      ((val b (A ++ B.getD []) = d ∧ P.getD 0 - ((B.getD []).length : Nat) = q) ∨ (0 ≤ q ∧ val b (A ++ B.getD []) = d * b ^ q.toNat ∧ P.getD 0 - ((B.getD []).length : Nat) = 0 ∧ ((digs b d).length : Int) + q ≤ 21)) := by
  have dm := digs_mem (b := b) (n := d) b2
  have dv := val_digs (b := b) (n := d) b2
  have dn := digs_ne b d
  have dp := digs_pos b d
  generalize digs b d = ds at *
  unfold spreadL
  by_cases c1 : 0 ≤ q ∧ (ds.length : Int) + q ≤ 21
  · rw [if_pos c1]
    refine ⟨_, _, _, rfl, ⟨b2, b16, by simp [dn], ?_, ?_, ?_, ?_, ?_, ?_⟩, .inr ⟨c1.1, ?_, rfl, c1.2⟩⟩
    · intro x hx
      rcases List.mem_append.mp hx with hx | hx
      · exact dm x hx
      · have := List.eq_of_mem_replicate hx
        omega
    · rw [List.length_append, List.length_replicate]
      omega
    · intro L h; cases h
    · intro L h; cases h
    · intro L h; cases h
    · intro j h; cases h
    · show val b (ds ++ List.replicate q.toNat 0 ++ []) = _
      rw [List.append_nil, val_zeros, dv]
  rw [if_neg c1]
  by_cases c2 : q < 0 ∧ 0 < (ds.length : Int) + q
  · rw [if_pos c2]
    refine ⟨_, _, _, rfl, ⟨b2, b16, ?_, fun x hx => dm x (List.mem_of_mem_take hx), ?_, ?_, ?_, ?_, ?_⟩, .inl ⟨?_, ?_⟩⟩
    · intro z
      have := congrArg List.length z
      rw [List.length_take, List.length_nil] at this
      omega
    · rw [List.length_take]
      omega
    · rintro L h z
      cases h
      have := congrArg List.length z
      rw [List.length_drop, List.length_nil] at this
      omega
    · rintro L h x hx
      cases h
      exact dm x (List.mem_of_mem_drop hx)
    · rintro L h
      cases h
      rw [List.length_drop]
      omega
    · intro j h; cases h
    · show val b (ds.take _ ++ ds.drop _) = d
      rw [List.take_append_drop, dv]
    · show (0 : Int) - ((ds.drop _).length : Nat) = q
      rw [List.length_drop]
      omega
  rw [if_neg c2]
  by_cases c3 : -7 < (ds.length : Int) + q ∧ (ds.length : Int) + q ≤ 0
  · rw [if_pos c3]
    refine ⟨_, _, _, rfl, ⟨b2, b16, by simp, ?_, by simp, ?_, ?_, ?_, ?_⟩, .inl ⟨?_, ?_⟩⟩
    · intro x hx
      have := List.mem_singleton.mp hx
      omega
    · rintro L h z
      cases h
      simp at z
      exact dn z.2
    · rintro L h x hx
      cases h
      rcases List.mem_append.mp hx with hx | hx
      · have := List.eq_of_mem_replicate hx
        omega
      · exact dm x hx
    · rintro L h
      cases h
      rw [List.length_append, List.length_replicate]
      omega
    · intro j h; cases h
    · show val b ([0] ++ (List.replicate _ 0 ++ ds)) = d
      have e : [0] ++ (List.replicate (-(ds.length : Int) - q).toNat 0 ++ ds) = List.replicate ((-(ds.length : Int) - q).toNat + 1) 0 ++ ds := by
        rw [List.replicate_succ]
        rfl
      rw [e, val_lead, dv]
    · show (0 : Int) - ((List.replicate _ 0 ++ ds).length : Nat) = q
      rw [List.length_append, List.length_replicate]
      omega
  rw [if_neg c3]
  refine ⟨_, _, _, rfl, ⟨b2, b16, ?_, fun x hx => dm x (List.mem_of_mem_take hx), ?_, ?_, ?_, ?_, ?_⟩, .inl ⟨?_, ?_⟩⟩
  · intro z
    have := congrArg List.length z
    rw [List.length_take, List.length_nil] at this
    omega
  · rw [List.length_take]
    omega
  · intro L h z
    split at h
    · cases h
      have := congrArg List.length z
      rw [List.length_drop, List.length_nil] at this
      omega
    · cases h
  · intro L h x hx
    split at h
    · cases h
      exact dm x (List.mem_of_mem_drop hx)
    · cases h
  · intro L h
    split at h
    · cases h
      rw [List.length_drop]
      omega
    · cases h
  · intro j h
    cases h
    omega
  · split
    · show val b (ds.take 1 ++ ds.drop 1) = d
      rw [List.take_append_drop, dv]
    · show val b (ds.take 1 ++ []) = d
      rw [List.append_nil, List.take_of_length_le (by omega), dv]
  · split
    · show ((ds.length : Int) + q - 1) - ((ds.drop 1).length : Nat) = q
      rw [List.length_drop]
      omega
    · show ((ds.length : Int) + q - 1) - ((([] : List Nat).length : Nat) : Int) = q
      simp
      omega
theorem cast_pow (b n : Nat) : ((b ^ n : Nat) : Int) = (b : Int) ^ n := by rw [Int.natCast_pow]
/-- the bounds of a value by its length -/
theorem len_far {b d : Nat} {q a c E : Int} (b2 : 2 ≤ b) (d0 : 0 < d) (c0 : 0 < c) (hv : (d : Int) * (b : Int) ^ q.toNat * c = a * (b : Int) ^ (-q).toNat) (h : E + 1 < len b d + q) (E0 : 0 ≤ E) : two E * c ≤ a := by
  have lo := digs_low b2 d0
  have dp := digs_pos b d
  unfold len at h
  generalize (digs b d).length = n at *
  have lo' : (b : Int) ^ (n - 1) ≤ (d : Int) := by
    rw [← cast_pow]
    exact Int.ofNat_le.mpr lo
  have hR := bpow_pos b2 (-q).toNat
  have hP := bpow_pos b2 q.toNat
  have h1 : (b : Int) ^ (n - 1) * (b : Int) ^ q.toNat * c ≤ a * (b : Int) ^ (-q).toNat := by
    rw [← hv]
    exact Int.mul_le_mul_of_nonneg_right (Int.mul_le_mul_of_nonneg_right lo' (Int.le_of_lt hP)) (Int.le_of_lt c0)
  have e1 : (b : Int) ^ (n - 1) * (b : Int) ^ q.toNat = (b : Int) ^ (n - 1 + q.toNat - (-q).toNat) * (b : Int) ^ (-q).toNat := by
    rw [← Int.pow_add, ← Int.pow_add]
    congr 1
    omega
  rw [e1, Int.mul_assoc, Int.mul_comm _ c, ← Int.mul_assoc] at h1
  have h2 : (b : Int) ^ (n - 1 + q.toNat - (-q).toNat) * c ≤ a := Int.le_of_mul_le_mul_right h1 hR
  have h3 : two E ≤ (b : Int) ^ (n - 1 + q.toNat - (-q).toNat) := by
    unfold two
    rw [← cast_pow]
    have : (2 : Int) ^ E.toNat = ((2 ^ E.toNat : Nat) : Int) := by rw [Int.natCast_pow]; rfl
    rw [this]
    refine Int.ofNat_le.mpr ?_
    exact Nat.le_trans (Nat.pow_le_pow_right (by omega) (by omega)) (Nat.pow_le_pow_left b2 _)
  exact Int.le_trans (Int.mul_le_mul_of_nonneg_right h3 (Int.le_of_lt c0)) h2
theorem len_low {b d : Nat} {q a c M : Int} (b2 : 2 ≤ b) (a0 : 0 < a) (c0 : 0 < c) (hv : (d : Int) * (b : Int) ^ q.toNat * c = a * (b : Int) ^ (-q).toNat) (hM : 0 ≤ M) (h : c ≤ a * two M) : -M - 1 < len b d + q := by
  have hi := digs_high (n := d) b2
  unfold len
  generalize (digs b d).length = n at *
  refine Classical.byContradiction fun hn => ?_
  have hi' : (d : Int) < (b : Int) ^ n := by
    rw [← cast_pow]
    exact Int.ofNat_lt.mpr hi
  have hP := bpow_pos b2 q.toNat
  have h1 : a * (b : Int) ^ (-q).toNat < (b : Int) ^ n * (b : Int) ^ q.toNat * c := by
    rw [← hv]
    exact Int.mul_lt_mul_of_pos_right (Int.mul_lt_mul_of_pos_right hi' hP) c0
  have e1 : (b : Int) ^ (-q).toNat = (b : Int) ^ ((-q).toNat - (n + q.toNat)) * ((b : Int) ^ n * (b : Int) ^ q.toNat) := by
    rw [← Int.pow_add, ← Int.pow_add]
    congr 1
    omega
  rw [e1, ← Int.mul_assoc, Int.mul_comm _ c] at h1
  have hQ : 0 < (b : Int) ^ n * (b : Int) ^ q.toNat := Int.mul_pos (bpow_pos b2 n) hP
  have h2 : a * (b : Int) ^ ((-q).toNat - (n + q.toNat)) < c := Int.lt_of_mul_lt_mul_right h1 (Int.le_of_lt hQ)
  have h3 : two M ≤ (b : Int) ^ ((-q).toNat - (n + q.toNat)) := by
    unfold two
    rw [← cast_pow]
    have : (2 : Int) ^ M.toNat = ((2 ^ M.toNat : Nat) : Int) := by rw [Int.natCast_pow]; rfl
    rw [this]
    refine Int.ofNat_le.mpr ?_
    exact Nat.le_trans (Nat.pow_le_pow_right (by omega) (by omega)) (Nat.pow_le_pow_left b2 _)
  have h4 := Int.mul_le_mul_of_nonneg_left h3 (Int.le_of_lt a0)
  omega
structure Gt (gl : Nat → Option D) : Prop where
  g30 : gl 30 = some (.str signsS)
  g27 : gl 27 = some (.str (Str.ofString "0123456789"))
  g28 : gl 28 = some (.int 6)
  g32 : gl 32 = some (dicOf words)
  g538 : gl 538 = some (.str (Str.ofString "^"))
section
variable {tab : Nat → Option Fn} {gl : Nat → Option D} {wn k : Nat} {F : Fm}
theorem bpower {b : Nat} {q : Int} (A : Ag tab [2, 9, 11]) (W : 64 ≤ wn) (b2 : 2 ≤ b) (b16 : b ≤ 16) (h : q.natAbs ≤ 1500) : callN tab gl wn (k + 2) 11 [I b, I q] = some (fr (bp b q)) := by
  have hw : ∀ n : Nat, n ≤ 1500 → n < 2 ^ (wn - 1) := fun n hn => by
    have h1 : (2 : Nat) ^ 11 ≤ 2 ^ (wn - 1) := pow_mono (by omega)
    have h2 : (2 : Nat) ^ 11 = 2048 := by decide
    omega
  have hb : ((b : Int)).natAbs < 2 ^ 5 := by
    have : (2 : Nat) ^ 5 = 32 := by decide
    omega
  have ra : ∀ e : Int, 0 ≤ e → e ≤ 1500 → callN tab gl wn (k + 1) 9 [I b, I e] = some (I ((b : Int) ^ e.toNat)) := fun e e0 e1 =>
    Vp.Sh.raised (c := 5) (A.get (i := 9) (by decide)) e0 hb (by omega) (hw _ (by omega)) (by omega)
  unfold bp
  by_cases h0 : 0 ≤ q
  · have a1 := ra q h0 (by omega)
    rw [callN_eq (A.get (i := 11) (by decide)) rfl]
    generalize callN tab gl wn (k + 1) = cf at *
    have e : (-q).toNat = 0 := by omega
    rw [e, Int.pow_zero, ← red_int]
    have e1 : fr ((b : Int) ^ q.toNat, 1) = .tup [I ((b : Int) ^ q.toNat), I 1] := rfl
    rw [e1]
    simp [b11, exs_cons, seqF_def, startE, a1, h0]
  · have a1 := ra (-q) (by omega) (by omega)
    have a2 := fraction (gl := gl) (wn := wn) (k := k) (t := 1) (b := (b : Int) ^ (-q).toNat) (A.sub (l' := [2]) (by decide)) (bpow_pos b2 _) (Nat.lt_of_lt_of_le (bpow_lt b16 _) (pow_mono (by omega)))
    have e : q.toNat = 0 := by omega
    rw [e, Int.pow_zero]
    rw [callN_eq (A.get (i := 11) (by decide)) rfl]
    generalize callN tab gl wn (k + 1) = cf at *
    generalize red 1 ((b : Int) ^ (-q).toNat) = r at *
    generalize (b : Int) ^ (-q).toNat = p at *
    simp [b11, exs_cons, seqF_def, startE, a1, a2, h0]
theorem told_size {b N : Nat} {q : Int} (A : Ag tab [2, 3, 6, 9, 11, 12, 13, 33, 60]) (W : 1000 ≤ wn) (W2 : wn ≤ 100000) (o : F.W8) (g30 : gl 30 = some (.str signsS)) (b2 : 2 ≤ b) (b16 : b ≤ 16) (N0 : 0 < N) (hN : N < 2 ^ 900) (hq : q.natAbs ≤ 1400) (hlow : ¬ len b N + q < -bias F - F.p - 2) :
    callN tab gl wn (k + 3) 60 [F.d, I b, I N, I q] = some (fr (toldF F b N q)) := by
  have W64 : 64 ≤ wn := by omega
  have hl : (digs b N).length ≤ 900 := digs_len b2 (by omega) (Nat.lt_of_lt_of_le hN (Nat.pow_le_pow_left b2 _))
  have tw : topE F ≤ 255 := by
    unfold topE
    have := two_le (a := F.w) (b := 8) o.w8
    have e : two 8 = 256 := rfl
    omega
  have t0 : 0 ≤ topE F := by
    have := two_pos F.w
    unfold topE
    omega
  have a1 := digits_of (gl := gl) (wn := wn) (k := k + 1) (b := b) (n := N) (A.sub (l' := [33]) (by decide)) g30 b2 b16 (by omega) W2
  have a2 := top_exponent (gl := gl) (k := k) (F := F) (A.sub (l' := [9, 13]) (by decide)) W64 o.mid.ok
  have a3 := bias_of (gl := gl) (k := k) (F := F) (A.sub (l' := [9, 12]) (by decide)) W64 o.mid.ok
  have a4 := ppower (gl := gl) (wn := wn) (k := k) (e := topE F + 1) (A.sub (l' := [2, 9, 11]) (by decide)) W64 (by omega)
  rw [pw_nat (by omega), red_int] at a4
  have a5 := whole (gl := gl) (wn := wn) (k := k + 1) (n := (N : Int)) (A.sub (l' := [3]) (by decide))
  have a6 := bpower (gl := gl) (wn := wn) (k := k) (b := b) (q := q) (A.sub (l' := [2, 9, 11]) (by decide)) W64 b2 b16 (by omega)
  have hN' : Sh 901 ((N : Int), (1 : Int)) := ⟨Int.one_pos, by show ((N : Int)).natAbs < _; rw [Int.natAbs_natCast]; exact Nat.lt_of_lt_of_le hN (pow_mono (by omega)), Nat.lt_of_lt_of_le (by decide : 1 < 2 ^ 1) (pow_mono (by omega))⟩
  have a7 := ptimes (gl := gl) (wn := wn) (k := k) (A.sub (l' := [2, 6]) (by decide)) hN' (Sh.bp b2 b16 hq) (by omega)
  have et : timesF ((N : Int), (1 : Int)) (bp b q) = red ((N : Int) * (b : Int) ^ q.toNat) ((b : Int) ^ (-q).toNat) := by
    unfold bp
    rw [red_int, red_times Int.one_pos (bpow_pos b2 _), Int.one_mul]
  rw [et] at a7
  have le := len_sl (l := (digs b N).map dig) (by rw [List.length_map]; omega)
  rw [List.length_map] at le
  have hN0 : ¬ ((N : Int) = 0) := by omega
  have i2 : ixD F.d (.int 2) = some (I F.p) := rfl
  rw [callN_eq (A.get (i := 60) (by decide)) rfl]
  change callN tab gl wn (k + 2) _ _ = _ at a1
  change callN tab gl wn (k + 2) _ _ = _ at a5
  generalize callN tab gl wn (k + 2) = cf at *
  unfold toldF
  unfold len at hlow ⊢
  generalize bp b q = r1 at *
  generalize red ((N : Int) * (b : Int) ^ q.toNat) ((b : Int) ^ (-q).toNat) = r2 at *
  generalize red (two (topE F + 1)) 1 = r3 at *
  generalize sl ((digs b N).map dig) = t at *
  generalize (digs b N).length = n at *
  generalize (N : Int) = nn at *
  generalize fr (nn, 1) = f1 at *
  generalize bias F = bi at *
  generalize topE F = te at *
  by_cases c : te + 2 < (n : Int) + q
  · rw [if_pos c]
    simp [b60, exs_cons, seqF_def, startE, a1, a2, a3, a4, le, hN0, c]
  · rw [if_neg c]
    simp [b60, exs_cons, seqF_def, startE, a1, a2, a3, a4, a5, a6, a7, le, hN0, c, i2, hlow]
abbrev roundTab : List Nat := [2, 3, 5, 6, 7, 8, 9, 10, 11, 12, 13, 14, 15, 17, 18, 19, 20, 22, 38, 39, 40, 41, 42, 43, 44, 45]
abbrev readTab : List Nat := 21 :: 23 :: 24 :: 25 :: 26 :: 29 :: 31 :: 33 :: 59 :: 60 :: 61 :: roundTab
/-- a laid out text read -/
theorem read_lay {m : Str} {b d : Nat} {s q a c : Int} (A : Ag tab readTab) (W : 1000 ≤ wn) (W2 : wn ≤ 100000) (o : F.W8) (G : Gt gl) (hm : isMode m) (b2 : 2 ≤ b) (b16 : b ≤ 16) (hs : s = 0 ∨ s = 1) (d0 : 0 < d) (hd : d < 2 ^ 800) (hq : q.natAbs ≤ 1400)
    (a0 : 0 < a) (c0 : 0 < c) (hv : (d : Int) * (b : Int) ^ q.toNat * c = a * (b : Int) ^ (-q).toNat) (hlow : c ≤ a * S F) (hsh : Sh 1700 (red a c)) :
    callN tab gl wn (k + 9) 61 [F.d, I b, .str m, .str (sl (layL b s d q))] = some (I (rnd F m s (a * S F) c (lowV F (a * S F) c) + s * half F)) := by
  have ok := o.mid.ok
  have Sp := S_pos F
  have hl : (digs b d).length ≤ 800 := digs_len b2 (by omega) (Nat.lt_of_lt_of_le hd (Nat.pow_le_pow_left b2 _))
  obtain ⟨TA, TB, TP, t1, t2, t3⟩ := lay_facts b2 b16 d0 (by omega) hq
  have a1 := split_text (gl := gl) (wn := wn) (k := k + 5) (s := s) (A.sub (l' := [23, 24, 25, 26, 29, 31]) (by decide)) G.g30 G.g27 G.g28 G.g32 G.g538 t2 hs
  have el : layL b s d q = sgnL s ++ textL TA TB TP := by
    unfold layL
    rw [t1]
  rw [← el] at a1
  generalize val b (TA ++ TB.getD []) = N at *
  generalize TP.getD 0 - ((TB.getD []).length : Nat) = q' at *
  have hB := bpow_pos b2 (-q).toNat
  have key : 0 < N ∧ N < 2 ^ 900 ∧ q'.natAbs ≤ 1400 ∧ len b N + q' = len b d + q ∧ (N : Int) * (b : Int) ^ q'.toNat * c = a * (b : Int) ^ (-q').toNat := by
    rcases t3 with ⟨rfl, rfl⟩ | ⟨q0, rfl, rfl, q21⟩
    · exact ⟨d0, Nat.lt_of_lt_of_le hd (pow_mono (by omega)), hq, rfl, hv⟩
    · refine ⟨Nat.mul_pos d0 (Nat.pow_pos (by omega)), ?_, by omega, ?_, ?_⟩
      · have h1 : b ^ q.toNat ≤ 16 ^ 21 := Nat.le_trans (Nat.pow_le_pow_left b16 _) (Nat.pow_le_pow_right (by omega) (by have := digs_pos b d; omega))
        have h2 : (16 : Nat) ^ 21 = 2 ^ 84 := by decide
        rw [h2] at h1
        have h3 : d * b ^ q.toNat ≤ 2 ^ 800 * 2 ^ 84 := Nat.mul_le_mul (by omega) h1
        rw [← Nat.pow_add] at h3
        exact Nat.lt_of_le_of_lt h3 (Nat.pow_lt_pow_right (by omega) (by omega))
      · unfold len
        rw [digs_shift b2 d0, List.length_append, List.length_replicate]
        omega
      · have e : (-q).toNat = 0 := by omega
        rw [e] at hv
        rw [Int.natCast_mul, cast_pow]
        simpa using hv
  obtain ⟨N0, hN, hq', hle, hv'⟩ := key
  have lowS : S F = two (bias F + F.p - 1) := by unfold S low; congr 1; omega
  have nl : ¬ len b N + q' < -bias F - F.p - 2 := by
    rw [lowS] at hlow
    have b1 := bias_range ok
    have := len_low b2 a0 c0 hv (by have := ok.p0; omega) hlow
    omega
  have a2 := told_size (gl := gl) (k := k + 5) (F := F) (A.sub (l' := [2, 3, 6, 9, 11, 12, 13, 33, 60]) (by decide)) W W2 o G.g30 b2 b16 N0 hN hq' nl
  have s0 : 0 ≤ s := by omega
  have s1 : s ≤ 1 := by omega
  have i0 : ∀ a b c e : D, atI [a, b, c, e] 0 = some a := fun _ _ _ _ => rfl
  have a3 : callN tab gl wn (k + 8) 45 [F.d, .str m, I s, fr (toldF F b N q')] = some (I (rnd F m s (a * S F) c (lowV F (a * S F) c) + s * half F)) := by
    unfold toldF
    by_cases hf : topE F + 2 < len b N + q'
    · rw [if_pos hf]
      have t0 : 0 ≤ topE F := by
        have := two_pos F.w
        unfold topE
        omega
      have tw : topE F ≤ 255 := by
        unfold topE
        have := two_le (a := F.w) (b := 8) o.w8
        have e : two 8 = 256 := rfl
        omega
      have hff := len_far (E := topE F + 1) b2 d0 c0 hv (by omega) (by omega)
      have sh : Sh 300 (red (two (topE F + 1)) 1) := Sh.red Int.one_pos (two_lt (by omega) (by omega)) (Nat.lt_of_lt_of_le (by decide : 1 < 2 ^ 1) (pow_mono (by omega)))
      obtain ⟨x, hx, a3⟩ := rounded (gl := gl) (wn := wn) (k := k) (F := F) (m := m) (s := s) (a := two (topE F + 1)) (b := 1) (A.sub (l' := roundTab) (by decide)) (by omega) o.mid hm s0 s1 (Int.le_of_lt (two_pos _)) Int.one_pos sh (by omega)
      have h1 : two (topE F + 1) * S F * 1 ≤ two (topE F + 1) * S F := by omega
      have h2 : two (topE F + 1) * S F * c ≤ a * S F := by
        have := Int.mul_le_mul_of_nonneg_right hff (Int.le_of_lt Sp)
        rw [Int.mul_assoc, Int.mul_comm (S F) c, ← Int.mul_assoc]
        exact this
      have e1 := hx.uniq ok Int.one_pos (far_low ok Int.one_pos h1)
      have e2 := lowV_eq ok c0 (far_low ok c0 h2)
      rw [e1, far_rnd ok Int.one_pos h1] at a3
      rw [e2, far_rnd ok c0 h2]
      exact a3
    · rw [if_neg hf]
      have er : red ((N : Int) * (b : Int) ^ q'.toNat) ((b : Int) ^ (-q').toNat) = red a c := red_congr (bpow_pos b2 _) c0 hv'
      rw [er]
      obtain ⟨x, hx, a3⟩ := rounded (gl := gl) (wn := wn) (k := k) (F := F) (m := m) (s := s) (a := a) (b := c) (A.sub (l' := roundTab) (by decide)) (by omega) o.mid hm s0 s1 (Int.le_of_lt a0) c0 hsh (by omega)
      rw [lowV_eq ok c0 hx]
      exact a3
  rw [callN_eq (A.get (i := 61) (by decide)) rfl]
  change callN tab gl wn (k + 8) _ _ = _ at a1
  change callN tab gl wn (k + 8) _ _ = _ at a2
  generalize callN tab gl wn (k + 8) = cf at *
  generalize sl (layL b s d q) = tx at *
  generalize rnd F m s (a * S F) c (lowV F (a * S F) c) + s * half F = res at *
  generalize fr (toldF F b N q') = tf at *
  simp [b61, exs_cons, seqF_def, startE, a1, a2, a3, asg4, i0]
end
end Vp.U

end

section
set_option Elab.async false
set_option linter.all false
set_option autoImplicit false
set_option maxRecDepth 100000
set_option maxHeartbeats 0
/-! texts of totals: loops -/
namespace Vp.U
open Vp L2 PySem
theorem least {P : Nat → Prop} : ∀ n, P n → ∃ j, j ≤ n ∧ P j ∧ ∀ i, i < j → ¬ P i := by
  intro n
  induction n using Nat.strongRecOn with
  | _ n ih =>
    intro h
    by_cases z : ∃ i, i < n ∧ P i
    · obtain ⟨i, hi, hp⟩ := z
      obtain ⟨j, h1, h2, h3⟩ := ih i hi hp
      exact ⟨j, by omega, h2, h3⟩
    · exact ⟨n, Nat.le_refl _, h, fun i hi hp => z ⟨i, hi, hp⟩⟩
theorem strip_ex {b : Nat} (b2 : 2 ≤ b) (d : Nat) : 0 < d → ∃ d' z, 0 < d' ∧ d = d' * b ^ z ∧ d' % b ≠ 0 := by
  induction d using Nat.strongRecOn with
  | _ d ih =>
    intro h
    by_cases c : d % b = 0
    · have e : d / b * b = d := Nat.div_mul_cancel (Nat.dvd_of_mod_eq_zero c)
      have hp : 0 < d / b := by
        rcases Nat.eq_zero_or_pos (d / b) with z | z
        · rw [z] at e
          omega
        · exact z
      obtain ⟨d', z, h1, h2, h3⟩ := ih (d / b) (Nat.div_lt_self h (by omega)) hp
      refine ⟨d', z + 1, h1, ?_, h3⟩
      rw [Nat.pow_succ, ← Nat.mul_assoc, ← h2, e]
    · exact ⟨d, 0, h, by simp, c⟩
theorem strip_lt {b d' z n : Nat} (b2 : 2 ≤ b) (h0 : 0 < d') (h : d' * b ^ z < 2 ^ n) : z < n ∧ d' < 2 ^ n := by
  have hp : 0 < b ^ z := Nat.pow_pos (by omega)
  have h1 : b ^ z ≤ d' * b ^ z := Nat.le_mul_of_pos_left _ h0
  have h2 : 2 ^ z ≤ b ^ z := Nat.pow_le_pow_left b2 z
  have h3 : d' ≤ d' * b ^ z := Nat.le_mul_of_pos_right _ hp
  exact ⟨(Nat.pow_lt_pow_iff_right (by omega)).mp (by omega : 2 ^ z < 2 ^ n), by omega⟩
theorem strip_mod {b d' r : Nat} (b2 : 2 ≤ b) (h : d' % b ≠ 0) : (((d' * b ^ r : Nat) : Int) % (b : Int) = 0) ↔ 0 < r := by
  have e : ((d' * b ^ r : Nat) : Int) % (b : Int) = (((d' * b ^ r) % b : Nat) : Int) := by omega
  rw [e]
  cases r with
  | zero =>
    simp only [Nat.pow_zero, Nat.mul_one]
    omega
  | succ r =>
    have : (d' * b ^ (r + 1)) % b = 0 := by rw [Nat.pow_succ, ← Nat.mul_assoc]; exact Nat.mul_mod_left _ _
    rw [this]
    simp
theorem strip_div {b d' r : Nat} (b2 : 2 ≤ b) : ((d' * b ^ (r + 1) : Nat) : Int) / (b : Int) = ((d' * b ^ r : Nat) : Int) := by
  have e : ((d' * b ^ (r + 1) : Nat) : Int) / (b : Int) = (((d' * b ^ (r + 1)) / b : Nat) : Int) := by omega
  rw [e, Nat.pow_succ, ← Nat.mul_assoc, Nat.mul_div_cancel _ (by omega)]
theorem red_den {x u : Int} (hu : 0 < u) : (red x u).2 = 1 ↔ x % u = 0 := by
  constructor
  · intro h
    have := red_eq (t := x) hu
    rw [h, Int.mul_one] at this
    rw [← this]
    exact Int.mul_emod_left _ _
  · intro h
    have e : x = x / u * u := by
      have := Int.mul_ediv_add_emod x u
      rw [h, Int.add_zero, Int.mul_comm] at this
      exact this.symm
    rw [e, red_whole hu]
section
variable {tab : Nat → Option Fn} {gl : Nat → Option D} {wn k : Nat} {F : Fm}
theorem stripped {b d' z : Nat} {q : Int} (A : Ag tab [51]) (b2 : 2 ≤ b) (b16 : b ≤ 16) (h : d' % b ≠ 0) (hz : z < wn) : callN tab gl wn (k + 1) 51 [I b, I (d' * b ^ z : Nat), I q] = some (.tup [I d', I (q + z)]) := by
  rw [callN_eq (A.get (i := 51) (by decide)) rfl]
  generalize callN tab gl wn k = cf at *
  have hb : (0 : Int) < (b : Int) := by omega
  have dv : divOk (b : Int) = true := divOk_small hb (by omega)
  have ct : ∀ r : Nat, ∀ p : Int, tev cf gl (.cmp .Eq (.bin .mod (.loc 1) (.loc 0)) (.int 0)) [.f (I b), .f (I (d' * b ^ r : Nat)), .f (I p)] = some (decide (0 < r)) := fun r p => by
    have e := strip_mod (r := r) b2 h
    generalize d' * b ^ r = v at *
    have : tev cf gl (.cmp .Eq (.bin .mod (.loc 1) (.loc 0)) (.int 0)) [.f (I b), .f (I v), .f (I p)] = some (decide ((v : Int) % (b : Int) = 0)) := by
      rw [tev_cmp, ev_bin, show ev cf gl (.loc 1) [.f (I b), .f (I v), .f (I p)] = some (I v) from rfl, bind_s, show ev cf gl (.loc 0) [.f (I b), .f (I v), .f (I p)] = some (I b) from rfl, bind_s, mod_int, if_pos hb, bind_s, ev_int, bind_s, eq_int]
    rw [this]
    congr 1
    rw [Bool.eq_iff_iff, decide_eq_true_eq, decide_eq_true_eq]
    exact e
  obtain ⟨E', m', e1, ⟨rfl, i2⟩, e2⟩ := whileF_inv (c := tev cf gl (.cmp .Eq (.bin .mod (.loc 1) (.loc 0)) (.int 0))) (b := exs cf gl wn b51_1) (fun m E => E = [.f (I b), .f (I (d' * b ^ m : Nat)), .f (I (q + (z - m)))] ∧ m ≤ z) (by
    rintro m E ⟨rfl, i2⟩
    cases m with
    | zero =>
      left
      rw [ct]
      rfl
    | succ m =>
      right
      refine ⟨_, m, by rw [ct]; simp, ?_, by omega, rfl, by omega⟩
      have sd := strip_div (d' := d') (r := m) b2
      generalize d' * b ^ (m + 1) = v1 at *
      generalize d' * b ^ m = v0 at *
      refine exs_nx (E' := [.f (I b), .f (I v0), .f (I (q + (z - (m + 1 : Nat))))]) ?_ ?_
      · simp [dv]
        exact sd
      · refine exs_nx (E' := _) ?_ rfl
        simp
        omega) wn z _ hz ⟨rfl, Nat.le_refl z⟩
  have hm : m' = 0 := by
    rw [ct] at e2
    have := Option.some.inj e2
    simp at this
    exact this
  subst hm
  have hh : exs cf gl wn b51 (startE 3 [I b, I (d' * b ^ z : Nat), I q]) = some (.rt (.tup [I d', I (q + z)])) := by
    refine exs_nx (E' := [.f (I b), .f (I (d' * b ^ 0 : Nat)), .f (I (q + (z - (0 : Nat))))]) ?_ (exs_rt ?_)
    · rw [frz_nil, ex1_whl]
      have e : startE 3 [I b, I (d' * b ^ z : Nat), I q] = [.f (I b), .f (I (d' * b ^ z : Nat)), .f (I (q + (z - z)))] := by
        rw [Int.sub_self, Int.add_zero]
        rfl
      rw [e]
      exact e1
    · have e : ((d' * b ^ 0 : Nat) : Int) = d' := by simp
      rw [e]
      simp
  rw [hh]
  rfl
theorem lstripped {b d' z : Nat} {q : Int} (A : Ag tab [144]) (b2 : 2 ≤ b) (b16 : b ≤ 16) (h : d' % b ≠ 0) (hz : z ≤ 200) : callN tab gl wn (k + 1) 144 [I b, I (d' * b ^ z : Nat), I q] = some (.tup [I d', I (q + z)]) := by
  rw [callN_eq (A.get (i := 144) (by decide)) rfl]
  generalize callN tab gl wn k = cf at *
  have hb : (0 : Int) < (b : Int) := by omega
  have dv : divOk (b : Int) = true := divOk_small hb (by omega)
  have ct : ∀ r : Nat, ∀ (p : Int) (c : Cell), tev cf gl (.cmp .Eq (.bin .mod (.loc 1) (.loc 0)) (.int 0)) [.f (I b), .f (I (d' * b ^ r : Nat)), .f (I p), c] = some (decide (0 < r)) := fun r p c => by
    have e := strip_mod (r := r) b2 h
    generalize d' * b ^ r = v at *
    have : tev cf gl (.cmp .Eq (.bin .mod (.loc 1) (.loc 0)) (.int 0)) [.f (I b), .f (I v), .f (I p), c] = some (decide ((v : Int) % (b : Int) = 0)) := by
      rw [tev_cmp, ev_bin, show ev cf gl (.loc 1) [.f (I b), .f (I v), .f (I p), c] = some (I v) from rfl, bind_s, show ev cf gl (.loc 0) [.f (I b), .f (I v), .f (I p), c] = some (I b) from rfl, bind_s, mod_int, if_pos hb, bind_s, ev_int, bind_s, eq_int]
    rw [this]
    congr 1
    rw [Bool.eq_iff_iff, decide_eq_true_eq, decide_eq_true_eq]
    exact e
  obtain ⟨E', e1, r, c, p, rfl, i1, i2⟩ := forF_inv (t := .nm 3) (b := exs cf gl wn b144_1) ((List.range 200).map fun i => .int (0 + (i : Nat)))
    (fun i E => ∃ (r : Nat) (c : Cell) (p : Int), E = [.f (I b), .f (I (d' * b ^ r : Nat)), .f (I p), c] ∧ p = q + (z - r) ∧ r = z - i)
    [.f (I b), .f (I (d' * b ^ z : Nat)), .f (I q), .u] ⟨z, _, q, rfl, by omega, by omega⟩ (by
      rintro i d E hd ⟨r, c, p, rfl, i1, i2⟩
      cases r with
      | zero =>
        refine ⟨_, [.f (I b), .f (I (d' * b ^ 0 : Nat)), .f (I p), .f d], rfl, .inl ?_, 0, _, p, rfl, i1, by omega⟩
        refine exs_nx (E' := _) ?_ rfl
        rw [frz_nil, ex1_ife]
        have := ct 0 p (.f d)
        erw [this]
        rfl
      | succ r =>
        refine ⟨_, [.f (I b), .f (I (d' * b ^ r : Nat)), .f (I (p + 1)), .f d], rfl, .inl ?_, r, _, p + 1, rfl, by omega, by omega⟩
        refine exs_nx (E' := _) ?_ rfl
        rw [frz_nil, ex1_ife]
        have := ct (r + 1) p (.f d)
        erw [this]
        rw [bind_s, if_pos (by simp)]
        have sd := strip_div (d' := d') (r := r) b2
        generalize d' * b ^ (r + 1) = v1 at *
        generalize d' * b ^ r = v0 at *
        refine exs_nx (E' := [.f (I b), .f (I v0), .f (I p), .f d]) ?_ ?_
        · simp [dv]
          exact sd
        · refine exs_nx (E' := _) ?_ rfl
          simp)
  have hr : r = 0 := by
    simp at i2
    omega
  subst hr
  have hh : exs cf gl wn b144 (startE 4 [I b, I (d' * b ^ z : Nat), I q]) = some (.rt (.tup [I d', I (q + z)])) := by
    refine exs_nx (E' := [.f (I b), .f (I (d' * b ^ 0 : Nat)), .f (I p), c]) ?_ (exs_rt ?_)
    · rw [frz_nil, ex1_for]
      exact e1
    · have e : ((d' * b ^ 0 : Nat) : Int) = d' := by simp
      rw [e, i1]
      simp
  rw [hh]
  rfl
theorem ldigits {b n : Nat} (A : Ag tab [142]) (b2 : 2 ≤ b) (b16 : b ≤ 16) (hl : (digs b n).length < 400) : callN tab gl wn (k + 1) 142 [I b, I n] = some (.str (sl ((digs b n).map dig))) := by
  rw [callN_eq (A.get (i := 142) (by decide)) rfl]
  generalize callN tab gl wn k = cf at *
  have hb : (0 : Int) < (b : Int) := by omega
  have dv : divOk (b : Int) = true := divOk_small hb (by omega)
  obtain ⟨E', e1, num, fd, c, rfl, i1, i2, i3⟩ := forF_inv (t := .nm 3) (b := exs cf gl wn b142_1) ((List.range 400).map fun i => .int (0 + (i : Nat)))
    (fun i E => ∃ (num : Nat) (fd : List Nat) (c : Cell), E = [.f (I b), .f (I num), .f (.str (sl (fd.map dig))), c] ∧ ((0 < num ∨ fd = []) → digs b n = digs b num ++ fd) ∧ (¬ (0 < num ∨ fd = []) → digs b n = fd) ∧ ((0 < num ∨ fd = []) → fd.length = i))
    [.f (I b), .f (I n), .f (.str (sl [])), .u] ⟨n, [], _, rfl, fun _ => by simp, fun z => absurd (.inr rfl) z, fun _ => rfl⟩ (by
      rintro i d E hd ⟨num, fd, c, rfl, i1, i2, i3⟩
      have em : cmpD .Eq (.str (sl (fd.map dig))) (.str (Str.ofString "")) = some (decide (fd = [])) := by
        rw [eq_str, emp]
        congr 1
        rw [Bool.eq_iff_iff, decide_eq_true_eq, decide_eq_true_eq, sl_inj, List.map_eq_nil_iff]
      have ct : tev cf gl (.bool .Or (.cons (.cmp .Gt (.loc 1) (.int 0)) (.cons (.cmp .Eq (.loc 2) (.str ("" : String))) .nil))) [.f (I b), .f (I num), .f (.str (sl (fd.map dig))), .f d] = some (decide (0 < num ∨ fd = [])) := by
        generalize sl (fd.map dig) = t at *
        have g : cmpD .Gt (I num) (.int 0) = some (decide (0 < num)) := by
          rw [gt_int]
          congr 1
          rw [Bool.eq_iff_iff, decide_eq_true_eq, decide_eq_true_eq]
          omega
        rw [tev_or, tev_cmp, show ev cf gl (.loc 1) [.f (I b), .f (I num), .f (.str t), .f d] = some (I num) from rfl, bind_s, ev_int, bind_s, g, bind_s, tev_one, tev_cmp, show ev cf gl (.loc 2) [.f (I b), .f (I num), .f (.str t), .f d] = some (.str t) from rfl, bind_s, ev_str, bind_s, em]
        by_cases z : 0 < num <;> simp [z]
      by_cases cc : 0 < num ∨ fd = []
      · have d1 := i1 cc
        have hfd : fd.length < 400 := by
          have := congrArg List.length d1
          rw [List.length_append] at this
          have := digs_pos b num
          omega
        have hm : num % b < b := Nat.mod_lt _ (by omega)
        have emn : ((num : Int) % (b : Int)) = ((num % b : Nat) : Int) := by omega
        have edn : ((num : Int) / (b : Int)) = ((num / b : Nat) : Int) := by omega
        have si := sign_ix (i := ((num % b : Nat) : Int)) (by omega) (by omega)
        have si' : ixD (.str (Str.ofString "0123456789abcdef")) (.int ((num % b : Nat) : Int)) = some (.str (sl [dig (num % b)])) := by
          have e : ((num % b : Nat) : Int).toNat = num % b := by omega
          rw [e] at si
          exact si
        have ad := add_sl (a := [dig (num % b)]) (b := fd.map dig) (by rw [List.length_map, List.length_singleton]; omega)
        have el : [dig (num % b)] ++ fd.map dig = (num % b :: fd).map dig := rfl
        rw [el] at ad
        refine ⟨[.f (I b), .f (I num), .f (.str (sl (fd.map dig))), .f d], [.f (I b), .f (I (num / b : Nat)), .f (.str (sl ((num % b :: fd).map dig))), .f d], rfl, .inl ?_, num / b, num % b :: fd, _, rfl, ?_, ?_, ?_⟩
        · refine exs_nx (E' := _) ?_ rfl
          rw [frz_nil, ex1_ife]
          erw [ct]
          rw [bind_s, if_pos (by simpa using cc)]
          generalize sl ((num % b :: fd).map dig) = t1 at *
          generalize sl (fd.map dig) = t0 at *
          refine exs_nx (E' := [.f (I b), .f (I num), .f (.str t1), .f d]) ?_ ?_
          · have o0 : ev cf gl (.loc 0) [.f (I b), .f (I num), .f (.str t0), .f d] = some (I b) := rfl
            have o1 : ev cf gl (.loc 1) [.f (I b), .f (I num), .f (.str t0), .f d] = some (I num) := rfl
            have o2 : ev cf gl (.loc 2) [.f (I b), .f (I num), .f (.str t0), .f d] = some (.str t0) := rfl
            rw [frz_nil, ex1_asg, ev_bin, ev_sub, ev_str, bind_s, ev_bin, o1, bind_s, o0, bind_s, mod_int, if_pos hb, bind_s, emn, si', bind_s, o2, bind_s, ad]
            rfl
          · refine exs_nx (E' := _) ?_ rfl
            have o0 : ev cf gl (.loc 0) [.f (I b), .f (I num), .f (.str t1), .f d] = some (I b) := rfl
            have o1 : ev cf gl (.loc 1) [.f (I b), .f (I num), .f (.str t1), .f d] = some (I num) := rfl
            rw [frz_nil, ex1_asg, ev_bin, o1, bind_s, o0, bind_s, fdiv_int, if_pos dv, bind_s, edn]
            rfl
        · rintro (z | z)
          · have hbn : b ≤ num := by
              refine Classical.byContradiction fun hn => ?_
              rw [Nat.div_eq_of_lt (by omega)] at z
              omega
            rw [d1, digs_step b2 hbn, List.append_assoc]
            rfl
          · cases z
        · intro z
          have z1 : num / b = 0 := by
            rcases Nat.eq_zero_or_pos (num / b) with w | w
            · exact w
            · exact absurd (.inl w) z
          have hbn : num < b := by
            rcases (Nat.div_eq_zero_iff).mp z1 with w | w
            · omega
            · exact w
          rw [d1, digs_lt hbn, Nat.mod_eq_of_lt hbn]
          rfl
        · intro _
          rw [List.length_cons, i3 cc]
      · refine ⟨[.f (I b), .f (I num), .f (.str (sl (fd.map dig))), .f d], [.f (I b), .f (I num), .f (.str (sl (fd.map dig))), .f d], rfl, .inl ?_, num, fd, _, rfl, fun z => absurd z cc, i2, fun z => absurd z cc⟩
        refine exs_nx (E' := _) ?_ rfl
        rw [frz_nil, ex1_ife]
        erw [ct]
        rw [bind_s, if_neg (by simpa using cc)]
        rfl)
  have fin : digs b n = fd := by
    by_cases cc : 0 < num ∨ fd = []
    · have d1 := i1 cc
      have l1 := i3 cc
      have := congrArg List.length d1
      rw [List.length_append] at this
      have := digs_pos b num
      simp at l1
      omega
    · exact i2 cc
  have hh : exs cf gl wn b142 (startE 4 [I b, I n]) = some (.rt (.str (sl ((digs b n).map dig)))) := by
    refine exs_nx (E' := [.f (I b), .f (I n), .f (.str (sl [])), .u]) (by simp [startE, emp]) ?_
    refine exs_nx (E' := [.f (I b), .f (I num), .f (.str (sl (fd.map dig))), c]) ?_ (exs_rt ?_)
    · rw [frz_nil, ex1_for]
      exact e1
    · rw [fin]
      rfl
  rw [hh]
  rfl
end
end Vp.U

end

section
set_option Elab.async false
set_option linter.all false
set_option autoImplicit false
set_option maxRecDepth 100000
set_option maxHeartbeats 0
/-! texts of totals: the law's layout, the exact text -/
namespace Vp.U
open Vp L2 PySem
section
variable {tab : Nat → Option Fn} {gl : Nat → Option D} {wn k : Nat} {F : Fm}
theorem llayout {b d : Nat} {s q : Int} (T : Ag tab [142, 143]) (b2 : 2 ≤ b) (b16 : b ≤ 16) (hs : s = 0 ∨ s = 1) (hl : (digs b d).length < 400) (q0 : -1000 ≤ q) (q1 : q ≤ 1000) :
    callN tab gl wn (k + 2) 143 [I b, I s, I d, I q] = some (.str (sl (layL b s d q))) := by
  have a1 := ldigits (gl := gl) (wn := wn) (k := k) (n := d) (T.sub (l' := [142]) (by decide)) b2 b16 hl
  rw [callN_eq (T.get (i := 143) (by decide)) rfl]
  generalize callN tab gl wn (k + 1) = cf at *
  have h0 := digs_ne b d
  unfold layL
  generalize digs b d = ds at *
  have hp : 0 < ds.length := List.length_pos_iff.mpr h0
  have lm : (ds.map dig).length = ds.length := List.length_map ..
  have le := len_sl (l := ds.map dig) (by omega)
  rw [lm] at le
  obtain ⟨d0, r, hds⟩ : ∃ d r, ds = d :: r := by
    cases hd : ds with
    | nil => exact absurd hd h0
    | cons d r => exact ⟨d, r, rfl⟩
  have nq : ((ds.length : Int) + q - 1).natAbs < 1000000 := by omega
  have lg : ((ds.length : Int) + q - 1).natAbs.log2 < 1920 := by
    by_cases z : ((ds.length : Int) + q - 1).natAbs = 0
    · rw [z]
      decide
    · refine (Nat.log2_lt z).mpr (Nat.lt_of_lt_of_le nq ?_)
      exact Nat.le_trans (by decide : 1000000 ≤ 2 ^ 20) (Nat.pow_le_pow_right (by omega) (by omega))
  have ln := numI_len nq
  let E : List Nat → Env' := fun t => [.f (I b), .f (I s), .f (I d), .f (I q), .f (.str (sl (ds.map dig))), .f (I (ds.length : Nat)), .f (.str (sl t))]
  have o1 : ∀ t, ev cf gl (.loc 1) (E t) = some (I s) := fun _ => rfl
  have o3 : ∀ t, ev cf gl (.loc 3) (E t) = some (I q) := fun _ => rfl
  have o4 : ∀ t, ev cf gl (.loc 4) (E t) = some (.str (sl (ds.map dig))) := fun _ => rfl
  have o5 : ∀ t, ev cf gl (.loc 5) (E t) = some (I (ds.length : Nat)) := fun _ => rfl
  have o6 : ∀ t, ev cf gl (.loc 6) (E t) = some (.str (sl t)) := fun _ => rfl
  have o7 : ∀ t, ev cf gl (.bin .add (.loc 5) (.loc 3)) (E t) = some (I ((ds.length : Nat) + q)) := fun _ => rfl
  have w7 : ∀ t, partD (evP cf gl (.yes (.bin .add (.loc 5) (.loc 3)))) (E t) = some (some ((ds.length : Nat) + q)) := fun _ => rfl
  have st : ∀ t t', asgT (.nm 6) (.str (sl t')) (E t) = some (E t') := fun _ _ => rfl
  let rs : List Nat := pointL (if 1 < ds.length then some (ds.drop 1) else none)
  have lrs : rs.length ≤ 401 := by
    show (pointL _).length ≤ _
    split
    · simp [pointL]
      omega
    · simp [pointL]
  let t0 : List Nat := textL (ds.take 1) (if 1 < ds.length then some (ds.drop 1) else none) (some ((ds.length : Int) + q - 1))
  let t1 : List Nat := textL (ds ++ List.replicate q.toNat 0) none none
  let t2 : List Nat := textL (ds.take ((ds.length : Int) + q).toNat) (some (ds.drop ((ds.length : Int) + q).toNat)) none
  let t3 : List Nat := textL [0] (some (List.replicate (-(ds.length : Int) - q).toNat 0 ++ ds)) none
  have hh : exs cf gl wn b143 (startE 7 [I b, I s, I d, I q]) = some (.rt (.str (sl (sgnL s ++ spreadL ds q)))) := by
    refine exs_nx (E' := [.f (I b), .f (I s), .f (I d), .f (I q), .f (.str (sl (ds.map dig))), .u, .u]) ?_ ?_
    · generalize sl (ds.map dig) = t at *
      simp [startE, a1]
    refine exs_nx (E' := [.f (I b), .f (I s), .f (I d), .f (I q), .f (.str (sl (ds.map dig))), .f (I (ds.length : Nat)), .u]) ?_ ?_
    · generalize sl (ds.map dig) = t at *
      simp [le]
    refine exs_nx (E' := E [dig d0]) ?_ ?_
    · rw [frz_nil, ex1_asg, ev_sub, show ev cf gl (.loc 4) [.f (I b), .f (I s), .f (I d), .f (I q), .f (.str (sl (ds.map dig))), .f (I (ds.length : Nat)), .u] = some (.str (sl (ds.map dig))) from rfl, bind_s, ev_int, bind_s, sl_ix (by omega) (by rw [lm]; omega) (by omega)]
      have e9 : (ds.map dig)[Int.toNat 0]'(by rw [lm]; exact hp) = dig d0 := by
        simp [hds]
      rw [e9]
      rfl
    refine exs_nx (E' := E ([dig d0] ++ rs)) ?_ ?_
    · have tt : tev cf gl (.cmp .Gt (.loc 5) (.int 1)) (E [dig d0]) = some (decide (1 < ds.length)) := by
        rw [tev_cmp, o5, bind_s, ev_int, bind_s, gt_int]
        congr 1
        rw [Bool.eq_iff_iff, decide_eq_true_eq, decide_eq_true_eq]
        omega
      rw [frz_nil, ex1_ife, tt, bind_s]
      by_cases z : 1 < ds.length
      · rw [if_pos (by simpa using z)]
        refine exs_nx (E' := _) ?_ rfl
        rw [frz_nil, ex1_asg, ev_bin, ev_bin, o6, bind_s, ev_str, bind_s, s_point, add_sl (by simp), bind_s, slice1 (x := some 1) (y := none) (o4 _) rfl rfl (by omega), bind_s, cut_drop _ (by omega), add_sl (by rw [List.length_drop, lm]; simp; omega), bind_s, st, map_s]
        simp only [rs, if_pos z, pointL, List.map_drop, List.append_assoc]
        rfl
      · rw [if_neg (by simpa using z)]
        simp only [rs, if_neg z, pointL, List.append_nil]
        rfl
    refine exs_nx (E' := E t0) ?_ ?_
    · have p3 : ∀ t, ev cf gl (.bin .sub (.bin .add (.loc 5) (.loc 3)) (.int 1)) (E t) = some (I ((ds.length : Int) + q - 1)) := fun _ => rfl
      have bs : bfD .str [.int ((ds.length : Int) + q - 1)] = some (.str (sl (numI ((ds.length : Int) + q - 1)))) := by
        show (if ((ds.length : Int) + q - 1).natAbs.log2 < 1920 then some (D.str (toString ((ds.length : Int) + q - 1))) else none) = _
        rw [if_pos lg, num_str]
      rw [frz_nil, ex1_asg, ev_bin, ev_bin, o6, bind_s, ev_str, bind_s, s_mark, add_sl (by simp; omega), bind_s, ev_bf, evs_cons, p3, evs_nil, bind_s, map_s, bind_s, bs, bind_s, add_sl (by simp; omega), bind_s, st, map_s]
      have fe : [dig d0] ++ rs ++ [94] ++ numI ((ds.length : Int) + q - 1) = t0 := by
        simp only [t0]
        unfold textL
        simp only [rs, powL, hds, List.take, List.map_cons, List.map_nil, List.append_assoc]
        rfl
      rw [fe]
    have i1 : ∀ t, ex1 cf gl wn (.ife (.bool .And (.cons (.cmp .GtE (.loc 3) (.int 0)) (.cons (.cmp .LtE (.bin .add (.loc 5) (.loc 3)) (.int 21)) .nil))) (.cons [] (.asg (.nm 6) (.bin .add (.loc 4) (.bin .mul (.str ("0" : String)) (.loc 3)))) .nil) .nil) (E t) = some (.nx (E (if 0 ≤ q ∧ (ds.length : Int) + q ≤ 21 then t1 else t))) := fun t => by
      have tt : tev cf gl (.bool .And (.cons (.cmp .GtE (.loc 3) (.int 0)) (.cons (.cmp .LtE (.bin .add (.loc 5) (.loc 3)) (.int 21)) .nil))) (E t) = some (decide (0 ≤ q ∧ (ds.length : Int) + q ≤ 21)) := by
        rw [tev_and, tev_cmp, o3, bind_s, ev_int, bind_s, ge_int, bind_s, tev_one, tev_cmp, o7, bind_s, ev_int, bind_s, le_int]
        by_cases z : 0 ≤ q <;> simp [z]
      rw [ex1_ife, tt, bind_s]
      by_cases z : 0 ≤ q ∧ (ds.length : Int) + q ≤ 21
      · rw [if_pos (by simpa using z), if_pos z]
        refine exs_nx (E' := _) ?_ rfl
        rw [frz_nil, ex1_asg, ev_bin, o4, bind_s, ev_bin, ev_str, bind_s, o3, bind_s, s_zero, times_sl (by omega) (by omega), bind_s, add_sl (by rw [lm, List.length_replicate]; omega), bind_s, st, map_s]
        have fe : ds.map dig ++ List.replicate q.toNat 48 = t1 := by
          simp only [t1]
          unfold textL pointL powL
          rw [List.append_nil, List.append_nil, List.map_append, List.map_replicate]
          rfl
        rw [fe]
      · rw [if_neg (by simpa using z), if_neg z]
        rfl
    have i2 : ∀ t, ex1 cf gl wn (.ife (.bool .And (.cons (.cmp .Lt (.loc 3) (.int 0)) (.cons (.cmp .Gt (.bin .add (.loc 5) (.loc 3)) (.int 0)) .nil))) (.cons [] (.asg (.nm 6) (.bin .add (.bin .add (.sl (.loc 4) (.yes (.int 0)) (.yes (.bin .add (.loc 5) (.loc 3)))) (.str ("." : String))) (.sl (.loc 4) (.yes (.bin .add (.loc 5) (.loc 3))) .no))) .nil) .nil) (E t) = some (.nx (E (if q < 0 ∧ 0 < (ds.length : Int) + q then t2 else t))) := fun t => by
      have tt : tev cf gl (.bool .And (.cons (.cmp .Lt (.loc 3) (.int 0)) (.cons (.cmp .Gt (.bin .add (.loc 5) (.loc 3)) (.int 0)) .nil))) (E t) = some (decide (q < 0 ∧ 0 < (ds.length : Int) + q)) := by
        rw [tev_and, tev_cmp, o3, bind_s, ev_int, bind_s, lt_int, bind_s, tev_one, tev_cmp, o7, bind_s, ev_int, bind_s, gt_int]
        by_cases z : q < 0 <;> simp [z]
      rw [ex1_ife, tt, bind_s]
      by_cases z : q < 0 ∧ 0 < (ds.length : Int) + q
      · rw [if_pos (by simpa using z), if_pos z]
        refine exs_nx (E' := _) ?_ rfl
        rw [frz_nil, ex1_asg, ev_bin, ev_bin, slice1 (x := some 0) (y := some ((ds.length : Int) + q)) (o4 _) rfl (w7 _) (by omega), bind_s, ev_str, bind_s, s_point, cut_take _ (by omega), add_sl (by rw [List.length_take, lm, List.length_singleton]; omega), bind_s, slice1 (x := some ((ds.length : Int) + q)) (y := none) (o4 _) (w7 _) rfl (by omega), bind_s, cut_drop _ (by omega), add_sl (by rw [List.length_append, List.length_take, List.length_drop, lm, List.length_singleton]; omega), bind_s, st, map_s]
        have fe : (ds.map dig).take ((ds.length : Int) + q).toNat ++ [46] ++ (ds.map dig).drop ((ds.length : Int) + q).toNat = t2 := by
          show _ = (ds.take _).map dig ++ (46 :: (ds.drop _).map dig) ++ []
          rw [List.append_nil, List.map_take, List.map_drop, List.append_assoc]
          rfl
        rw [fe]
      · rw [if_neg (by simpa using z), if_neg z]
        rfl
    have i3 : ∀ t, ex1 cf gl wn (.ife (.bool .And (.cons (.cmp .LtE (.bin .add (.loc 5) (.loc 3)) (.int 0)) (.cons (.cmp .Gt (.bin .add (.loc 5) (.loc 3)) (.neg (.int 7))) .nil))) (.cons [] (.asg (.nm 6) (.bin .add (.bin .add (.str ("0." : String)) (.bin .mul (.str ("0" : String)) (.bin .sub (.bin .sub (.int 0) (.loc 5)) (.loc 3)))) (.loc 4))) .nil) .nil) (E t) = some (.nx (E (if -7 < (ds.length : Int) + q ∧ (ds.length : Int) + q ≤ 0 then t3 else t))) := fun t => by
      have tt : tev cf gl (.bool .And (.cons (.cmp .LtE (.bin .add (.loc 5) (.loc 3)) (.int 0)) (.cons (.cmp .Gt (.bin .add (.loc 5) (.loc 3)) (.neg (.int 7))) .nil))) (E t) = some (decide (-7 < (ds.length : Int) + q ∧ (ds.length : Int) + q ≤ 0)) := by
        rw [tev_and, tev_cmp, o7, bind_s, ev_int, bind_s, le_int, bind_s, tev_one, tev_cmp, o7, bind_s, ev_neg, ev_int, bind_s, neg_int, bind_s, gt_int]
        by_cases z : (ds.length : Int) + q ≤ 0 <;> simp [z]
      rw [ex1_ife, tt, bind_s]
      by_cases z : -7 < (ds.length : Int) + q ∧ (ds.length : Int) + q ≤ 0
      · rw [if_pos (by simpa using z), if_pos z]
        refine exs_nx (E' := _) ?_ rfl
        have o8 : ∀ t, ev cf gl (.bin .sub (.bin .sub (.int 0) (.loc 5)) (.loc 3)) (E t) = some (I (-(ds.length : Int) - q)) := fun t => by
          show some (I (0 - (ds.length : Int) - q)) = _
          rw [Int.zero_sub]
        rw [frz_nil, ex1_asg, ev_bin, ev_bin, ev_str, bind_s, ev_bin, ev_str, bind_s, o8, bind_s, s_zero, s_zp, times_sl (by omega) (by omega), bind_s, add_sl (by rw [List.length_replicate]; simp; omega), bind_s, o4, bind_s, add_sl (by rw [List.length_append, List.length_replicate, lm]; simp; omega), bind_s, st, map_s]
        have fe : [48, 46] ++ List.replicate (-(ds.length : Int) - q).toNat 48 ++ ds.map dig = t3 := by
          show _ = [0].map dig ++ (46 :: (List.replicate _ 0 ++ ds).map dig) ++ []
          rw [List.append_nil, List.map_append, List.map_replicate]
          rfl
        rw [fe]
      · rw [if_neg (by simpa using z), if_neg z]
        rfl
    refine exs_nx (i1 _) ?_
    refine exs_nx (i2 _) ?_
    refine exs_nx (i3 _) (exs_rt ?_)
    have fin : (if -7 < (ds.length : Int) + q ∧ (ds.length : Int) + q ≤ 0 then t3 else if q < 0 ∧ 0 < (ds.length : Int) + q then t2 else if 0 ≤ q ∧ (ds.length : Int) + q ≤ 21 then t1 else t0) = spreadL ds q := by
      unfold spreadL
      by_cases c1 : 0 ≤ q ∧ (ds.length : Int) + q ≤ 21
      · rw [if_neg (by omega), if_neg (by omega), if_pos c1, if_pos c1]
      · rw [if_neg c1, if_neg c1]
        by_cases c2 : q < 0 ∧ 0 < (ds.length : Int) + q
        · rw [if_neg (by omega), if_pos c2, if_pos c2]
        · rw [if_neg c2, if_neg c2]
    rw [fin]
    have ls : (sgnL s).length ≤ 1 := by
      unfold sgnL
      split <;> simp
    have lsp : (spreadL ds q).length ≤ 5000 := by
      unfold spreadL
      split
      · simp [textL, pointL, powL]
        omega
      · split
        · simp [textL, pointL, powL]
          omega
        · split
          · simp [textL, pointL, powL]
            omega
          · unfold textL
            have l1 := lrs
            simp only [rs] at l1
            rw [List.length_append, List.length_append, List.length_map, List.length_take]
            have l2 : (powL (some ((ds.length : Int) + q - 1))).length = (numI ((ds.length : Int) + q - 1)).length + 1 := by simp [powL]
            omega
    have ix : ixD (.lst [.str (Str.ofString ""), .str (Str.ofString "-")]) (.int s) = some (.str (sl (sgnL s))) := by
      rw [emp, s_minus]
      rcases hs with rfl | rfl <;> rfl
    rw [frz_nil, ex1_ret, ev_bin, ev_sub, ev_lis, evL_lst, evs_cons, evs_cons, ev_str, ev_str, evs_nil, bind_s, bind_s, map_s, map_s, bind_s, short_ok, if_pos (by simp), map_s, bind_s, o1, bind_s, ix, bind_s, o6, bind_s, add_sl (by omega), map_s]
  rw [hh]
  rfl
end
end Vp.U

end

section
set_option Elab.async false
set_option linter.all false
set_option autoImplicit false
set_option maxRecDepth 100000
set_option maxHeartbeats 0
/-! exact texts -/
namespace Vp.U
open Vp L2 PySem
theorem red_dvd (a : Int) {U : Int} (hU : 0 < U) : (red a U).2 ∣ U := by
  have hg : ((Nat.gcd a.natAbs U.natAbs : Nat) : Int) ∣ U := by
    have h := Int.ofNat_dvd.mpr (Nat.gcd_dvd_right a.natAbs U.natAbs)
    have e : ((U.natAbs : Nat) : Int) = U := by omega
    rwa [e] at h
  exact ⟨_, (Int.ediv_mul_cancel hg).symm⟩
theorem exact_ex {a U : Int} {b M n : Nat} (b2 : 2 ≤ b) (b16 : b ≤ 16) (a0 : 0 < a) (U0 : 0 < U) (hU : U ∣ (b : Int) ^ M) (ha : a.natAbs < 2 ^ n) :
    ∃ j d z : Nat, j ≤ M ∧ ((red a U).1 * (b : Int) ^ j) % (red a U).2 = 0 ∧ (∀ i, i < j → ¬ ((red a U).1 * (b : Int) ^ i) % (red a U).2 = 0) ∧ 0 < d ∧ (red a U).1 * (b : Int) ^ j = ((d * b ^ z : Nat) : Int) * (red a U).2 ∧ d % b ≠ 0 ∧ d * b ^ z < 2 ^ (n + (4 * M + 1)) ∧
      (d : Int) * (b : Int) ^ ((z : Int) - j).toNat * U = a * (b : Int) ^ (-((z : Int) - j)).toNat := by
  have u0 := red_pos (t := a) U0
  have t0 := red_top_pos U0 a0
  have re := red_eq (t := a) U0
  have dv := red_dvd a U0
  have hb := bpow_pos b2
  have tl : (red a U).1.natAbs < 2 ^ n := Nat.lt_of_le_of_lt (red_le (t := a) U0).2 ha
  generalize (red a U).1 = t at *
  generalize (red a U).2 = u at *
  have PM : (t * (b : Int) ^ M) % u = 0 := Int.emod_eq_zero_of_dvd (Int.dvd_trans (Int.dvd_trans dv hU) (Int.dvd_mul_left _ _))
  obtain ⟨j, jM, pj, pl⟩ := least (P := fun i => (t * (b : Int) ^ i) % u = 0) M PM
  have eD : t * (b : Int) ^ j / u * u = t * (b : Int) ^ j := Int.ediv_mul_cancel (Int.dvd_of_emod_eq_zero pj)
  have pos : 0 < t * (b : Int) ^ j := Int.mul_pos t0 (hb j)
  generalize hD : t * (b : Int) ^ j / u = D at *
  have D0 : 0 < D := by
    refine Classical.byContradiction fun hn => ?_
    have := Int.mul_nonneg (show 0 ≤ -D by omega) (Int.le_of_lt u0)
    rw [Int.neg_mul] at this
    omega
  have DL : D.toNat < 2 ^ (n + (4 * M + 1)) := by
    have h1 : (t * (b : Int) ^ j).natAbs < 2 ^ (n + (4 * j + 1)) := mul_lt tl (bpow_lt b16 j)
    have h2 : D ≤ D * u := by
      have := Int.mul_le_mul_of_nonneg_left (show 1 ≤ u by omega) (Int.le_of_lt D0)
      omega
    have h3 : (2 : Nat) ^ (n + (4 * j + 1)) ≤ 2 ^ (n + (4 * M + 1)) := pow_mono (by omega)
    omega
  obtain ⟨d, z, d0, ez, dz⟩ := strip_ex b2 D.toNat (by omega)
  have eDz : D = ((d * b ^ z : Nat) : Int) := by rw [← ez]; omega
  refine ⟨j, d, z, jM, pj, pl, d0, ?_, dz, by rw [← ez]; exact DL, ?_⟩
  · rw [← eDz]
    exact eD.symm
  · have e1 : (d : Int) * (b : Int) ^ z * U = a * (b : Int) ^ j := by
      have : (d : Int) * (b : Int) ^ z = D := by rw [eDz, Int.natCast_mul, cast_pow]
      rw [this]
      refine Int.eq_of_mul_eq_mul_right (by omega : u ≠ 0) ?_
      rw [Int.mul_assoc, Int.mul_comm U u, ← Int.mul_assoc, eD, Int.mul_assoc, Int.mul_comm _ U, ← Int.mul_assoc, re, Int.mul_assoc, Int.mul_comm u, ← Int.mul_assoc]
    by_cases c : j ≤ z
    · have e2 : ((z : Int) - j).toNat = z - j := by omega
      have e3 : (-((z : Int) - j)).toNat = 0 := by omega
      rw [e2, e3, Int.pow_zero, Int.mul_one]
      refine Int.eq_of_mul_eq_mul_right (show (b : Int) ^ j ≠ 0 by have := hb j; omega) ?_
      rw [← e1, Int.mul_assoc, Int.mul_comm U, ← Int.mul_assoc, Int.mul_assoc (d : Int), ← Int.pow_add, show z - j + j = z by omega]
    · have e2 : ((z : Int) - j).toNat = 0 := by omega
      have e3 : (-((z : Int) - j)).toNat = j - z := by omega
      rw [e2, e3, Int.pow_zero, Int.mul_one]
      refine Int.eq_of_mul_eq_mul_right (show (b : Int) ^ z ≠ 0 by have := hb z; omega) ?_
      rw [Int.mul_assoc a, ← Int.pow_add, show j - z + z = j by omega, ← e1, Int.mul_assoc, Int.mul_comm U, ← Int.mul_assoc]
theorem low_zero {F : Fm} (o : F.Ok) {T : Int} (T0 : 0 < T) : IsLow F 0 T 0 := by
  have lt := ltop_lt o
  have tp := top_pos o
  have sz := size_zero o
  refine ⟨Int.le_refl _, lt.1, by rw [sz, Int.zero_mul]; exact Int.le_refl _, .inr ?_⟩
  have := size_mono o (x := 0) (y := 1) (by omega) (by omega) (by omega)
  rw [sz] at this
  exact Int.mul_pos this T0
theorem rnd_zero {F : Fm} (o : F.Ok) {m : Str} {s T : Int} : rnd F m s 0 T 0 = 0 := by
  unfold rnd
  rw [if_neg]
  rintro ⟨h, _⟩
  rw [size_zero o, Int.zero_mul] at h
  exact h rfl
theorem roundQ_zero {F : Fm} (o : F.Ok) {m : Str} {q : Q4} (ha : q.a = 0) (hk : kindT q = ("number" : String)) : roundQ F m q = 0 := by
  unfold kindT at hk
  unfold roundQ
  by_cases h1 : 0 < q.e ∨ (0 < q.b ∧ 0 < q.c)
  · rw [if_pos h1] at hk
    simp at hk
  rw [if_neg h1] at hk ⊢
  by_cases h2 : 0 < q.b
  · rw [if_pos h2] at hk
    simp at hk
  rw [if_neg h2] at hk ⊢
  by_cases h3 : 0 < q.c
  · rw [if_pos h3] at hk
    simp at hk
  rw [if_neg h3, ha]
  show rnd F m (sgn 0) 0 (S F) (lowV F 0 (S F)) + sgn 0 * half F = 0
  rw [lowV_eq o (S_pos F) (low_zero o (S_pos F)), rnd_zero o]
  have : sgn 0 = 0 := rfl
  rw [this]
  omega
section
variable {tab : Nat → Option Fn} {gl : Nat → Option D} {wn k : Nat} {F : Fm}
theorem lexpanded {a U : Int} {b j D n : Nat} (A : Ag tab [126, 127, 129, 146]) (b2 : 2 ≤ b) (b16 : b ≤ 16) (U0 : 0 < U) (hU : U.natAbs < 2 ^ 400) (ha : a.natAbs < 2 ^ n) (hn : n + (4 * j + 1) ≤ 400) (hj : j ≤ 200)
    (pj : (red a U).1 * (b : Int) ^ j = (D : Int) * (red a U).2) (pl : ∀ i, i < j → ¬ ((red a U).1 * (b : Int) ^ i) % (red a U).2 = 0) :
    callN tab gl wn (k + 4) 146 [I b, fr (red a U)] = some (.tup [I D, I j]) := by
  have u0 := red_pos (t := a) U0
  have tl : (red a U).1.natAbs < 2 ^ n := Nat.lt_of_le_of_lt (red_le (t := a) U0).2 ha
  have ul : (red a U).2.natAbs < 2 ^ 400 := by
    have := (red_le (t := a) U0).1
    omega
  have rr : red (red a U).1 (red a U).2 = red a U := red_congr u0 U0 (red_eq U0)
  have start : fr (red a U) = fr (red ((red a U).1 * (b : Int) ^ 0) (red a U).2) := by
    rw [Int.pow_zero, Int.mul_one, rr]
  rw [start]
  clear start rr
  generalize (red a U).1 = t at *
  generalize (red a U).2 = u at *
  have tm : ∀ i, i < j → callN tab gl wn (k + 3) 129 [fr (red (t * (b : Int) ^ i) u), .tup [I b, I 1]] = some (fr (red (t * (b : Int) ^ (i + 1)) u)) := fun i hi => by
    have h1 : Sh 400 (red (t * (b : Int) ^ i) u) := Sh.red u0 (Nat.lt_of_lt_of_le (mul_lt tl (bpow_lt b16 i)) (pow_mono (by omega))) ul
    have h2 : Sh 6 ((b : Int), (1 : Int)) := ⟨Int.one_pos, by show ((b : Int)).natAbs < 2 ^ 6; have : (2 : Nat) ^ 6 = 64 := by decide
                                                              omega, by show (1 : Int).natAbs < 2 ^ 6; decide⟩
    have := (times (gl := gl) (wn := wn) (k := k) (A.sub (l' := [126, 127, 129]) (by decide)) h1 h2 (by omega)).1
    have et : timesF (red (t * (b : Int) ^ i) u) ((b : Int), 1) = red (t * (b : Int) ^ (i + 1)) u := by
      rw [red_int (b : Int), red_times u0 Int.one_pos, Int.mul_one, Int.mul_assoc, ← Int.pow_succ]
    rw [et] at this
    exact this
  have dn : ∀ i, i < j → 1 < (red (t * (b : Int) ^ i) u).2 := fun i hi => by
    have h1 := red_pos (t := t * (b : Int) ^ i) u0
    have h2 : ¬ (red (t * (b : Int) ^ i) u).2 = 1 := fun z => pl i hi ((red_den u0).mp z)
    omega
  have fin : red (t * (b : Int) ^ j) u = ((D : Int), 1) := by rw [pj, red_whole u0]
  rw [callN_eq (A.get (i := 146) (by decide)) rfl]
  generalize callN tab gl wn (k + 3) = cf at *
  obtain ⟨E', e1, c, i', rfl, i2⟩ := forF_inv (t := .nm 4) (b := exs cf gl wn b146_1) ((List.range 200).map fun i => .int (0 + (i : Nat)))
    (fun i E => ∃ (c : Cell) (i' : Nat), E = [.f (I b), .f (fr (red (t * (b : Int) ^ 0) u)), .f (I (i' : Nat)), .f (fr (red (t * (b : Int) ^ i') u)), c] ∧ i' = min i j)
    [.f (I b), .f (fr (red (t * (b : Int) ^ 0) u)), .f (I 0), .f (fr (red (t * (b : Int) ^ 0) u)), .u] ⟨_, 0, rfl, by omega⟩ (by
      rintro i d E hd ⟨c, i', rfl, i2⟩
      generalize hv0 : fr (red (t * (b : Int) ^ 0) u) = v0
      by_cases hi : i' < j
      · have t1 := tm i' hi
        have t2 := dn i' hi
        refine ⟨[.f (I b), .f v0, .f (I (i' : Nat)), .f (fr (red (t * (b : Int) ^ i') u)), .f d], [.f (I b), .f v0, .f (I (i' + 1 : Nat)), .f (fr (red (t * (b : Int) ^ (i' + 1)) u)), .f d], rfl, .inl ?_, _, i' + 1, rfl, by omega⟩
        generalize hr1 : red (t * (b : Int) ^ (i' + 1)) u = r1 at *
        generalize hr0 : red (t * (b : Int) ^ i') u = r0 at *
        refine exs_nx (E' := _) ?_ rfl
        have tt : tev cf gl (.cmp .Gt (.sub (.loc 3) (.int 1)) (.int 1)) [.f (I b), .f v0, .f (I (i' : Nat)), .f (fr r0), .f d] = some true := by
          simp [t2]
        rw [frz_nil, ex1_ife, tt, bind_s, if_pos rfl]
        refine exs_nx (E' := [.f (I b), .f v0, .f (I (i' : Nat)), .f (fr r1), .f d]) (by simp [t1]) ?_
        refine exs_nx (E' := _) ?_ rfl
        simp
      · have hij : i' = j := by omega
        refine ⟨[.f (I b), .f v0, .f (I (i' : Nat)), .f (fr (red (t * (b : Int) ^ i') u)), .f d], [.f (I b), .f v0, .f (I (i' : Nat)), .f (fr (red (t * (b : Int) ^ i') u)), .f d], rfl, .inl ?_, _, i', rfl, by omega⟩
        subst hij
        rw [fin]
        refine exs_nx (E' := _) ?_ rfl
        have tt : tev cf gl (.cmp .Gt (.sub (.loc 3) (.int 1)) (.int 1)) [.f (I b), .f v0, .f (I (i' : Nat)), .f (fr ((D : Int), 1)), .f d] = some false := by
          simp
        rw [frz_nil, ex1_ife, tt, bind_s, if_neg (by decide)]
        rfl)
  have hi' : i' = j := by
    simp at i2
    omega
  subst hi'
  rw [fin] at e1
  generalize hv0 : fr (red (t * (b : Int) ^ 0) u) = v0 at *
  have hh : exs cf gl wn b146 (startE 5 [I b, v0]) = some (.rt (.tup [I D, I (i' : Nat)])) := by
    refine exs_nx (E' := [.f (I b), .f v0, .f (I 0), .u, .u]) (by simp [startE]) ?_
    refine exs_nx (E' := [.f (I b), .f v0, .f (I 0), .f v0, .u]) (by simp) ?_
    refine exs_nx (E' := [.f (I b), .f v0, .f (I (i' : Nat)), .f (fr ((D : Int), 1)), c]) ?_ (exs_rt ?_)
    · rw [frz_nil, ex1_for]
      exact e1
    · simp
  rw [hh]
  rfl
end
end Vp.U

end

section
set_option Elab.async false
set_option linter.all false
set_option autoImplicit false
set_option maxRecDepth 100000
set_option maxHeartbeats 0
/-! exact texts of totals and what they are read as -/
namespace Vp.U
open Vp L2 PySem
theorem nan_ne1 : (Str.ofString "nan" == Str.ofString "inf") = false := by decide +kernel
theorem nan_ne2 : (Str.ofString "nan" == Str.ofString "+inf") = false := by decide +kernel
theorem nan_ne3 : (Str.ofString "nan" == Str.ofString "-inf") = false := by decide +kernel
theorem minf_ne1 : (Str.ofString "-inf" == Str.ofString "inf") = false := by decide +kernel
theorem minf_ne2 : (Str.ofString "-inf" == Str.ofString "+inf") = false := by decide +kernel
theorem look_nan : words.lookup (Str.ofString "nan") = some (.tup [.str ("none" : String)]) := by
  unfold words
  simp only [List.lookup, nan_ne1, nan_ne2, nan_ne3, beq_self_eq_true]
theorem look_inf : words.lookup (Str.ofString "inf") = some (.tup [.str ("endless" : String), .int 0]) := by
  unfold words
  simp only [List.lookup, beq_self_eq_true]
theorem look_minf : words.lookup (Str.ofString "-inf") = some (.tup [.str ("endless" : String), .int 1]) := by
  unfold words
  simp only [List.lookup, minf_ne1, minf_ne2, beq_self_eq_true]
def infS (s : Int) : Str := if s = 1 then ("-inf" : String) else ("inf" : String)
section
variable {tab : Nat → Option Fn} {gl : Nat → Option D} {wn k : Nat} {F : Fm}
theorem split_word {b : Int} {z : Str} {d : D} (A : Ag tab [31]) (g32 : gl 32 = some (dicOf words)) (h : words.lookup z = some d) : callN tab gl wn (k + 1) 31 [I b, .str z] = some d := by
  rw [callN_eq (A.get (i := 31) (by decide)) rfl]
  generalize callN tab gl wn k = cf at *
  have gin : ginG (dicOf words) (.str z) = some (.bl true) := by
    have e : ginG (dicOf words) (.str z) = ginD (textK (words.map fun e => ((.inr e.1 : Key), e.2))) (.str z) := rfl
    rw [e, textK_dicOf]
    have e2 : ginD words (.str z) = some (.bl (words.lookup z).isSome) := rfl
    rw [e2, h]
    rfl
  have gix : gixG (dicOf words) (.str z) = some d := by
    have e : gixG (dicOf words) (.str z) = gixD (textK (words.map fun e => ((.inr e.1 : Key), e.2))) (.str z) := rfl
    rw [e, textK_dicOf]
    exact h
  have hh : exs cf gl wn b31 (startE 11 [I b, .str z]) = some (.rt d) := by
    refine exs_rt ?_
    have t : tev cf gl (.gin 32 (.loc 1)) (startE 11 [I b, .str z]) = some true := by
      rw [tev_gin, ev_gin, show ev cf gl (.loc 1) (startE 11 [I b, .str z]) = some (.str z) from rfl, bind_s, g32, bind_s, gin, bind_s, toB_bl]
    rw [frz_nil, ex1_ife, t, bind_s, if_pos rfl]
    refine exs_rt ?_
    rw [frz_nil, ex1_ret, ev_gix, show ev cf gl (.loc 1) (startE 11 [I b, .str z]) = some (.str z) from rfl, bind_s, g32, bind_s, gix]
    rfl
  rw [hh]
  rfl
theorem read_nan {b : Int} {m : Str} (A : Ag tab readTab) (W : 64 ≤ wn) (o : F.Ok) (hf : F.full = false) (hp : 1 ≤ F.p) (g32 : gl 32 = some (dicOf words)) :
    callN tab gl wn (k + 5) 61 [F.d, I b, .str m, .str (Str.ofString "nan")] = some (I (topE F * two F.p + two (F.p - 1))) := by
  have a1 := split_word (gl := gl) (wn := wn) (k := k + 3) (b := b) (A.sub (l' := [31]) (by decide)) g32 look_nan
  have a2 := pno_number (gl := gl) (k := k) (F := F) (A.sub (l' := [9, 13, 15, 21]) (by decide)) W o hp
  have kf := kd_full (F := F)
  rw [hf] at kf
  have a3 : callN tab gl wn (k + 4) 59 [F.d, .tup [.str ("none" : String)]] = some (I (topE F * two F.p + two (F.p - 1))) := by
    rw [callN_eq (A.get (i := 59) (by decide)) rfl]
    generalize callN tab gl wn (k + 3) = cf at *
    have i0 : ixD F.d (.int 0) = some (.str F.kd) := rfl
    have i1 : atI [D.str (Str.ofString "none")] 0 = some (.str (Str.ofString "none")) := rfl
    simp [b59, exs_cons, seqF_def, startE, a2, i0, i1, kf]
  rw [callN_eq (A.get (i := 61) (by decide)) rfl]
  change callN tab gl wn (k + 4) _ _ = _ at a1
  generalize callN tab gl wn (k + 4) = cf at *
  have i1 : atI [D.str (Str.ofString "none")] 0 = some (.str (Str.ofString "none")) := rfl
  generalize Str.ofString "nan" = z at *
  simp [b61, exs_cons, seqF_def, startE, a1, a3, i1]
theorem read_inf {b s : Int} {m : Str} (A : Ag tab readTab) (W : 64 ≤ wn) (o : F.Ok) (hf : F.full = false) (hs : s = 0 ∨ s = 1) (g32 : gl 32 = some (dicOf words)) :
    callN tab gl wn (k + 5) 61 [F.d, I b, .str m, .str (infS s)] = some (I (s * half F + topE F * two F.p)) := by
  have lk : words.lookup (infS s) = some (.tup [.str ("endless" : String), .int s]) := by
    unfold infS
    rcases hs with rfl | rfl
    · exact look_inf
    · exact look_minf
  have a1 := split_word (gl := gl) (wn := wn) (k := k + 3) (b := b) (A.sub (l' := [31]) (by decide)) g32 lk
  have a2 := pendless (gl := gl) (k := k) (F := F) (s := s) (A.sub (l' := [9, 13, 15, 20]) (by decide)) W o (by omega) (by omega)
  have ki := kd_ieee (F := F)
  rw [hf] at ki
  have ki' : F.kd = Str.ofString "ieee" := by simpa using ki
  have a3 : callN tab gl wn (k + 4) 59 [F.d, .tup [.str ("endless" : String), I s]] = some (I (s * half F + topE F * two F.p)) := by
    rw [callN_eq (A.get (i := 59) (by decide)) rfl]
    generalize callN tab gl wn (k + 3) = cf at *
    have i0 : ixD F.d (.int 0) = some (.str F.kd) := rfl
    have i1 : atI [D.str (Str.ofString "endless"), I s] 0 = some (.str (Str.ofString "endless")) := rfl
    have i2 : atI [D.str (Str.ofString "endless"), I s] 1 = some (I s) := rfl
    simp [b59, exs_cons, seqF_def, startE, a2, i0, i1, i2, ki']
  rw [callN_eq (A.get (i := 61) (by decide)) rfl]
  change callN tab gl wn (k + 4) _ _ = _ at a1
  generalize callN tab gl wn (k + 4) = cf at *
  have i1 : atI [D.str (Str.ofString "endless"), I s] 0 = some (.str (Str.ofString "endless")) := rfl
  generalize infS s = z at *
  simp [b61, exs_cons, seqF_def, startE, a1, a3, i1]
theorem read_zero {b : Nat} {s : Int} {m : Str} (A : Ag tab readTab) (W : 1000 ≤ wn) (W2 : wn ≤ 100000) (o : F.Mid) (G : Gt gl) (hm : isMode m) (b2 : 2 ≤ b) (b16 : b ≤ 16) (hs : s = 0 ∨ s = 1) :
    callN tab gl wn (k + 9) 61 [F.d, I b, .str m, .str (sl (sgnL s ++ [48]))] = some (I (s * half F)) := by
  have t2 : TextOk b [0] none none := ⟨b2, b16, by simp, (fun d hd => by have := List.mem_singleton.mp hd; omega), by simp, (fun L h => by cases h), (fun L h => by cases h), (fun L h => by cases h), (fun j h => by cases h)⟩
  have a1 := split_text (gl := gl) (wn := wn) (k := k + 5) (s := s) (A.sub (l' := [23, 24, 25, 26, 29, 31]) (by decide)) G.g30 G.g27 G.g28 G.g32 G.g538 t2 hs
  have e1 : textL [0] none none = [48] := rfl
  have e2 : val b ([0] ++ (none : Option (List Nat)).getD []) = 0 := by simp [val]
  have e3 : (none : Option Int).getD 0 - ((((none : Option (List Nat)).getD []).length : Nat) : Int) = 0 := rfl
  rw [e1, e2, e3] at a1
  have hd0 : (digs b 0).length = 1 := by rw [digs_lt (by omega)]; rfl
  have a4 := digits_of (gl := gl) (wn := wn) (k := k + 6) (b := b) (n := 0) (A.sub (l' := [33]) (by decide)) G.g30 b2 b16 (by omega) W2
  have le := len_sl (l := (digs b 0).map dig) (by rw [List.length_map]; omega)
  have a5 : callN tab gl wn (k + 8) 60 [F.d, I b, I 0, I 0] = some (fr (red 0 1)) := by
    rw [← red_int, callN_eq (A.get (i := 60) (by decide)) rfl]
    change callN tab gl wn (k + 7) _ _ = _ at a4
    generalize callN tab gl wn (k + 7) = cf at *
    generalize sl ((digs b 0).map dig) = t at *
    have a4' : cf 33 [I b, I 0] = some (.str t) := a4
    have e : fr ((0 : Int), (1 : Int)) = .tup [I 0, I 1] := rfl
    rw [e]
    simp [b60, exs_cons, seqF_def, startE, a4', le]
  obtain ⟨x, hx, a3⟩ := rounded (gl := gl) (wn := wn) (k := k) (F := F) (m := m) (s := s) (a := 0) (b := 1) (A.sub (l' := roundTab) (by decide)) (by omega) o hm (by omega) (by omega) (Int.le_refl _) Int.one_pos (n := 5) (Sh.red Int.one_pos (by decide) (by decide)) (by omega)
  rw [Int.zero_mul] at hx a3
  have hx0 := hx.uniq o.ok Int.one_pos (low_zero o.ok Int.one_pos)
  rw [hx0, rnd_zero o.ok, Int.zero_add] at a3
  have i0 : ∀ a b c e : D, atI [a, b, c, e] 0 = some a := fun _ _ _ _ => rfl
  rw [callN_eq (A.get (i := 61) (by decide)) rfl]
  change callN tab gl wn (k + 8) _ _ = _ at a1
  generalize callN tab gl wn (k + 8) = cf at *
  generalize sl (sgnL s ++ [48]) = tx at *
  generalize fr (red 0 1) = tf at *
  have a1' : cf 31 [I b, .str tx] = some (.tup [.str ("number" : String), I s, I 0, I 0]) := a1
  simp [b61, exs_cons, seqF_def, startE, a1', a5, a3, asg4, i0]
theorem kind_dic {cf : Nat → List D → Option D} {E : Env'} : ev cf gl (.dic (.cons (.str ("none" : String)) (.str ("nan" : String)) (.cons (.str ("up" : String)) (.str ("inf" : String)) (.cons (.str ("down" : String)) (.str ("-inf" : String)) .nil)))) E = some (.dic [(.inr (Str.ofString "none"), .str (Str.ofString "nan")), (.inr (Str.ofString "up"), .str (Str.ofString "inf")), (.inr (Str.ofString "down"), .str (Str.ofString "-inf"))]) := by
  rw [ev_dic]
  have e : dicD (evKs cf gl (.cons (.str ("none" : String)) (.str ("nan" : String)) (.cons (.str ("up" : String)) (.str ("inf" : String)) (.cons (.str ("down" : String)) (.str ("-inf" : String)) .nil)))) (evVs cf gl (.cons (.str ("none" : String)) (.str ("nan" : String)) (.cons (.str ("up" : String)) (.str ("inf" : String)) (.cons (.str ("down" : String)) (.str ("-inf" : String)) .nil)))) E
    = some (.dic (mergeD [] [(.inr (Str.ofString "none"), .str (Str.ofString "nan")), (.inr (Str.ofString "up"), .str (Str.ofString "inf")), (.inr (Str.ofString "down"), .str (Str.ofString "-inf"))])) := rfl
  rw [e]
  simp [mergeD, putD]
/-- the exact text, by the program -/
theorem exact_word {q : Q4} {b : Int} (A : Ag tab [121, 124]) : (kindT q = ("none" : String) → callN tab gl wn (k + 2) 124 [F.d, I b, q.d] = some (.str (Str.ofString "nan"))) ∧
    (kindT q = ("up" : String) → callN tab gl wn (k + 2) 124 [F.d, I b, q.d] = some (.str (infS 0))) ∧ (kindT q = ("down" : String) → callN tab gl wn (k + 2) 124 [F.d, I b, q.d] = some (.str (infS 1))) := by
  have a1 := kind_of_total (gl := gl) (wn := wn) (k := k) (q := q) (A.sub (l' := [121]) (by decide))
  have main : ∀ w r : Str, kindT q = w → ¬ w = ("number" : String) → getK [(.inr (Str.ofString "none"), D.str (Str.ofString "nan")), (.inr (Str.ofString "up"), .str (Str.ofString "inf")), (.inr (Str.ofString "down"), .str (Str.ofString "-inf"))] (.inr w) = some (.str r) →
      callN tab gl wn (k + 2) 124 [F.d, I b, q.d] = some (.str r) := fun w r hk hn hg => by
    rw [callN_eq (A.get (i := 124) (by decide)) rfl]
    generalize callN tab gl wn (k + 1) = cf at *
    rw [hk] at a1
    have hh : exs cf gl wn b124 (startE 9 [F.d, I b, q.d]) = some (.rt (.str r)) := by
      refine exs_nx (E' := [.f F.d, .f (I b), .f q.d, .f (.str w), .u, .u, .u, .u, .u]) (by simp [startE, a1]) ?_
      refine exs_rt ?_
      have t : tev cf gl (.cmp .NotEq (.loc 3) (.str ("number" : String))) [.f F.d, .f (I b), .f q.d, .f (.str w), .u, .u, .u, .u, .u] = some true := by
        simp [hn]
      rw [frz_nil, ex1_ife, t, bind_s, if_pos rfl]
      refine exs_rt ?_
      rw [frz_nil, ex1_ret, ev_sub, kind_dic, bind_s, show ev cf gl (.loc 3) [.f F.d, .f (I b), .f q.d, .f (.str w), .u, .u, .u, .u, .u] = some (.str w) from rfl, bind_s, ix_dic, hg]
      rfl
    rw [hh]
    rfl
  refine ⟨fun h => main _ _ h (by simp) (by simp [getK]), fun h => main _ _ h (by simp) (by simp [getK, infS]), fun h => main _ _ h (by simp) (by simp [getK, infS])⟩
theorem exact_num {q : Q4} {b M n j d z : Nat} (A : Ag tab [2, 3, 6, 9, 11, 12, 33, 34, 37, 51, 110, 111, 121, 122, 124]) (W : 1000 ≤ wn) (W2 : wn ≤ 100000) (o : F.W8) (g30 : gl 30 = some (.str signsS)) (g35 : gl 35 = some (.int 21)) (g36 : gl 36 = some (.int (-7))) (g538 : gl 538 = some (.str (Str.ofString "^")))
    (b2 : 2 ≤ b) (b16 : b ≤ 16) (hk : kindT q = ("number" : String)) (ha0 : q.a ≠ 0) (ha : q.a.natAbs < 2 ^ n) (hn : n ≤ 600) (hj : j < 500)
    (pj : (red (q.a.natAbs : Nat) (S F * S F)).1 * (b : Int) ^ j = ((d * b ^ z : Nat) : Int) * (red (q.a.natAbs : Nat) (S F * S F)).2) (pl : ∀ i, i < j → ¬ ((red (q.a.natAbs : Nat) (S F * S F)).1 * (b : Int) ^ i) % (red (q.a.natAbs : Nat) (S F * S F)).2 = 0) (d0 : 0 < d) (dz : d % b ≠ 0) (dl : d * b ^ z < 2 ^ 800) :
    callN tab gl wn (k + 6) 124 [F.d, I b, q.d] = some (.str (sl (layL b (sgn q.a) d ((z : Int) - j)))) := by
  have SSp : 0 < S F * S F := Int.mul_pos (S_pos F) (S_pos F)
  have a1 := kind_of_total (gl := gl) (wn := wn) (k := k + 4) (q := q) (A.sub (l' := [121]) (by decide))
  have a2 := sign_and_size (gl := gl) (wn := wn) (k := k) (F := F) (A.sub (l' := [2, 3, 6, 9, 11, 12, 110, 111, 122]) (by decide)) (by omega) o ha (by omega)
  obtain ⟨zl, dl'⟩ := strip_lt b2 d0 dl
  have a3 := stripped (gl := gl) (wn := wn) (k := k + 4) (q := -(j : Int)) (A.sub (l' := [51]) (by decide)) b2 b16 dz (z := z) (by omega)
  have hl : (digs b d).length ≤ 800 := digs_len b2 (by omega) (Nat.lt_of_lt_of_le dl' (Nat.pow_le_pow_left b2 _))
  have s01 := sgn01 q.a
  have lsp : (spreadL (digs b d) (-(j : Int) + z)).length ≤ 5000 := by
    have lp : ∀ j : Int, j.natAbs < 1000000 → (powL (some j)).length ≤ 8 := fun j h => by
      have := numI_len h
      simp [powL]
      omega
    unfold spreadL
    split
    · simp [textL, pointL, powL]
      omega
    · split
      · simp [textL, pointL, powL]
        omega
      · split
        · simp [textL, pointL, powL]
          omega
        · unfold textL
          rw [List.length_append, List.length_append, List.length_map, List.length_take]
          have := lp (((digs b d).length : Int) + (-(j : Int) + z) - 1) (by omega)
          have : (pointL (if 1 < (digs b d).length then some ((digs b d).drop 1) else none)).length ≤ 801 := by
            split
            · simp [pointL]
              omega
            · simp [pointL]
          omega
  have a4 := layout (gl := gl) (wn := wn) (k := k + 3) (b := b) (d := d) (s := sgn q.a) (q := -(j : Int) + z) (A.sub (l' := [33, 34, 37]) (by decide)) g30 g35 g36 g538 b2 b16 (by omega) (by omega) W2 (by omega) (by omega) (by omega)
  have ez : -(j : Int) + z = (z : Int) - j := by omega
  rw [ez] at a3 a4
  have u0 := red_pos (t := (q.a.natAbs : Nat)) SSp
  have ul : (red (q.a.natAbs : Nat) (S F * S F)).2.natAbs < 2 ^ 360 := by
    have := (red_le (t := (q.a.natAbs : Nat)) SSp).1
    have := o.SS
    omega
  rw [callN_eq (A.get (i := 124) (by decide)) rfl]
  change callN tab gl wn (k + 5) _ _ = _ at a3
  generalize callN tab gl wn (k + 5) = cf at *
  generalize hr : red (q.a.natAbs : Nat) (S F * S F) = r at *
  generalize hdz : d * b ^ z = D at *
  rw [hk] at a1
  have hb : (0 : Int) < b := by omega
  have hh : exs cf gl wn b124 (startE 9 [F.d, I b, q.d]) = some (.rt (.str (sl (layL b (sgn q.a) d ((z : Int) - j))))) := by
    have i0 : ixD q.d (.int 0) = some (I q.a) := rfl
    refine exs_nx (E' := [.f F.d, .f (I b), .f q.d, .f (.str (Str.ofString "number")), .u, .u, .u, .u, .u]) (by simp [startE, a1]) ?_
    refine exs_nx (E' := [.f F.d, .f (I b), .f q.d, .f (.str (Str.ofString "number")), .u, .u, .u, .u, .u]) (by simp) ?_
    refine exs_nx (E' := [.f F.d, .f (I b), .f q.d, .f (.str (Str.ofString "number")), .u, .u, .u, .u, .u]) (by simp [i0, ha0]) ?_
    refine exs_nx (E' := [.f F.d, .f (I b), .f q.d, .f (.str (Str.ofString "number")), .u, .f (I (sgn q.a)), .f (I r.1), .u, .f (I r.2)]) ?_ ?_
    · rw [frz_nil, ex1_asg, ev_call, evs_cons, evs_cons, show ev cf gl (.loc 0) [.f F.d, .f (I b), .f q.d, .f (.str (Str.ofString "number")), .u, .u, .u, .u, .u] = some F.d from rfl, show ev cf gl (.loc 2) [.f F.d, .f (I b), .f q.d, .f (.str (Str.ofString "number")), .u, .u, .u, .u, .u] = some q.d from rfl, evs_nil, bind_s, bind_s, map_s, map_s, bind_s, a2, bind_s]
      rfl
    refine exs_nx (E' := [.f F.d, .f (I b), .f q.d, .f (.str (Str.ofString "number")), .f (I 0), .f (I (sgn q.a)), .f (I r.1), .u, .f (I r.2)]) (by simp) ?_
    have ct : ∀ x p : Int, tev cf gl (.cmp .NotEq (.bin .mod (.loc 6) (.loc 8)) (.int 0)) [.f F.d, .f (I b), .f q.d, .f (.str (Str.ofString "number")), .f (I p), .f (I (sgn q.a)), .f (I x), .u, .f (I r.2)] = some (!decide (x % r.2 = 0)) := fun x p => by
      rw [tev_cmp, ev_bin, show ev cf gl (.loc 6) [.f F.d, .f (I b), .f q.d, .f (.str (Str.ofString "number")), .f (I p), .f (I (sgn q.a)), .f (I x), .u, .f (I r.2)] = some (I x) from rfl, bind_s, show ev cf gl (.loc 8) [.f F.d, .f (I b), .f q.d, .f (.str (Str.ofString "number")), .f (I p), .f (I (sgn q.a)), .f (I x), .u, .f (I r.2)] = some (I r.2) from rfl, bind_s, mod_int, if_pos u0, bind_s, ev_int, bind_s, ne_int]
    obtain ⟨E', m', e1, ⟨i, i1, rfl⟩, e2⟩ := whileF_inv (c := tev cf gl (.cmp .NotEq (.bin .mod (.loc 6) (.loc 8)) (.int 0))) (b := exs cf gl wn b124_1)
      (fun m E => ∃ i, i + m = j ∧ E = [.f F.d, .f (I b), .f q.d, .f (.str (Str.ofString "number")), .f (I (-(i : Int))), .f (I (sgn q.a)), .f (I (r.1 * (b : Int) ^ i)), .u, .f (I r.2)]) (by
        rintro m E ⟨i, i1, rfl⟩
        cases m with
        | zero =>
          left
          have : i = j := by omega
          subst this
          rw [ct, pj, decide_eq_true (Int.mul_emod_left _ _)]
          rfl
        | succ m =>
          right
          refine ⟨[.f F.d, .f (I b), .f q.d, .f (.str (Str.ofString "number")), .f (I (-((i + 1 : Nat) : Int))), .f (I (sgn q.a)), .f (I (r.1 * (b : Int) ^ (i + 1))), .u, .f (I r.2)], m, by rw [ct, decide_eq_false (pl i (by omega))]; rfl, ?_, by omega, i + 1, by omega, rfl⟩
          have mo : mulOk (r.1 * (b : Int) ^ i) (b : Int) = true := mulOk_r (by omega) (by omega)
          rw [Int.pow_succ, ← Int.mul_assoc]
          generalize r.1 * (b : Int) ^ i = x at *
          refine exs_nx (E' := [.f F.d, .f (I b), .f q.d, .f (.str (Str.ofString "number")), .f (I (-(i : Int))), .f (I (sgn q.a)), .f (I (x * b)), .u, .f (I r.2)]) (by simp [mo]) ?_
          refine exs_nx (E' := _) ?_ rfl
          simp
          omega) wn j [.f F.d, .f (I b), .f q.d, .f (.str (Str.ofString "number")), .f (I (-((0 : Nat) : Int))), .f (I (sgn q.a)), .f (I (r.1 * (b : Int) ^ 0)), .u, .f (I r.2)] (by omega) ⟨0, by omega, rfl⟩
    have hi : i = j := by
      by_cases h : i < j
      · rw [ct, decide_eq_false (pl i h)] at e2
        cases e2
      · omega
    subst hi
    refine exs_nx (E' := [.f F.d, .f (I b), .f q.d, .f (.str (Str.ofString "number")), .f (I (-(i : Int))), .f (I (sgn q.a)), .f (I (r.1 * (b : Int) ^ i)), .u, .f (I r.2)]) ?_ ?_
    · rw [frz_nil, ex1_whl]
      have e : r.1 * (b : Int) ^ 0 = r.1 := by simp
      rw [e] at e1
      exact e1
    rw [pj]
    have dv : divOk r.2 = true := divOk_pow 360 u0 (Nat.lt_of_lt_of_le ul (pow_mono (by omega))) (by omega)
    have ed : ((D : Int) * r.2) / r.2 = D := Int.mul_ediv_cancel _ (by omega)
    refine exs_nx (E' := [.f F.d, .f (I b), .f q.d, .f (.str (Str.ofString "number")), .f (I ((z : Int) - i)), .f (I (sgn q.a)), .f (I ((D : Int) * r.2)), .f (I d), .f (I r.2)]) ?_ (exs_rt ?_)
    · generalize hX : (D : Int) * r.2 = X at *
      simp [dv, ed, a3]
    · generalize hX : (D : Int) * r.2 = X at *
      simp [a4]
  rw [hh]
  rfl
end
end Vp.U

end

section
set_option Elab.async false
set_option linter.all false
set_option autoImplicit false
set_option maxRecDepth 100000
set_option maxHeartbeats 0
/-! a total's text: program, law, read back -/
namespace Vp.U
open Vp L2 PySem
section
variable {tab : Nat → Option Fn} {gl : Nat → Option D} {wn k : Nat} {F : Fm}
abbrev textTab : List Nat := [126, 127, 129, 133, 134, 142, 143, 144, 146, 149, 154]
theorem ltext_nan {q : Q4} {b : Int} (A : Ag tab [154]) (h : 0 < q.e ∨ (0 < q.b ∧ 0 < q.c)) : callN tab gl wn (k + 1) 154 [F.d, I b, q.d] = some (.str (Str.ofString "nan")) := by
  rw [callN_eq (A.get (i := 154) (by decide)) rfl]
  generalize callN tab gl wn k = cf at *
  have h' : 0 < q.e ∨ ¬ 0 < q.e ∧ 0 < q.b ∧ 0 < q.c := by omega
  rcases h' with g | ⟨g, g', g''⟩
  · simp [b154, exs_cons, seqF_def, startE, Q4.d, asg4, g]
  · simp [b154, exs_cons, seqF_def, startE, Q4.d, asg4, g, g', g'']
theorem ltext_inf {q : Q4} {b : Int} (A : Ag tab [154]) (b0 : 0 ≤ q.b) (c0 : 0 ≤ q.c) (ge : ¬ 0 < q.e) (h : (0 < q.b ∧ ¬ 0 < q.c) ∨ (¬ 0 < q.b ∧ 0 < q.c)) : callN tab gl wn (k + 1) 154 [F.d, I b, q.d] = some (.str (infS (if 0 < q.c then 1 else 0))) := by
  rw [callN_eq (A.get (i := 154) (by decide)) rfl]
  generalize callN tab gl wn k = cf at *
  have gs : 0 < q.b + q.c := by omega
  have j0 : atI [D.str (Str.ofString "inf"), D.str (Str.ofString "-inf")] 0 = some (.str (Str.ofString "inf")) := rfl
  have j1 : atI [D.str (Str.ofString "inf"), D.str (Str.ofString "-inf")] 1 = some (.str (Str.ofString "-inf")) := rfl
  rcases h with ⟨g, g'⟩ | ⟨g, g'⟩
  · simp [b154, exs_cons, seqF_def, startE, Q4.d, asg4, ge, g, g', gs, j0, infS]
  · simp [b154, exs_cons, seqF_def, startE, Q4.d, asg4, ge, g, g', gs, j1, infS]
theorem ltext_zero {q : Q4} {b : Int} (A : Ag tab [154]) (ge : ¬ 0 < q.e) (gb : ¬ 0 < q.b) (gs : ¬ 0 < q.b + q.c) (ha : q.a = 0) : callN tab gl wn (k + 1) 154 [F.d, I b, q.d] = some (.str (sl [48])) := by
  rw [callN_eq (A.get (i := 154) (by decide)) rfl]
  generalize callN tab gl wn k = cf at *
  have gs' : ¬ 0 < q.b + q.c := gs
  simp [b154, exs_cons, seqF_def, startE, Q4.d, asg4, ge, gb, gs', ha, s_zero]
theorem ltext_num {q : Q4} {b j d z n : Nat} (A : Ag tab textTab) (o : F.Tny) (b2 : 2 ≤ b) (b16 : b ≤ 16) (ge : ¬ 0 < q.e) (gb : ¬ 0 < q.b) (gs : ¬ 0 < q.b + q.c) (ha0 : q.a ≠ 0) (ha : q.a.natAbs < 2 ^ n) (hn : n + (4 * j + 1) ≤ 390) (hn2 : n ≤ 40)
    (pj : (red (q.a.natAbs : Nat) (S F * S F)).1 * (b : Int) ^ j = ((d * b ^ z : Nat) : Int) * (red (q.a.natAbs : Nat) (S F * S F)).2) (pl : ∀ i, i < j → ¬ ((red (q.a.natAbs : Nat) (S F * S F)).1 * (b : Int) ^ i) % (red (q.a.natAbs : Nat) (S F * S F)).2 = 0) (d0 : 0 < d) (dz : d % b ≠ 0) (dl : d * b ^ z < 2 ^ 200) :
    callN tab gl wn (k + 5) 154 [F.d, I b, q.d] = some (.str (sl (layL b (sgn q.a) d ((z : Int) - j)))) := by
  have SSp : 0 < S F * S F := Int.mul_pos (S_pos F) (S_pos F)
  have SSl : (S F * S F).natAbs < 2 ^ 400 := Nat.lt_of_lt_of_le o.sml.w8.SS (pow_mono (by omega))
  have h1 : Sh (n + 1) (((q.a.natAbs : Nat) : Int), (1 : Int)) := by
    refine ⟨Int.one_pos, ?_, ?_⟩
    · show (((q.a.natAbs : Nat) : Int)).natAbs < _
      rw [Int.natAbs_natCast]
      exact Nat.lt_of_lt_of_le ha (pow_mono (by omega))
    · exact Nat.lt_of_lt_of_le (by decide : 1 < 2 ^ 1) (pow_mono (by omega))
  have h2 : Sh 360 (unitF F) := by
    rw [unitF_red o.sml.ok]
    refine Sh.red SSp ?_ o.sml.w8.SS
    exact Nat.lt_of_lt_of_le (by decide : 1 < 2 ^ 1) (pow_mono (by omega))
  have a4 := lunit (gl := gl) (wn := wn) (k := k + 1) (F := F) (A.sub (l' := [133, 134, 149]) (by decide)) o.sml.ok
  have a5 := (times (gl := gl) (wn := wn) (k := k + 1) (A.sub (l' := [126, 127, 129]) (by decide)) h1 h2 (by omega)).1
  rw [unitF_red o.sml.ok, red_int, red_times Int.one_pos SSp, Int.mul_one, Int.one_mul] at a5
  rw [unitF_red o.sml.ok] at a4
  rw [← red_int] at a5
  have e1 : fr (((q.a.natAbs : Nat) : Int), (1 : Int)) = .tup [I ((q.a.natAbs : Nat) : Int), I 1] := rfl
  rw [e1] at a5
  have a6 := lexpanded (gl := gl) (wn := wn) (k := k) (a := (q.a.natAbs : Nat)) (U := S F * S F) (b := b) (j := j) (D := d * b ^ z) (n := n) (A.sub (l' := [126, 127, 129, 146]) (by decide)) b2 b16 SSp SSl (by rw [Int.natAbs_natCast]; exact ha) (by omega) (by omega) pj pl
  obtain ⟨zl, dl'⟩ := strip_lt b2 d0 dl
  have a7 := lstripped (gl := gl) (wn := wn) (k := k + 3) (q := 0 - (j : Int)) (A.sub (l' := [144]) (by decide)) b2 b16 dz (z := z) (by omega)
  have hl : (digs b d).length ≤ 200 := digs_len b2 (by omega) (Nat.lt_of_lt_of_le dl' (Nat.pow_le_pow_left b2 _))
  have s01 := sgn01 q.a
  have ez : 0 - (j : Int) + z = (z : Int) - j := by omega
  rw [ez] at a7
  have a8 := llayout (gl := gl) (wn := wn) (k := k + 2) (b := b) (d := d) (s := sgn q.a) (q := (z : Int) - j) (A.sub (l' := [142, 143]) (by decide)) b2 b16 (by omega) (by omega) (by omega) (by omega)
  rw [callN_eq (A.get (i := 154) (by decide)) rfl]
  change callN tab gl wn (k + 4) _ _ = _ at a4
  change callN tab gl wn (k + 4) _ _ = _ at a5
  change callN tab gl wn (k + 4) _ _ = _ at a7
  change callN tab gl wn (k + 4) _ _ = _ at a8
  generalize callN tab gl wn (k + 4) = cf at *
  have ab := abs_nat q.a
  generalize hr : red (q.a.natAbs : Nat) (S F * S F) = r at *
  generalize red 1 (S F * S F) = r2 at *
  generalize d * b ^ z = D at *
  generalize sl (layL b (sgn q.a) d ((z : Int) - j)) = tx at *
  generalize ((q.a.natAbs : Nat) : Int) = na at *
  generalize ((z : Int) - j) = zj at *
  have gs' : ¬ 0 < q.b + q.c := gs
  have hsg : sgn q.a = if q.a < 0 then 1 else 0 := rfl
  rw [hsg] at a8
  have a7' : cf 144 [I b, I D, I (-(j : Int))] = some (.tup [I d, I zj]) := by
    rw [Int.zero_sub] at a7
    exact a7
  by_cases hq : q.a < 0
  · rw [if_pos hq] at ab a8
    simp [b154, exs_cons, seqF_def, startE, Q4.d, asg4, asg2, ge, gb, gs', ha0, hq, ab, a4, a5, a6, a7, a7', a8]
  · rw [if_neg hq] at ab a8
    have ha0' : ¬ na = 0 := by rw [← ab]; exact ha0
    have hq' : ¬ na < 0 := by rw [← ab]; exact hq
    simp [b154, exs_cons, seqF_def, startE, Q4.d, asg4, asg2, ge, gb, gs', ha0', hq', ab, a4, a5, a6, a7, a7', a8]
theorem Tny_U {F : Fm} (o : F.Tny) {b c : Nat} (hb : b = 2 * c) : (S F * S F) ∣ (b : Int) ^ 24 := by
  have l : -11 ≤ low F := by
    have b1 : bias F ≤ 7 := by
      unfold bias
      have h2 : two (F.w - 1) ≤ two 3 := two_le (by have := o.w4; omega)
      have e2 : two 3 = 8 := rfl
      omega
    have := o.p5
    unfold low
    omega
  have e : S F * S F = 2 ^ ((-low F).toNat + (-low F).toNat) := by
    unfold S two
    rw [← Int.pow_add]
  rw [e, hb]
  have e2 : (((2 * c : Nat) : Int)) ^ 24 = 2 ^ 24 * (c : Int) ^ 24 := by rw [Int.natCast_mul, Int.mul_pow]; rfl
  rw [e2]
  refine Int.dvd_trans ?_ (Int.dvd_mul_right _ _)
  refine ⟨(2 : Int) ^ (24 - ((-low F).toNat + (-low F).toNat)), ?_⟩
  rw [← Int.pow_add]
  congr 1
  omega
abbrev exactTab : List Nat := 16 :: 37 :: 34 :: 51 :: 110 :: 111 :: 121 :: 122 :: 124 :: readTab
theorem texts {q : Q4} {σ : Int} {b c : Nat} (AP : Ag tab exactTab) (AL : Ag tab textTab) (W : 1000 ≤ wn) (W2 : wn ≤ 100000) (o : F.Tny) (hp : 1 ≤ F.p) (G : Gt gl) (g35 : gl 35 = some (.int 21)) (g36 : gl 36 = some (.int (-7))) (b2 : 2 ≤ b) (b16 : b ≤ 16) (hb : b = 2 * c)
    (hg : q.Good F) (hs : q.a = σ * S F) (ha : q.a.natAbs < 2 ^ 40) :
    ∃ txt : Str, callN tab gl wn (k + 9) 124 [F.d, I b, q.d] = some (.str txt) ∧ callN tab gl wn (k + 9) 154 [F.d, I b, q.d] = some (.str txt) ∧ ∀ m, isMode m → callN tab gl wn (k + 9) 61 [F.d, I b, .str m, .str txt] = some (I (roundQ F m q)) := by
  have ok := o.sml.ok
  have ff : 0 < q.e ∨ 0 < q.b ∨ 0 < q.c → F.full = false := fun h => by
    cases z : F.full with
    | false => rfl
    | true =>
      have := hg.fu z
      omega
  have b0 := hg.b0
  have c0 := hg.c0
  by_cases h1 : 0 < q.e ∨ (0 < q.b ∧ 0 < q.c)
  · have hk : kindT q = ("none" : String) := by
      unfold kindT
      rw [if_pos h1]
    refine ⟨Str.ofString "nan", (exact_word (k := k + 7) (AP.sub (by decide))).1 hk, ltext_nan (k := k + 8) (AL.sub (by decide)) h1, fun m hm => ?_⟩
    unfold roundQ
    rw [if_pos h1]
    exact read_nan (k := k + 4) (AP.sub (by decide)) (by omega) ok (ff (by omega)) hp G.g32
  have ge : ¬ 0 < q.e := fun z => h1 (.inl z)
  by_cases h2 : 0 < q.b
  · have hc : ¬ 0 < q.c := fun z => h1 (.inr ⟨h2, z⟩)
    have hk : kindT q = ("up" : String) := by
      unfold kindT
      rw [if_neg h1, if_pos h2]
    have lt := ltext_inf (gl := gl) (wn := wn) (k := k + 8) (F := F) (q := q) (b := b) (AL.sub (by decide)) b0 c0 ge (.inl ⟨h2, hc⟩)
    rw [if_neg hc] at lt
    refine ⟨infS 0, (exact_word (k := k + 7) (AP.sub (by decide))).2.1 hk, lt, fun m hm => ?_⟩
    unfold roundQ
    rw [if_neg h1, if_pos h2]
    have := read_inf (gl := gl) (wn := wn) (k := k + 4) (F := F) (b := b) (s := 0) (m := m) (AP.sub (by decide)) (by omega) ok (ff (by omega)) (.inl rfl) G.g32
    rw [Int.zero_mul, Int.zero_add] at this
    exact this
  by_cases h3 : 0 < q.c
  · have hk : kindT q = ("down" : String) := by
      unfold kindT
      rw [if_neg h1, if_neg h2, if_pos h3]
    have lt := ltext_inf (gl := gl) (wn := wn) (k := k + 8) (F := F) (q := q) (b := b) (AL.sub (by decide)) b0 c0 ge (.inr ⟨h2, h3⟩)
    rw [if_pos h3] at lt
    refine ⟨infS 1, (exact_word (k := k + 7) (AP.sub (by decide))).2.2 hk, lt, fun m hm => ?_⟩
    unfold roundQ
    rw [if_neg h1, if_neg h2, if_pos h3]
    have := read_inf (gl := gl) (wn := wn) (k := k + 4) (F := F) (b := b) (s := 1) (m := m) (AP.sub (by decide)) (by omega) ok (ff (by omega)) (.inr rfl) G.g32
    rw [Int.one_mul] at this
    exact this
  have gs : ¬ 0 < q.b + q.c := by omega
  have hk : kindT q = ("number" : String) := by
    unfold kindT
    rw [if_neg h1, if_neg h2, if_neg h3]
  by_cases h4 : q.a = 0
  · refine ⟨sl [48], ?_, ltext_zero (k := k + 8) (AL.sub (by decide)) ge h2 gs h4, fun m hm => ?_⟩
    · have a1 := kind_of_total (gl := gl) (wn := wn) (k := k + 7) (q := q) (AP.sub (l' := [121]) (by decide))
      rw [hk] at a1
      rw [callN_eq (AP.get (i := 124) (by decide)) rfl]
      generalize callN tab gl wn (k + 8) = cf at *
      have i0 : ixD q.d (.int 0) = some (I q.a) := rfl
      simp [b124, exs_cons, seqF_def, startE, a1, i0, h4, s_zero]
    · rw [roundQ_zero ok h4 hk]
      have := read_zero (gl := gl) (wn := wn) (k := k) (F := F) (b := b) (s := 0) (m := m) (AP.sub (by decide)) W W2 o.sml.mid G hm b2 b16 (.inl rfl)
      rw [Int.zero_mul] at this
      exact this
  · have Sp := S_pos F
    have SSp : 0 < S F * S F := Int.mul_pos Sp Sp
    have a0 : (0 : Int) < (q.a.natAbs : Nat) := by omega
    obtain ⟨j, d, z, j1, j2, j3, d0, j4, j5, j6, j7⟩ := exact_ex (a := (q.a.natAbs : Nat)) (U := S F * S F) (n := 40) b2 b16 a0 SSp (Tny_U o hb) (by rw [Int.natAbs_natCast]; exact ha)
    have j6' : d * b ^ z < 2 ^ 200 := Nat.lt_of_lt_of_le j6 (pow_mono (by omega))
    obtain ⟨zl, dl⟩ := strip_lt b2 d0 j6'
    have s01 := sgn01 q.a
    refine ⟨sl (layL b (sgn q.a) d ((z : Int) - j)), ?_, ?_, fun m hm => ?_⟩
    · exact exact_num (k := k + 3) (M := 24) (n := 40) (AP.sub (by decide)) W W2 o.sml.w8 G.g30 g35 g36 G.g538 b2 b16 hk h4 ha (by omega) (by omega) j4 j3 d0 j5 (Nat.lt_of_lt_of_le j6' (pow_mono (by omega)))
    · exact ltext_num (k := k + 4) (n := 40) AL o b2 b16 ge h2 gs h4 ha (by omega) (by omega) j4 j3 d0 j5 j6'
    · have hσ : ((q.a.natAbs : Nat) : Int) = (σ.natAbs : Nat) * S F := by
        rw [hs]
        exact abs_mul Sp
      have hlow : S F * S F ≤ ((q.a.natAbs : Nat) : Int) * S F := by
        refine Int.mul_le_mul_of_nonneg_right ?_ (Int.le_of_lt Sp)
        rw [hσ]
        have h5 : (1 : Int) ≤ (σ.natAbs : Nat) := by
          rcases Nat.eq_zero_or_pos σ.natAbs with w | w
          · rw [w] at hσ
            simp at hσ
            omega
          · omega
        have := Int.mul_le_mul_of_nonneg_right h5 (Int.le_of_lt Sp)
        omega
      have r := read_lay (gl := gl) (wn := wn) (k := k) (F := F) (m := m) (b := b) (d := d) (s := sgn q.a) (q := (z : Int) - j) (a := (q.a.natAbs : Nat)) (c := S F * S F) (AP.sub (by decide)) W W2 o.sml.w8 G hm b2 b16 (by omega) d0 (Nat.lt_of_lt_of_le dl (pow_mono (by omega))) (by omega) a0 SSp j7 hlow ((o.sml.w8.sh (n := 40) ha).mono (by omega))
      rw [rnd_scale Sp, lowV_scale ok (by omega) Sp Sp] at r
      unfold roundQ
      rw [if_neg h1, if_neg h2, if_neg h3]
      exact r
theorem llist_total {xs : List Int} (A : Ag tab [126, 127, 129, 130, 133, 134, 135, 136, 137, 138, 147, 148, 149, 150, 151, 152]) (o : F.Sml) (h : ∀ x ∈ xs, Pt F x) : callN tab gl wn (k + 7) 152 [F.d, .lst (xs.map .int)] = some (sumQ (xs.map (totalQ F))).d := by
  have a1 : ∀ x ∈ xs, callN tab gl wn (k + 6) 150 [F.d, I x] = some (totalQ F x).d := fun x hx => ltotal (k := k) (A.sub (by decide)) o (h x hx)
  have a2 : ∀ q r : Q4, callN tab gl wn (k + 6) 151 [q.d, r.d] = some (q.add r).d := fun q r => ltogether (k := k + 5) (A.sub (by decide))
  rw [callN_eq (A.get (i := 152) (by decide)) rfl]
  generalize callN tab gl wn (k + 6) = cf at *
  obtain ⟨E', e1, c, rfl⟩ := forF_inv (t := .nm 3) (b := exs cf gl wn b152_1) (xs.map .int) (fun i E => ∃ c, E = [.f F.d, .f (.lst (xs.map .int)), .f (sumQ ((xs.take i).map (totalQ F))).d, c]) [.f F.d, .f (.lst (xs.map .int)), .f q0.d, .u] ⟨_, rfl⟩ (by
    rintro i d E hd ⟨c, rfl⟩
    rw [List.getElem?_map] at hd
    obtain ⟨x, hx, rfl⟩ := Option.map_eq_some_iff.mp hd
    have b1 := a1 x (List.mem_of_getElem? hx)
    have b2 := a2 (sumQ ((xs.take i).map (totalQ F))) (totalQ F x)
    rw [← sumQ_snoc] at b2
    have e2 : (xs.take i).map (totalQ F) ++ [totalQ F x] = (xs.take (i + 1)).map (totalQ F) := by
      rw [List.take_add_one, hx, List.map_append]
      rfl
    rw [e2] at b2
    refine ⟨_, [.f F.d, .f (.lst (xs.map .int)), .f (sumQ ((xs.take (i + 1)).map (totalQ F))).d, .f (I x)], rfl, .inl ?_, _, rfl⟩
    generalize (sumQ ((xs.take i).map (totalQ F))) = qi at *
    generalize (sumQ ((xs.take (i + 1)).map (totalQ F))) = qj at *
    generalize totalQ F x = tq at *
    generalize xs.map D.int = xx at *
    simp [b152_1, exs_cons, seqF_def, b1, b2])
  rw [List.length_map, List.take_length] at e1
  have e3 : exs cf gl wn b152 (startE 4 [F.d, .lst (xs.map .int)]) = some (.rt (sumQ (xs.map (totalQ F))).d) := by
    refine exs_nx (E' := [.f F.d, .f (.lst (xs.map .int)), .f q0.d, .u]) (by simp [startE, q0, Q4.d]) ?_
    refine exs_nx (E' := _) (by rw [frz_nil, ex1_for]; exact e1) (exs_rt rfl)
  rw [e3]
  rfl
end
theorem sumQ_perm {xs ys : List Q4} (h : xs.Perm ys) : sumQ xs = sumQ ys := by
  induction h with
  | nil => rfl
  | cons x _ ih => rw [sumQ_cons, sumQ_cons, ih]
  | swap x y l => rw [sumQ_cons, sumQ_cons, sumQ_cons, sumQ_cons, add_acc]
  | trans _ _ i1 i2 => exact i1.trans i2
theorem sumQ_app (xs ys : List Q4) : sumQ (xs ++ ys) = (sumQ xs).add (sumQ ys) := by
  induction xs with
  | nil =>
    show sumQ ys = q0.add (sumQ ys)
    unfold Q4.add q0
    simp
  | cons x r ih => rw [List.cons_append, sumQ_cons, sumQ_cons, ih, add_acc]
end Vp.U

end

section
set_option Elab.async false
set_option linter.all false
set_option autoImplicit false
set_option maxRecDepth 100000
set_option maxHeartbeats 0
/-! the defs of the law's linked text as trees -/
namespace Law92
open Vp
/-- fraction -/
def b2 : Sms := Vp.U.b2
def e2 : Entry := ⟨2, 6, ["top", "bottom", "common"], ⟨2, 3, b2⟩⟩
/-- whole -/
def b3 : Sms := Vp.U.b3
def e3 : Entry := ⟨3, 7, ["number"], ⟨1, 1, b3⟩⟩
/-- minus -/
def b5 : Sms := Vp.U.b5
def e5 : Entry := ⟨5, 8, ["one", "other"], ⟨2, 2, b5⟩⟩
/-- times -/
def b6 : Sms := Vp.U.b6
def e6 : Entry := ⟨6, 9, ["one", "other"], ⟨2, 2, b6⟩⟩
/-- over -/
def b7 : Sms := Vp.U.b7
def e7 : Entry := ⟨7, 10, ["one", "other"], ⟨2, 2, b7⟩⟩
/-- is_less -/
def b8 : Sms := Vp.U.b8
def e8 : Entry := ⟨8, 11, ["one", "other"], ⟨2, 2, b8⟩⟩
/-- raised -/
def b9 : Sms := Vp.Sh.b9
def e9 : Entry := ⟨9, 12, ["base", "k", "found"], ⟨2, 3, b9⟩⟩
/-- floor_of -/
def b10 : Sms := Vp.U.b10
def e10 : Entry := ⟨10, 13, ["value"], ⟨1, 1, b10⟩⟩
/-- power -/
def b11 : Sms := Vp.U.b11
def e11 : Entry := ⟨11, 14, ["base", "k"], ⟨2, 2, b11⟩⟩
/-- bias_of -/
def b12 : Sms := Vp.U.b12
def e12 : Entry := ⟨12, 16, ["form"], ⟨1, 1, b12⟩⟩
/-- top_exponent -/
def b13 : Sms := Vp.U.b13
def e13 : Entry := ⟨13, 17, ["form"], ⟨1, 1, b13⟩⟩
/-- parts_of -/
def b14 : Sms := Vp.U.b14
def e14 : Entry := ⟨14, 18, ["form", "pattern", "rest", "above", "_", "w", "p"], ⟨2, 7, b14⟩⟩
/-- pattern_of -/
def b15 : Sms := Vp.U.b15
def e15 : Entry := ⟨15, 19, ["form", "sign", "e", "f", "_", "w", "p"], ⟨4, 7, b15⟩⟩
/-- kind_of -/
def b16 : Sms := Vp.U.b16
def e16 : Entry := ⟨16, 20, ["form", "pattern", "_", "e", "f"], ⟨2, 5, b16⟩⟩
/-- scale_of -/
def b17 : Sms := Vp.U.b17
def e17 : Entry := ⟨17, 21, ["form", "pattern", "c", "_", "e", "f"], ⟨2, 6, b17⟩⟩
/-- size_of -/
def b18 : Sms := Vp.U.b18
def e18 : Entry := ⟨18, 22, ["form", "pattern", "c", "q"], ⟨2, 4, b18⟩⟩
/-- greatest -/
def b19 : Sms := Vp.U.b19
def e19 : Entry := ⟨19, 23, ["form", "sign", "top"], ⟨2, 3, b19⟩⟩
/-- endless -/
def b20 : Sms := Vp.U.b20
def e20 : Entry := ⟨20, 24, ["form", "sign"], ⟨2, 2, b20⟩⟩
/-- no_number -/
def b21 : Sms := Vp.U.b21
def e21 : Entry := ⟨21, 25, ["form"], ⟨1, 1, b21⟩⟩
/-- top_size -/
def b22 : Sms := Vp.U.b22
def e22 : Entry := ⟨22, 26, ["form"], ⟨1, 1, b22⟩⟩
/-- exponent_of -/
def b38 : Sms := Vp.U.b38
def e38 : Entry := ⟨38, 28, ["size", "t"], ⟨1, 2, b38⟩⟩
/-- below -/
def b39 : Sms := Vp.U.b39
def e39 : Entry := ⟨39, 29, ["form", "size", "e", "step", "c"], ⟨2, 5, b39⟩⟩
/-- above -/
def b40 : Sms := Vp.U.b40
def e40 : Entry := ⟨40, 30, ["form", "pattern"], ⟨2, 2, b40⟩⟩
/-- stand_in -/
def b41 : Sms := Vp.U.b41
def e41 : Entry := ⟨41, 31, ["form", "pattern"], ⟨2, 2, b41⟩⟩
/-- nearer -/
def b42 : Sms := Vp.U.b42
def e42 : Entry := ⟨42, 32, ["form", "size", "low", "high", "down", "up"], ⟨4, 6, b42⟩⟩
/-- takes_low -/
def b43 : Sms := Vp.U.b43
def e43 : Entry := ⟨43, 33, ["mode", "sign"], ⟨2, 2, b43⟩⟩
/-- rounded_size -/
def b44 : Sms := Vp.U.b44
def e44 : Entry := ⟨44, 34, ["form", "mode", "sign", "size", "low", "high"], ⟨4, 6, b44⟩⟩
/-- rounded -/
def b45 : Sms := Vp.U.b45
def e45 : Entry := ⟨45, 35, ["form", "mode", "sign", "size"], ⟨4, 4, b45⟩⟩
/-- are_digits -/
def b23 : Sms := Vp.U.b23
def e23 : Entry := ⟨23, 44, ["string", "signs", "sign"], ⟨2, 3, b23⟩⟩
/-- number_in -/
def b24 : Sms := Vp.U.b24
def e24 : Entry := ⟨24, 45, ["string", "base", "found", "sign"], ⟨2, 4, b24⟩⟩
/-- without_sign -/
def b25 : Sms := Vp.U.b25
def e25 : Entry := ⟨25, 46, ["string"], ⟨1, 1, b25⟩⟩
/-- power_in -/
def b26 : Sms := Vp.U.b26
def e26 : Entry := ⟨26, 47, ["string", "number", "sign", "digits"], ⟨1, 4, b26⟩⟩
/-- check_digits -/
def b29 : Sms := Vp.U.b29
def e29 : Entry := ⟨29, 48, ["digits", "base"], ⟨2, 2, b29⟩⟩
/-- split_text -/
def b31 : Sms := Vp.U.b31
def e31 : Entry := ⟨31, 49, ["base", "string", "k", "sign", "rest", "front", "mark", "power", "ahead", "point", "behind"], ⟨2, 11, b31⟩⟩
/-- digits_of -/
def b33 : Sms := Vp.U.b33
def e33 : Entry := ⟨33, 50, ["base", "number", "found"], ⟨2, 3, b33⟩⟩
/-- spread -/
def b34 : Sms := Vp.U.b34
def e34 : Entry := ⟨34, 51, ["digits", "k", "n", "rest"], ⟨2, 4, b34⟩⟩
/-- layout -/
def b37 : Sms := Vp.U.b37
def e37 : Entry := ⟨37, 52, ["base", "sign", "d", "k"], ⟨4, 4, b37⟩⟩
/-- read_word -/
def b59 : Sms := Vp.U.b59
def e59 : Entry := ⟨59, 54, ["form", "told"], ⟨2, 2, b59⟩⟩
/-- told_size -/
def b60 : Sms := Vp.U.b60
def e60 : Entry := ⟨60, 55, ["form", "base", "d", "k", "length"], ⟨4, 5, b60⟩⟩
/-- read_text -/
def b61 : Sms := Vp.U.b61
def e61 : Entry := ⟨61, 56, ["form", "base", "mode", "string", "told", "_", "sign", "d", "k"], ⟨4, 9, b61⟩⟩
/-- own_sign -/
def b62 : Sms := Vp.U.b62
def e62 : Entry := ⟨62, 58, ["form", "pattern", "sign"], ⟨2, 3, b62⟩⟩
/-- stripped -/
def b51 : Sms := Vp.U.b51
def e51 : Entry := ⟨51, 60, ["base", "d", "k"], ⟨3, 3, b51⟩⟩
/-- lowest_power -/
def b110 : Sms := Vp.U.b110
def e110 : Entry := ⟨110, 64, ["form"], ⟨1, 1, b110⟩⟩
/-- unit_of -/
def b111 : Sms := Vp.U.b111
def e111 : Entry := ⟨111, 65, ["form"], ⟨1, 1, b111⟩⟩
/-- empty_total -/
def b112 : Sms := Vp.U.b112
def e112 : Entry := ⟨112, 66, [], ⟨0, 0, b112⟩⟩
/-- endless_total -/
def b114 : Sms := Vp.U.b114
def e114 : Entry := ⟨114, 67, ["sign"], ⟨1, 1, b114⟩⟩
/-- steps_in -/
def b115 : Sms := Vp.U.b115
def e115 : Entry := ⟨115, 68, ["form", "pattern", "steps", "sign", "plain", "c", "q"], ⟨2, 7, b115⟩⟩
/-- total_of -/
def b116 : Sms := Vp.U.b116
def e116 : Entry := ⟨116, 69, ["form", "pattern", "kind"], ⟨2, 3, b116⟩⟩
/-- together -/
def b118 : Sms := Vp.U.b118
def e118 : Entry := ⟨118, 70, ["one", "other", "first", "second"], ⟨2, 4, b118⟩⟩
/-- added -/
def b119 : Sms := Vp.U.b119
def e119 : Entry := ⟨119, 71, ["form", "total", "pattern"], ⟨3, 3, b119⟩⟩
/-- taken_off -/
def b120 : Sms := Vp.U.b120
def e120 : Entry := ⟨120, 72, ["form", "total", "pattern", "first", "second"], ⟨3, 5, b120⟩⟩
/-- kind_of_total -/
def b121 : Sms := Vp.U.b121
def e121 : Entry := ⟨121, 73, ["total", "_", "ups", "downs", "nones"], ⟨1, 5, b121⟩⟩
/-- sign_and_size -/
def b122 : Sms := Vp.U.b122
def e122 : Entry := ⟨122, 74, ["form", "total", "number"], ⟨2, 3, b122⟩⟩
/-- rounded_total -/
def b123 : Sms := Vp.U.b123
def e123 : Entry := ⟨123, 75, ["form", "mode", "total", "kind", "sign", "size"], ⟨3, 6, b123⟩⟩
/-- exact_text -/
def b124 : Sms := Vp.U.b124
def e124 : Entry := ⟨124, 76, ["form", "base", "total", "kind", "k", "sign", "top", "d", "bottom"], ⟨3, 9, b124⟩⟩
/-- list_total -/
def b125 : Sms := Vp.U.b125
def e125 : Entry := ⟨125, 78, ["form", "patterns", "total", "pattern"], ⟨2, 4, b125⟩⟩
/-- _law_cell -/
def b83 : Sms := Vp.Sh.b83
def e83 : Entry := ⟨83, 80, ["script", "k"], ⟨2, 2, b83⟩⟩
/-- _law_numbers -/
def b84 : Sms := Vp.Sh.b84
def e84 : Entry := ⟨84, 81, ["cell", "count", "limit", "found", "k", "mixed"], ⟨3, 6, b84⟩⟩
/-- _law_common -/
def b126 : Sms := Vp.U.b126
def e126 : Entry := ⟨126, 82, ["one", "other", "turn"], ⟨2, 3, b126⟩⟩
/-- _law_frac -/
def b127 : Sms := Vp.U.b127
def e127 : Entry := ⟨127, 83, ["top", "bottom", "common"], ⟨2, 3, b127⟩⟩
/-- _law_minus -/
def b128 : Sms := Vp.U.b128
def e128 : Entry := ⟨128, 84, ["one", "other"], ⟨2, 2, b128⟩⟩
/-- _law_times -/
def b129 : Sms := Vp.U.b129
def e129 : Entry := ⟨129, 85, ["one", "other"], ⟨2, 2, b129⟩⟩
/-- _law_over -/
def b130 : Sms := Vp.U.b130
def e130 : Entry := ⟨130, 86, ["one", "other"], ⟨2, 2, b130⟩⟩
/-- _law_less -/
def b131 : Sms := Vp.U.b131
def e131 : Entry := ⟨131, 87, ["one", "other"], ⟨2, 2, b131⟩⟩
/-- _law_form -/
def b132 : Sms := Vp.U.b132
def e132 : Entry := ⟨132, 88, ["draws", "at"], ⟨2, 2, b132⟩⟩
/-- _law_power -/
def b133 : Sms := Vp.U.b133
def e133 : Entry := ⟨133, 89, ["base", "k", "found", "step"], ⟨2, 4, b133⟩⟩
/-- _law_bias -/
def b134 : Sms := Vp.U.b134
def e134 : Entry := ⟨134, 90, ["form"], ⟨1, 1, b134⟩⟩
/-- _law_parts -/
def b135 : Sms := Vp.U.b135
def e135 : Entry := ⟨135, 91, ["form", "pattern", "low", "width"], ⟨2, 4, b135⟩⟩
/-- _law_special -/
def b136 : Sms := Vp.U.b136
def e136 : Entry := ⟨136, 92, ["form", "pattern", "sign", "e", "f"], ⟨2, 5, b136⟩⟩
/-- _law_size -/
def b137 : Sms := Vp.U.b137
def e137 : Entry := ⟨137, 93, ["form", "pattern", "c", "sign", "e", "f"], ⟨2, 6, b137⟩⟩
/-- _law_half -/
def b138 : Sms := Vp.U.b138
def e138 : Entry := ⟨138, 94, ["form"], ⟨1, 1, b138⟩⟩
/-- _law_top -/
def b139 : Sms := Vp.U.b139
def e139 : Entry := ⟨139, 95, ["form"], ⟨1, 1, b139⟩⟩
/-- _law_same -/
def b85 : Sms := Vp.Sh.b85
def e85 : Entry := ⟨85, 96, ["told", "due", "k"], ⟨2, 3, b85⟩⟩
/-- _law_behind -/
def b140 : Sms := Vp.U.b140
def e140 : Entry := ⟨140, 97, ["form", "pattern"], ⟨2, 2, b140⟩⟩
/-- _law_round -/
def b141 : Sms := Vp.U.b141
def e141 : Entry := ⟨141, 98, ["form", "mode", "sign", "size", "low", "high", "step", "found", "middle", "second", "down", "up"], ⟨4, 12, b141⟩⟩
/-- _law_digits -/
def b142 : Sms := Vp.U.b142
def e142 : Entry := ⟨142, 99, ["base", "number", "found", "step"], ⟨2, 4, b142⟩⟩
/-- _law_layout -/
def b143 : Sms := Vp.U.b143
def e143 : Entry := ⟨143, 100, ["base", "sign", "d", "k", "digits", "n", "text"], ⟨4, 7, b143⟩⟩
/-- _law_stripped -/
def b144 : Sms := Vp.U.b144
def e144 : Entry := ⟨144, 101, ["base", "d", "k", "step"], ⟨3, 4, b144⟩⟩
/-- _law_base -/
def b145 : Sms := Vp.U.b145
def e145 : Entry := ⟨145, 102, ["draw"], ⟨1, 1, b145⟩⟩
/-- _law_expanded -/
def b146 : Sms := Vp.U.b146
def e146 : Entry := ⟨146, 103, ["base", "size", "places", "value", "step"], ⟨2, 5, b146⟩⟩
/-- _law_value -/
def b147 : Sms := Vp.U.b147
def e147 : Entry := ⟨147, 104, ["form", "pattern", "size"], ⟨2, 3, b147⟩⟩
/-- _law_kind -/
def b148 : Sms := Vp.U.b148
def e148 : Entry := ⟨148, 105, ["form", "pattern", "sign", "e", "f"], ⟨2, 5, b148⟩⟩
/-- _law_unit -/
def b149 : Sms := Vp.U.b149
def e149 : Entry := ⟨149, 106, ["form"], ⟨1, 1, b149⟩⟩
/-- _law_total_of -/
def b150 : Sms := Vp.U.b150
def e150 : Entry := ⟨150, 107, ["form", "pattern", "kind"], ⟨2, 3, b150⟩⟩
/-- _law_together -/
def b151 : Sms := Vp.U.b151
def e151 : Entry := ⟨151, 108, ["one", "other"], ⟨2, 2, b151⟩⟩
/-- _law_list_total -/
def b152 : Sms := Vp.U.b152
def e152 : Entry := ⟨152, 109, ["form", "patterns", "total", "pattern"], ⟨2, 4, b152⟩⟩
/-- _law_rounded -/
def b153 : Sms := Vp.U.b153
def e153 : Entry := ⟨153, 110, ["form", "mode", "total", "size", "number", "ups", "downs", "nones"], ⟨3, 8, b153⟩⟩
/-- _law_text_of_total -/
def b154 : Sms := Vp.U.b154
def e154 : Entry := ⟨154, 111, ["form", "base", "total", "number", "ups", "downs", "nones", "whole_v", "places", "d", "k"], ⟨3, 11, b154⟩⟩
/-- _law_some_patterns -/
def b155 : Sms := Vp.U.b155
def e155 : Entry := ⟨155, 112, ["form", "draws", "count", "plain", "found", "draw", "pattern"], ⟨4, 7, b155⟩⟩
/-- law -/
def b156_1 : Sms := (.cons [] (.ife (.nott (.call 85 (.cons (.call 125 (.cons (.loc 2) (.cons (.lis (.bo .listof (.cons (.loc 8) .nil))) .nil))) (.cons (.loc 6) .nil))))
  (.cons [] (.ret (.bl false))
 .nil)
  .nil)
 .nil)
def b156_2 : Sms := (.cons [] (.asg (.nm 14) (.call 153 (.cons (.loc 2) (.cons (.loc 13) (.cons (.loc 9) .nil)))))
 (.cons [] (.ife (.bool .Or (.cons (.nott (.call 85 (.cons (.call 123 (.cons (.loc 2) (.cons (.loc 13) (.cons (.loc 9) .nil)))) (.cons (.loc 14) .nil)))) (.cons (.nott (.call 85 (.cons (.call 61 (.cons (.loc 2) (.cons (.loc 3) (.cons (.loc 13) (.cons (.loc 12) .nil))))) (.cons (.loc 14) .nil)))) .nil)))
  (.cons [] (.ret (.bl false))
 .nil)
  .nil)
 .nil))
def b156_3 : Sms := (.cons [] (.asg (.nm 11) (.loc 9))
 (.cons [] (.asg (.nm 9) (.call 119 (.cons (.loc 2) (.cons (.loc 9) (.cons (.loc 10) .nil)))))
 (.cons [] (.ife (.bool .Or (.cons (.nott (.call 85 (.cons (.call 116 (.cons (.loc 2) (.cons (.loc 10) .nil))) (.cons (.call 150 (.cons (.loc 2) (.cons (.loc 10) .nil))) .nil)))) (.cons (.nott (.call 85 (.cons (.loc 9) (.cons (.call 151 (.cons (.loc 11) (.cons (.call 150 (.cons (.loc 2) (.cons (.loc 10) .nil))) .nil))) .nil)))) .nil)))
  (.cons [] (.ret (.bl false))
 .nil)
  .nil)
 (.cons [] (.ife (.nott (.call 85 (.cons (.call 120 (.cons (.loc 2) (.cons (.loc 9) (.cons (.loc 10) .nil)))) (.cons (.loc 11) .nil))))
  (.cons [] (.ret (.bl false))
 .nil)
  .nil)
 (.cons [] (.asg (.nm 12) (.call 124 (.cons (.loc 2) (.cons (.loc 3) (.cons (.loc 9) .nil)))))
 (.cons [] (.ife (.nott (.call 85 (.cons (.loc 12) (.cons (.call 154 (.cons (.loc 2) (.cons (.loc 3) (.cons (.loc 9) .nil)))) .nil))))
  (.cons [] (.ret (.bl false))
 .nil)
  .nil)
 (.cons [] (.for_ (.nm 13) (.ex (.lis (.lst (.cons (.str ("even" : String)) (.cons (.str ("down" : String)) (.cons (.str ("up" : String)) (.cons (.str ("zero" : String)) .nil)))))))
  b156_2)
 .nil)))))))
def b156 : Sms := (.cons [] (.asg (.nm 1) (.call 84 (.cons (.call 83 (.cons (.loc 0) (.cons (.int 0) .nil))) (.cons (.int 30) (.cons (.int 5040) .nil)))))
 (.cons [] (.asg (.nm 2) (.call 132 (.cons (.loc 1) (.cons (.int 0) .nil))))
 (.cons [] (.asg (.nm 3) (.call 145 (.cons (.sub (.loc 1) (.int 3)) .nil)))
 (.cons [] (.asg (.nm 4) (.call 155 (.cons (.loc 2) (.cons (.sl (.loc 1) (.yes (.int 6)) .no) (.cons (.bin .mod (.sub (.loc 1) (.int 4)) (.int 13)) (.cons (.cmp .Gt (.bin .mod (.sub (.loc 1) (.int 5)) (.int 3)) (.int 0)) .nil))))))
 (.cons [] (.asg (.nm 5) (.lis (.bo .listof (.cons (.loc 4) .nil))))
 (.cons [] (.ife (.nott (.call 85 (.cons (.lis (.lst (.cons (.call 111 (.cons (.loc 2) .nil)) (.cons (.call 112 .nil) .nil)))) (.cons (.lis (.lst (.cons (.call 149 (.cons (.loc 2) .nil)) (.cons (.tup (.cons (.int 0) (.cons (.int 0) (.cons (.int 0) (.cons (.int 0) .nil))))) .nil)))) .nil))))
  (.cons [] (.ret (.bl false))
 .nil)
  .nil)
 (.cons [] (.asg (.nm 6) (.call 152 (.cons (.loc 2) (.cons (.loc 4) .nil))))
 (.cons [] (.asg (.nm 7) (.bin .mod (.sub (.loc 1) (.int 20)) (.bin .add (.bf .len (.cons (.loc 4) .nil)) (.int 1))))
 (.cons [] (.for_ (.nm 8) (.ex (.lis (.lst (.cons (.loc 4) (.cons (.lis (.rev (.loc 4))) (.cons (.lis (.bo .sorted (.cons (.loc 4) .nil))) (.cons (.bin .add (.sl (.loc 4) (.yes (.loc 7)) .no) (.sl (.loc 4) (.yes (.int 0)) (.yes (.loc 7)))) .nil)))))))
  b156_1)
 (.cons [] (.ife (.bool .Or (.cons (.nott (.call 85 (.cons (.call 118 (.cons (.call 125 (.cons (.loc 2) (.cons (.sl (.loc 4) (.yes (.int 0)) (.yes (.loc 7))) .nil))) (.cons (.call 125 (.cons (.loc 2) (.cons (.sl (.loc 4) (.yes (.loc 7)) .no) .nil))) .nil))) (.cons (.loc 6) .nil)))) (.cons (.cmp .NotEq (.loc 4) (.loc 5)) .nil)))
  (.cons [] (.ret (.bl false))
 .nil)
  .nil)
 (.cons [] (.asg (.nm 9) (.call 112 .nil))
 (.cons [] (.for_ (.nm 10) (.ex (.bin .add (.loc 4) (.lis (.lst (.cons (.int 0) (.cons (.call 138 (.cons (.loc 2) .nil)) (.cons (.int 1) .nil)))))))
  b156_3)
 (.cons [] (.ret (.cmp .Eq (.loc 4) (.loc 5)))
 .nil)))))))))))))
def e156 : Entry := ⟨156, 113, ["script", "draws", "form", "base", "patterns", "kept", "due", "cut", "some", "total", "pattern", "before", "text", "mode", "own"], ⟨1, 15, b156⟩⟩
def prog : Prog := ⟨[e2, e3, e5, e6, e7, e8, e9, e10, e11, e12, e13, e14, e15, e16, e17, e18, e19, e20, e21, e22, e38, e39, e40, e41, e42, e43, e44, e45, e23, e24, e25, e26, e29, e31, e33, e34, e37, e59, e60, e61, e62, e51, e110, e111, e112, e114, e115, e116, e118, e119, e120, e121, e122, e123, e124, e125, e83, e84, e126, e127, e128, e129, e130, e131, e132, e133, e134, e135, e136, e137, e138, e139, e85, e140, e141, e142, e143, e144, e145, e146, e147, e148, e149, e150, e151, e152, e153, e154, e155, e156],
  [(30, "SIGNS", .str ("0123456789abcdef" : String)), (27, "DECIMAL", .str ("0123456789" : String)), (28, "MOST_POWER_DIGITS", .int 6), (538, "MARK", .str ("^" : String)), (35, "MOST_PLAIN", .int 21), (36, "LEAST_PLAIN", .int (-7)), (113, "EMPTY", .tup [.int 0, .int 0, .int 0, .int 0]), (117, "NONE", .tup [.int 0, .int 0, .int 0, .int 1])],
  ["max", "all", "int", "len", "list", "reversed", "tuple", "zip", "abs", "range", "isinstance", "bool", "str", "sorted"], true, [(32, "WORDS", [(("inf" : String), .tup [.str ("endless" : String), .int 0]), (("+inf" : String), .tup [.str ("endless" : String), .int 0]), (("-inf" : String), .tup [.str ("endless" : String), .int 1]), (("nan" : String), .tup [.str ("none" : String)])])]⟩
end Law92

end

section
set_option Elab.async false
set_option linter.all false
set_option autoImplicit false
set_option maxRecDepth 100000
set_option maxHeartbeats 0
namespace Law92
open Vp L2 PySem Vp.U
theorem agP : Ag prog.tab (118 :: 119 :: 120 :: 112 :: 114 :: 115 :: 116 :: 62 :: 123 :: 125 :: exactTab) :=
  ⟨rfl, rfl, rfl, rfl, rfl, rfl, rfl, rfl, rfl, rfl, rfl, rfl, rfl, rfl, rfl, rfl, rfl, rfl, rfl, rfl, rfl, rfl, rfl, rfl, rfl, rfl, rfl, rfl, rfl, rfl, rfl, rfl, rfl, rfl, rfl, rfl, rfl, rfl, rfl, rfl, rfl, rfl, rfl, rfl, rfl, rfl, rfl, rfl, rfl, rfl, rfl, rfl, rfl, rfl, rfl, rfl, trivial⟩
theorem agL : Ag prog.tab [126, 127, 128, 129, 130, 131, 132, 133, 134, 135, 136, 137, 138, 139, 140, 141, 142, 143, 144, 145, 146, 147, 148, 149, 150, 151, 152, 153, 154, 155] :=
  ⟨rfl, rfl, rfl, rfl, rfl, rfl, rfl, rfl, rfl, rfl, rfl, rfl, rfl, rfl, rfl, rfl, rfl, rfl, rfl, rfl, rfl, rfl, rfl, rfl, rfl, rfl, rfl, rfl, rfl, rfl, trivial⟩
theorem W : 64 ≤ 1000 := by decide
theorem lbase {tab : Nat → Option Fn} {gl : Nat → Option D} {wn k : Nat} {q : Int} (A : Ag tab [145]) (h : 0 ≤ q) : ∃ c : Nat, 1 ≤ c ∧ c ≤ 8 ∧ callN tab gl wn (k + 1) 145 [I q] = some (I ((2 * c : Nat) : Int)) := by
  rw [callN_eq (A.get (i := 145) (by decide)) rfl]
  generalize callN tab gl wn k = cf at *
  have h6 : q % 6 = 0 ∨ q % 6 = 1 ∨ q % 6 = 2 ∨ q % 6 = 3 ∨ q % 6 = 4 ∨ q % 6 = 5 := by omega
  have go : ∀ (i v : Int), q % 6 = i → atI [D.int 10, .int 2, .int 16, .int 6, .int 10, .int 12] i = some (I v) → (exs cf gl wn Vp.U.b145 (startE 1 [I q])).bind outF = some (I v) := fun i v hi ha => by
    simp [Vp.U.b145, exs_cons, seqF_def, startE, hi, ha]
  rcases h6 with h | h | h | h | h | h
  · exact ⟨5, by omega, by omega, go 0 _ h rfl⟩
  · exact ⟨1, by omega, by omega, go 1 _ h rfl⟩
  · exact ⟨8, by omega, by omega, go 2 _ h rfl⟩
  · exact ⟨3, by omega, by omega, go 3 _ h rfl⟩
  · exact ⟨5, by omega, by omega, go 4 _ h rfl⟩
  · exact ⟨6, by omega, by omega, go 5 _ h rfl⟩
/-- totals of patterns: multiples of a step -/
theorem total_mul {F : Fm} (x : Int) : ∃ σ : Int, (totalQ F x).a = σ * S F := by
  unfold totalQ
  split
  · exact ⟨0, by rw [Int.zero_mul]; rfl⟩
  · split
    · refine ⟨0, ?_⟩
      rw [Int.zero_mul]
      unfold endQ
      split <;> rfl
    · exact ⟨steps F x, rfl⟩
theorem sum_mul {F : Fm} (xs : List Int) : ∃ σ : Int, (sumQ (xs.map (totalQ F))).a = σ * S F := by
  induction xs with
  | nil => exact ⟨0, by rw [Int.zero_mul]; rfl⟩
  | cons x r ih =>
    obtain ⟨σ, h⟩ := ih
    obtain ⟨τ, h2⟩ := total_mul (F := F) x
    refine ⟨σ + τ, ?_⟩
    rw [List.map_cons, sumQ_cons, Int.add_mul, ← h, ← h2]
    rfl
theorem sum_good {F : Fm} (xs : List Int) : (sumQ (xs.map (totalQ F))).Good F := by
  induction xs with
  | nil => exact Q4.Good.zero
  | cons x r ih =>
    rw [List.map_cons, sumQ_cons]
    exact ih.add (Q4.Good.total x)
theorem sum_lt {F : Fm} (o : F.Tny) (xs : List Int) (h : xs.length ≤ 20) : (sumQ (xs.map (totalQ F))).a.natAbs < 2 ^ 40 := by
  have h1 := sum_le (qs := xs.map (totalQ F)) (M := 2 ^ 33) (n := 20) (fun q hq => by
    obtain ⟨x, _, rfl⟩ := List.mem_map.mp hq
    exact Nat.le_of_lt (total_lt (Tny_tot o x))) (by rw [List.length_map]; exact h)
  have h2 : 20 * 2 ^ 33 < 2 ^ 40 := by decide
  omega
theorem add_sub (q r : Q4) : (q.add r).sub r = q := by
  cases q
  cases r
  unfold Q4.add Q4.sub
  simp
structure Cf (cf : Nat → List D → Option D) (F : Fm) (b : Nat) : Prop where
  o : F.Tny
  c116 : ∀ x, Pt F x → cf 116 [F.d, I x] = some (totalQ F x).d
  c150 : ∀ x, Pt F x → cf 150 [F.d, I x] = some (totalQ F x).d
  c119 : ∀ (q : Q4) x, Pt F x → cf 119 [F.d, q.d, I x] = some (q.add (totalQ F x)).d
  c120 : ∀ (q : Q4) x, Pt F x → cf 120 [F.d, q.d, I x] = some (q.sub (totalQ F x)).d
  c151 : ∀ q r : Q4, cf 151 [q.d, r.d] = some (q.add r).d
  ct : ∀ q : Q4, q.Good F → (∃ σ : Int, q.a = σ * S F) → q.a.natAbs < 2 ^ 40 → ∃ txt : Str, cf 124 [F.d, I b, q.d] = some (.str txt) ∧ cf 154 [F.d, I b, q.d] = some (.str txt) ∧ ∀ m, isMode m → cf 61 [F.d, I b, .str m, .str txt] = some (I (roundQ F m q))
  c153 : ∀ (m : Str) (q : Q4), isMode m → q.Good F → q.a.natAbs < 2 ^ 40 → cf 153 [F.d, .str m, q.d] = some (I (roundQ F m q))
  c123 : ∀ (m : Str) (q : Q4), isMode m → q.Good F → q.a.natAbs < 2 ^ 40 → cf 123 [F.d, .str m, q.d] = some (I (roundQ F m q))
  c85 : ∀ d : D, Vp.Sh.good 3 d = true → cf 85 [d, d] = some (.bl true)
abbrev E9 (sc dr : Cell) (F : Fm) (b : Nat) (P du cu so to pa be te mo ow : Cell) : Env' := [sc, dr, .f F.d, .f (I b), P, P, du, cu, so, to, pa, be, te, mo, ow]
section
variable {cf : Nat → List D → Option D} {F : Fm} {b : Nat} {sc dr P du cu so : Cell}
theorem good4 (q : Q4) : Vp.Sh.good 3 q.d = true := rfl
theorem mode_ok (C : Cf cf F b) {q : Q4} {txt m : Str} {pa be ow : Cell} (hm : isMode m) (hg : q.Good F) (ha : q.a.natAbs < 2 ^ 40) (h61 : cf 61 [F.d, I b, .str m, .str txt] = some (I (roundQ F m q))) :
    exs cf prog.gl 1000 b156_2 (E9 sc dr F b P du cu so (.f q.d) pa be (.f (.str txt)) (.f (.str m)) ow) = some (.nx (E9 sc dr F b P du cu so (.f q.d) pa be (.f (.str txt)) (.f (.str m)) (.f (I (roundQ F m q))))) := by
  have a1 := C.c153 m q hm hg ha
  have a2 := C.c123 m q hm hg ha
  have a3 := C.c85 (I (roundQ F m q)) rfl
  generalize roundQ F m q = r at *
  generalize q.d = qd at *
  refine exs_nx (E' := E9 sc dr F b P du cu so (.f qd) pa be (.f (.str txt)) (.f (.str m)) (.f (I r))) (by simp [E9, a1]) ?_
  refine exs_nx (E' := E9 sc dr F b P du cu so (.f qd) pa be (.f (.str txt)) (.f (.str m)) (.f (I r))) ?_ rfl
  simp [E9, a2, a3, h61]
theorem pat_ok (C : Cf cf F b) {xs : List Int} {x : Int} (hx : Pt F x) (hl : xs.length < 20) {be te mo ow : Cell} :
    ∃ be' te' mo' ow', exs cf prog.gl 1000 b156_3 (E9 sc dr F b P du cu so (.f (sumQ (xs.map (totalQ F))).d) (.f (I x)) be te mo ow) = some (.nx (E9 sc dr F b P du cu so (.f (sumQ ((xs ++ [x]).map (totalQ F))).d) (.f (I x)) be' te' mo' ow')) := by
  have es : sumQ ((xs ++ [x]).map (totalQ F)) = (sumQ (xs.map (totalQ F))).add (totalQ F x) := by
    rw [List.map_append, List.map_cons, List.map_nil, sumQ_snoc]
  have hg := sum_good (F := F) (xs ++ [x])
  have hm := sum_mul (F := F) (xs ++ [x])
  have ha := sum_lt C.o (xs ++ [x]) (by rw [List.length_append, List.length_singleton]; omega)
  obtain ⟨txt, t1, t2, t3⟩ := C.ct _ hg hm ha
  have a1 := C.c119 (sumQ (xs.map (totalQ F))) x hx
  rw [← es] at a1
  have a2 := C.c116 x hx
  have a3 := C.c150 x hx
  have a4 := C.c151 (sumQ (xs.map (totalQ F))) (totalQ F x)
  rw [← es] at a4
  have a5 := C.c120 (sumQ ((xs ++ [x]).map (totalQ F))) x hx
  rw [es, add_sub, ← es] at a5
  have g1 := C.c85 _ (good4 (totalQ F x))
  have g2 := C.c85 _ (good4 (sumQ ((xs ++ [x]).map (totalQ F))))
  have g3 := C.c85 _ (good4 (sumQ (xs.map (totalQ F))))
  have g4 := C.c85 (.str txt) rfl
  generalize hq1 : sumQ ((xs ++ [x]).map (totalQ F)) = q1 at *
  generalize sumQ (xs.map (totalQ F)) = q0' at *
  generalize totalQ F x = t at *
  obtain ⟨E', f1, mo', ow', rfl⟩ := forF_inv (t := .nm 13) (b := exs cf prog.gl 1000 b156_2) [.str evenS, .str downS, .str upS, .str zeroS]
    (fun i E => ∃ mo ow, E = E9 sc dr F b P du cu so (.f q1.d) (.f (I x)) (.f q0'.d) (.f (.str txt)) mo ow) (E9 sc dr F b P du cu so (.f q1.d) (.f (I x)) (.f q0'.d) (.f (.str txt)) mo ow) ⟨_, _, rfl⟩ (by
      rintro i d E hd ⟨mo, ow, rfl⟩
      have hmm := List.mem_of_getElem? hd
      obtain ⟨m, rfl, hm2⟩ : ∃ m : Str, d = .str m ∧ isMode m := by
        simp only [List.mem_cons, List.not_mem_nil, or_false] at hmm
        rcases hmm with rfl | rfl | rfl | rfl
        · exact ⟨_, rfl, .inl rfl⟩
        · exact ⟨_, rfl, .inr (.inl rfl)⟩
        · exact ⟨_, rfl, .inr (.inr (.inl rfl))⟩
        · exact ⟨_, rfl, .inr (.inr (.inr rfl))⟩
      exact ⟨_, _, rfl, .inl (mode_ok C hm2 hg ha (t3 m hm2)), _, _, rfl⟩)
  refine ⟨.f q0'.d, .f (.str txt), mo', ow', ?_⟩
  generalize hqd1 : q1.d = d1 at *
  generalize hqd0 : q0'.d = d0 at *
  generalize hqt : t.d = dt at *
  refine exs_nx (E' := E9 sc dr F b P du cu so (.f d0) (.f (I x)) (.f d0) te mo ow) (by simp [E9]) ?_
  refine exs_nx (E' := E9 sc dr F b P du cu so (.f d1) (.f (I x)) (.f d0) te mo ow) (by simp [E9, a1]) ?_
  refine exs_nx (E' := E9 sc dr F b P du cu so (.f d1) (.f (I x)) (.f d0) te mo ow) (by simp [E9, a2, a3, a4, g1, g2]) ?_
  refine exs_nx (E' := E9 sc dr F b P du cu so (.f d1) (.f (I x)) (.f d0) te mo ow) (by simp [E9, a5, g3]) ?_
  refine exs_nx (E' := E9 sc dr F b P du cu so (.f d1) (.f (I x)) (.f d0) (.f (.str txt)) mo ow) (by simp [E9, t1]) ?_
  refine exs_nx (E' := E9 sc dr F b P du cu so (.f d1) (.f (I x)) (.f d0) (.f (.str txt)) mo ow) (by simp [E9, t2, g4]) ?_
  refine exs_nx (E' := _) ?_ rfl
  have ei : ∀ E, evI cf prog.gl (.ex (.lis (.lst (.cons (.str ("even" : String)) (.cons (.str ("down" : String)) (.cons (.str ("up" : String)) (.cons (.str ("zero" : String)) .nil))))))) E = some [.str evenS, .str downS, .str upS, .str zeroS] := fun E => rfl
  rw [frz_nil, ex1_for, ei, bind_s]
  exact f1
end
theorem law_true : ∀ ns : List Int, ns.length ≤ 63 → prog.call 1000 30 156 [.fls (ns.map .int)] = some (.bl true) := by
  intro ss hss
  show callN prog.tab prog.gl 1000 (29 + 1) 156 [.fls (ss.map .int)] = _
  rw [callN_eq (tab := prog.tab) (f := 156) rfl rfl]
  have h1 := Vp.Sh.cell (tab := prog.tab) (gl := prog.gl) (wn := 1000) (k := 28) (ns := ss) (i := 0) rfl
  obtain ⟨ns, h2, hn, hnr⟩ := Vp.Sh.numbers (tab := prog.tab) (gl := prog.gl) (wn := 1000) (k := 28) (cell := ss[0]?.getD 0) (count := 30) (limit := 5040) rfl (by decide) (by decide) (by decide) (by decide)
  have hn' : ns.length = 30 := hn
  obtain ⟨q0', d0, _, _⟩ := drawn hn' hnr (j := 0) (by omega) (by omega)
  obtain ⟨q1', d1, _, _⟩ := drawn hn' hnr (j := 1) (by omega) (by omega)
  obtain ⟨q2', d2, _, _⟩ := drawn hn' hnr (j := 2) (by omega) (by omega)
  obtain ⟨q3, d3, q30, q31⟩ := drawn hn' hnr (j := 3) (by omega) (by omega)
  obtain ⟨q4, d4, q40, q41⟩ := drawn hn' hnr (j := 4) (by omega) (by omega)
  obtain ⟨q5, d5, q50, q51⟩ := drawn hn' hnr (j := 5) (by omega) (by omega)
  obtain ⟨q20, d20, q200, q201⟩ := drawn hn' hnr (j := 20) (by omega) (by omega)
  obtain ⟨F, sml, fw, fp, fp1, h3⟩ := lform (tab := prog.tab) (gl := prog.gl) (wn := 1000) (k := 28) (a := 0) (agL.sub (by decide)) d0 d1 d2
  obtain ⟨c, c1, c8, h4⟩ := lbase (tab := prog.tab) (gl := prog.gl) (wn := 1000) (k := 28) (q := q3) (agL.sub (by decide)) q30
  have o : F.Tny := ⟨sml, fw, by omega⟩
  have ok := sml.ok
  have hdrop : ∀ m : Nat, ∀ n ∈ ns.drop m, 0 ≤ n := fun m n h => (hnr n (List.mem_of_mem_drop h)).1
  obtain ⟨xs, x1, x2, x3⟩ := some_patterns (tab := prog.tab) (gl := prog.gl) (wn := 1000) (k := 24) (F := F) (ns := ns.drop 6) (count := q4 % 13) (pl := decide (0 < q5 % 3)) (agL.sub (by decide)) ok (by omega) (hdrop 6) (by rw [List.length_drop]; omega)
  have lx : xs.length ≤ 12 := by rw [x2]; omega
  have g : prog.gl 117 = some qNone.d := rfl
  have g0 : prog.gl 113 = some q0.d := rfl
  have G : Gt prog.gl := ⟨rfl, rfl, rfl, rfl, rfl⟩
  have c138 : callN prog.tab prog.gl 1000 29 138 [F.d] = some (I (half F)) := lhalf (k := 27) (agL.sub (by decide)) ok
  have c111 : callN prog.tab prog.gl 1000 29 111 [F.d] = some (fr (unitF F)) := unit_of (k := 25) (agP.sub (by decide)) W sml.w8
  have c149 : callN prog.tab prog.gl 1000 29 149 [F.d] = some (fr (unitF F)) := lunit (k := 26) (agL.sub (by decide)) ok
  have c112 : callN prog.tab prog.gl 1000 29 112 [] = some q0.d := by
    show callN prog.tab prog.gl 1000 (28 + 1) 112 [] = _
    rw [callN_eq (tab := prog.tab) (f := 112) rfl rfl]
    rfl
  have c125 : ∀ ys : List Int, (∀ y ∈ ys, Pt F y) → callN prog.tab prog.gl 1000 29 125 [F.d, .lst (ys.map .int)] = some (sumQ (ys.map (totalQ F))).d := fun ys hy => list_total (k := 22) (agP.sub (by decide)) W ok hy g g0
  have c152 : ∀ ys : List Int, (∀ y ∈ ys, Pt F y) → callN prog.tab prog.gl 1000 29 152 [F.d, .lst (ys.map .int)] = some (sumQ (ys.map (totalQ F))).d := fun ys hy => llist_total (k := 22) (agL.sub (by decide)) sml hy
  have c118 : ∀ q r : Q4, callN prog.tab prog.gl 1000 29 118 [q.d, r.d] = some (q.add r).d := fun q r => together (k := 28) (agP.sub (by decide))
  have CC : Cf (callN prog.tab prog.gl 1000 29) F (2 * c) :=
    { o := o
      c116 := fun x hx => total_of (k := 24) (agP.sub (by decide)) W ok hx g
      c150 := fun x hx => ltotal (k := 23) (agL.sub (by decide)) sml hx
      c119 := fun q x hx => added (k := 23) (agP.sub (by decide)) W ok hx g
      c120 := fun q x hx => taken_off (k := 23) (agP.sub (by decide)) W ok hx g
      c151 := fun q r => ltogether (k := 28) (agL.sub (by decide))
      ct := fun q hg ⟨σ, hs⟩ ha => texts (k := 20) (agP.sub (by decide)) (agL.sub (by decide)) (by decide) (by decide) o fp1 G rfl rfl (by omega) (by omega) rfl hg hs ha
      c153 := fun m q hm hg ha => lrounded (k := 22) (agL.sub (by decide)) sml fp1 hg ha (by omega)
      c123 := fun m q hm hg ha => rounded_total (k := 20) (agP.sub (by decide)) W sml.w8 fp1 hm ha (by omega)
      c85 := fun d hd => Vp.Sh.same (tab := prog.tab) rfl 3 _ d hd (by omega) }
  change callN prog.tab prog.gl 1000 29 83 _ = _ at h1
  change callN prog.tab prog.gl 1000 29 84 _ = _ at h2
  change callN prog.tab prog.gl 1000 29 132 _ = _ at h3
  change callN prog.tab prog.gl 1000 29 145 _ = _ at h4
  change callN prog.tab prog.gl 1000 29 155 _ = _ at x1
  generalize callN prog.tab prog.gl 1000 29 = cf at *
  have k1 : cf 83 [.fls (ss.map .int), .int 0] = some (.int (ss[0]?.getD 0)) := h1
  suffices hh : exs cf prog.gl 1000 b156 (startE 15 [.fls (ss.map .int)]) = some (.rt (.bl true)) by
    rw [hh]
    rfl
  let sc : Cell := .f (.fls (ss.map .int))
  let dr : Cell := .f (.lst (ns.map .int))
  let B : Cell := .f (I ((2 * c : Nat) : Int))
  let P : Cell := .f (.lst (xs.map .int))
  let T : Q4 := sumQ (xs.map (totalQ F))
  refine exs_nx (E' := [sc, dr, .u, .u, .u, .u, .u, .u, .u, .u, .u, .u, .u, .u, .u]) (by simp [startE, sc, dr, k1, h2]) ?_
  refine exs_nx (E' := [sc, dr, .f F.d, .u, .u, .u, .u, .u, .u, .u, .u, .u, .u, .u, .u]) (by simp [dr, h3]) ?_
  refine exs_nx (E' := [sc, dr, .f F.d, B, .u, .u, .u, .u, .u, .u, .u, .u, .u, .u, .u]) (by
    have e : ev cf prog.gl (.call 145 (.cons (.sub (.loc 1) (.int 3)) .nil)) [sc, dr, .f F.d, .u, .u, .u, .u, .u, .u, .u, .u, .u, .u, .u, .u] = some (I ((2 * c : Nat) : Int)) := by
      rw [ev_call, evs_cons, ev_sub, show ev cf prog.gl (.loc 1) [sc, dr, .f F.d, .u, .u, .u, .u, .u, .u, .u, .u, .u, .u, .u, .u] = some (.lst (ns.map .int)) from rfl, bind_s, ev_int, bind_s, ix_lst, d3, evs_nil, bind_s, map_s, bind_s, h4]
    rw [frz_nil, ex1_asg, e]
    rfl) ?_
  refine exs_nx (E' := [sc, dr, .f F.d, B, P, .u, .u, .u, .u, .u, .u, .u, .u, .u, .u]) ?_ ?_
  · have s6 : ev cf prog.gl (.sl (.loc 1) (.yes (.int 6)) .no) [sc, dr, .f F.d, B, .u, .u, .u, .u, .u, .u, .u, .u, .u, .u, .u] = some (.lst ((ns.drop (6 : Int).toNat).map .int)) := by
      rw [ev_sl, sl_lst (ds := ns.map .int) (l := some 6) (u := none) rfl rfl rfl, cut_drop _ (by omega), List.map_drop]
    have x1' : cf 155 [F.d, .lst ((ns.drop (6 : Int).toNat).map .int), I (q4 % 13), .bl (decide (0 < q5 % 3))] = some (.lst (xs.map .int)) := x1
    simp only [frz_nil, ex1_asg, ev_call, evs_cons, s6]
    generalize (ns.drop (6 : Int).toNat).map D.int = z at *
    generalize hxx : xs.map D.int = xx at *
    simp [dr, P, hxx, d4, d5, x1']
  refine exs_nx (E' := [sc, dr, .f F.d, B, P, P, .u, .u, .u, .u, .u, .u, .u, .u, .u]) ?_ ?_
  · generalize hxx : xs.map D.int = xx at *
    simp [P, hxx]
  refine exs_nx (E' := [sc, dr, .f F.d, B, P, P, .u, .u, .u, .u, .u, .u, .u, .u, .u]) ?_ ?_
  · have gs : cf 85 [.lst [fr (unitF F), q0.d], .lst [fr (unitF F), q0.d]] = some (.bl true) := CC.c85 _ rfl
    have q0d : (D.tup [.int 0, .int 0, .int 0, .int 0]) = q0.d := rfl
    have c112' := c112
    generalize fr (unitF F) = fu at *
    have t : tev cf prog.gl (.nott (.call 85 (.cons (.lis (.lst (.cons (.call 111 (.cons (.loc 2) .nil)) (.cons (.call 112 .nil) .nil)))) (.cons (.lis (.lst (.cons (.call 149 (.cons (.loc 2) .nil)) (.cons (.tup (.cons (.int 0) (.cons (.int 0) (.cons (.int 0) (.cons (.int 0) .nil))))) .nil)))) .nil)))) [sc, dr, .f F.d, B, P, P, .u, .u, .u, .u, .u, .u, .u, .u, .u] = some false := by
      simp [c111, c149, c112', q0d, gs]
    rw [frz_nil, ex1_ife, t]
    rfl
  refine exs_nx (E' := [sc, dr, .f F.d, B, P, P, .f T.d, .u, .u, .u, .u, .u, .u, .u, .u]) ?_ ?_
  · have a1 := c152 xs x3
    generalize hxx : xs.map D.int = xx at *
    simp [P, hxx, a1, T]
  have ln1 : (0 : Int) < (xs.length : Nat) + 1 := by omega
  have cu0 := Int.emod_nonneg q20 (show ((xs.length : Nat) : Int) + 1 ≠ 0 by omega)
  have cu1 := Int.emod_lt_of_pos q20 ln1
  refine exs_nx (E' := [sc, dr, .f F.d, B, P, P, .f T.d, .f (I (q20 % ((xs.length : Nat) + 1))), .u, .u, .u, .u, .u, .u, .u]) ?_ ?_
  · have lxx : (xs.map D.int).length = xs.length := List.length_map ..
    generalize hxx : xs.map D.int = xx at *
    simp [P, hxx, dr, d20, lxx, ln1]
  generalize hcut : q20 % ((xs.length : Nat) + 1) = ct at *
  -- the slices
  have s0 : ∀ E : Env', look 4 E = some (.lst (xs.map .int)) → look 7 E = some (I ct) → ev cf prog.gl (.sl (.loc 4) (.yes (.int 0)) (.yes (.loc 7))) E = some (.lst ((xs.take ct.toNat).map .int)) := fun E e4 e7 => by
    have w : partD (evP cf prog.gl (.yes (.loc 7))) E = some (some ct) := by
      show (ev cf prog.gl (.loc 7) E).bind _ = _
      rw [ev_loc, e7]
      rfl
    rw [ev_sl, sl_lst (ds := xs.map .int) (l := some 0) (u := some ct) (show ev cf prog.gl (.loc 4) E = _ from e4) rfl w, cut_take _ cu0, List.map_take]
  have s1 : ∀ E : Env', look 4 E = some (.lst (xs.map .int)) → look 7 E = some (I ct) → ev cf prog.gl (.sl (.loc 4) (.yes (.loc 7)) .no) E = some (.lst ((xs.drop ct.toNat).map .int)) := fun E e4 e7 => by
    have w : partD (evP cf prog.gl (.yes (.loc 7))) E = some (some ct) := by
      show (ev cf prog.gl (.loc 7) E).bind _ = _
      rw [ev_loc, e7]
      rfl
    rw [ev_sl, sl_lst (ds := xs.map .int) (l := some ct) (u := none) (show ev cf prog.gl (.loc 4) E = _ from e4) w rfl, cut_drop _ cu0, List.map_drop]
  -- the orders
  let os : List (List Int) := [xs, xs.reverse, isort xs, xs.drop ct.toNat ++ xs.take ct.toNat]
  have hos : ∀ ys ∈ os, (∀ y ∈ ys, Pt F y) ∧ sumQ (ys.map (totalQ F)) = T := by
    intro ys hys
    have pm : ys.Perm xs := by
      simp only [os, List.mem_cons, List.not_mem_nil, or_false] at hys
      rcases hys with rfl | rfl | rfl | rfl
      · exact List.Perm.refl _
      · exact List.reverse_perm _
      · exact isort_perm _
      · exact List.perm_append_comm.trans (by rw [List.take_append_drop])
    exact ⟨fun y hy => x3 y (pm.mem_iff.mp hy), sumQ_perm (pm.map _)⟩
  obtain ⟨E1, f1, so, rfl⟩ := forF_inv (t := .nm 8) (b := exs cf prog.gl 1000 b156_1) (os.map fun ys => .lst (ys.map .int))
    (fun i E => ∃ so, E = [sc, dr, .f F.d, B, P, P, .f T.d, .f (I ct), so, .u, .u, .u, .u, .u, .u]) [sc, dr, .f F.d, B, P, P, .f T.d, .f (I ct), .u, .u, .u, .u, .u, .u, .u] ⟨_, rfl⟩ (by
      rintro i d E hd ⟨so, rfl⟩
      obtain ⟨ys, hys, rfl⟩ := List.mem_map.mp (List.mem_of_getElem? hd)
      obtain ⟨p1, p2⟩ := hos ys hys
      have a1 := c125 ys p1
      rw [p2] at a1
      have a2 := CC.c85 _ (good4 T)
      generalize hyy : ys.map D.int = yy at *
      refine ⟨_, [sc, dr, .f F.d, B, P, P, .f T.d, .f (I ct), .f (.lst yy), .u, .u, .u, .u, .u, .u], rfl, .inl ?_, _, rfl⟩
      generalize T.d = td at *
      refine exs_nx (E' := _) ?_ rfl
      simp [a1, a2])
  refine exs_nx (E' := [sc, dr, .f F.d, B, P, P, .f T.d, .f (I ct), so, .u, .u, .u, .u, .u, .u]) ?_ ?_
  · have ei : evI cf prog.gl (.ex (.lis (.lst (.cons (.loc 4) (.cons (.lis (.rev (.loc 4))) (.cons (.lis (.bo .sorted (.cons (.loc 4) .nil))) (.cons (.bin .add (.sl (.loc 4) (.yes (.loc 7)) .no) (.sl (.loc 4) (.yes (.int 0)) (.yes (.loc 7)))) .nil))))))) [sc, dr, .f F.d, B, P, P, .f T.d, .f (I ct), .u, .u, .u, .u, .u, .u, .u] = some (os.map fun ys => .lst (ys.map .int)) := by
      have o4 : ev cf prog.gl (.loc 4) [sc, dr, .f F.d, B, P, P, .f T.d, .f (I ct), .u, .u, .u, .u, .u, .u, .u] = some (.lst (xs.map .int)) := rfl
      have e1 : ev cf prog.gl (.lis (.rev (.loc 4))) [sc, dr, .f F.d, B, P, P, .f T.d, .f (I ct), .u, .u, .u, .u, .u, .u, .u] = some (.lst (xs.reverse.map .int)) := by
        rw [ev_lis, evL_rev, o4, bind_s, lisOf_lst, map_s, map_s, List.map_reverse]
      have e2 : ev cf prog.gl (.lis (.bo .sorted (.cons (.loc 4) .nil))) [sc, dr, .f F.d, B, P, P, .f T.d, .f (I ct), .u, .u, .u, .u, .u, .u, .u] = some (.lst ((isort xs).map .int)) := by
        rw [ev_lis, evL_bo, evs_cons, o4, evs_nil, bind_s, map_s, bind_s, sorted_ints, map_s]
      have e3 : ev cf prog.gl (.bin .add (.sl (.loc 4) (.yes (.loc 7)) .no) (.sl (.loc 4) (.yes (.int 0)) (.yes (.loc 7)))) [sc, dr, .f F.d, B, P, P, .f T.d, .f (I ct), .u, .u, .u, .u, .u, .u, .u] = some (.lst ((xs.drop ct.toNat ++ xs.take ct.toNat).map .int)) := by
        rw [ev_bin, s1 _ rfl rfl, bind_s, s0 _ rfl rfl, bind_s, add_lst, if_pos (by simp only [List.length_map, List.length_drop, List.length_take, lineN_eq]; omega), List.map_append]
      rw [evI_ex, ev_lis, evL_lst, evs_cons, evs_cons, evs_cons, evs_cons, o4, e1, e2, e3, evs_nil, bind_s, bind_s, bind_s, bind_s, map_s, map_s, map_s, map_s, bind_s, short_ok, if_pos (by simp), map_s, bind_s, items_lst]
      rfl
    rw [frz_nil, ex1_for, ei, bind_s]
    exact f1
  refine exs_nx (E' := [sc, dr, .f F.d, B, P, P, .f T.d, .f (I ct), so, .u, .u, .u, .u, .u, .u]) ?_ ?_
  · have a1 := c125 (xs.take ct.toNat) (fun y hy => x3 y (List.mem_of_mem_take hy))
    have a2 := c125 (xs.drop ct.toNat) (fun y hy => x3 y (List.mem_of_mem_drop hy))
    have a3 := c118 (sumQ ((xs.take ct.toNat).map (totalQ F))) (sumQ ((xs.drop ct.toNat).map (totalQ F)))
    rw [← sumQ_app, ← List.map_append, List.take_append_drop] at a3
    have a4 := CC.c85 _ (good4 T)
    have a5 := ne_ints (a := xs) (b := xs)
    rw [decide_eq_true rfl] at a5
    have b0 := s0 [sc, dr, .f F.d, B, P, P, .f T.d, .f (I ct), so, .u, .u, .u, .u, .u, .u] rfl rfl
    have b1 := s1 [sc, dr, .f F.d, B, P, P, .f T.d, .f (I ct), so, .u, .u, .u, .u, .u, .u] rfl rfl
    have t : tev cf prog.gl (.bool .Or (.cons (.nott (.call 85 (.cons (.call 118 (.cons (.call 125 (.cons (.loc 2) (.cons (.sl (.loc 4) (.yes (.int 0)) (.yes (.loc 7))) .nil))) (.cons (.call 125 (.cons (.loc 2) (.cons (.sl (.loc 4) (.yes (.loc 7)) .no) .nil))) .nil))) (.cons (.loc 6) .nil)))) (.cons (.cmp .NotEq (.loc 4) (.loc 5)) .nil))) [sc, dr, .f F.d, B, P, P, .f T.d, .f (I ct), so, .u, .u, .u, .u, .u, .u] = some false := by
      rw [tev_or, tev_nott, tev_call, ev_call, evs_cons, evs_cons, ev_call, evs_cons, evs_cons, ev_call, evs_cons, evs_cons, ev_call, evs_cons, evs_cons, b0, b1]
      change cf 118 _ = some T.d at a3
      generalize (xs.take ct.toNat).map D.int = w0 at *
      generalize (xs.drop ct.toNat).map D.int = w1 at *
      generalize (sumQ ((xs.take ct.toNat).map (totalQ F))).d = v0 at *
      generalize (sumQ ((xs.drop ct.toNat).map (totalQ F))).d = v1 at *
      generalize T.d = td at *
      generalize hxx : xs.map D.int = xx at *
      simp [P, hxx, a1, a2, a3, a4, a5]
    rw [frz_nil, ex1_ife, t]
    rfl
  refine exs_nx (E' := E9 sc dr F (2 * c) P (.f T.d) (.f (I ct)) so (.f q0.d) .u .u .u .u .u) (by simp [E9, B, c112]) ?_
  -- the patterns
  have hpt : ∀ y ∈ xs ++ [0, half F, 1], Pt F y := by
    have hh := half_eq ok
    have hp := half_pos F
    have h1 : 1 < half F := by
      have lt := ltop_lt ok
      have tp := top_pos ok
      omega
    intro y hy
    rcases List.mem_append.mp hy with hy | hy
    · exact x3 y hy
    · simp only [List.mem_cons, List.not_mem_nil, or_false] at hy
      rcases hy with rfl | rfl | rfl
      · exact ⟨by omega, by rw [← hh]; omega⟩
      · exact ⟨by omega, by rw [← hh]; omega⟩
      · exact ⟨by omega, by rw [← hh]; omega⟩
  have lz : (xs ++ [0, half F, 1]).length ≤ 15 := by
    rw [List.length_append]
    simp
    omega
  have ez : ∀ E : Env', look 4 E = some (.lst (xs.map .int)) → look 2 E = some F.d → evI cf prog.gl (.ex (.bin .add (.loc 4) (.lis (.lst (.cons (.int 0) (.cons (.call 138 (.cons (.loc 2) .nil)) (.cons (.int 1) .nil))))))) E = some ((xs ++ [0, half F, 1]).map .int) := fun E e4 e2 => by
    have e3 : ev cf prog.gl (.lis (.lst (.cons (.int 0) (.cons (.call 138 (.cons (.loc 2) .nil)) (.cons (.int 1) .nil))))) E = some (.lst [.int 0, .int (half F), .int 1]) := by
      simp [e2, c138]
    rw [evI_ex, ev_bin, ev_loc, e4, bind_s, e3, bind_s, add_lst, if_pos (by simp; omega), bind_s, items_lst, List.map_append]
    rfl
  generalize hzs : xs ++ [0, half F, 1] = zs at *
  obtain ⟨E2, f2, w1, w2, w3, w4, w5, rfl⟩ := forF_inv (t := .nm 10) (b := exs cf prog.gl 1000 b156_3) (zs.map .int)
    (fun i E => ∃ w1 w2 w3 w4 w5, E = E9 sc dr F (2 * c) P (.f T.d) (.f (I ct)) so (.f (sumQ ((zs.take i).map (totalQ F))).d) w1 w2 w3 w4 w5) (E9 sc dr F (2 * c) P (.f T.d) (.f (I ct)) so (.f q0.d) .u .u .u .u .u) ⟨_, _, _, _, _, rfl⟩ (by
      rintro i d E hd ⟨w1, w2, w3, w4, w5, rfl⟩
      rw [List.getElem?_map] at hd
      obtain ⟨x, hx, rfl⟩ := Option.map_eq_some_iff.mp hd
      obtain ⟨v1, v2, v3, v4, hv⟩ := pat_ok CC (sc := sc) (dr := dr) (P := P) (du := .f T.d) (cu := .f (I ct)) (so := so) (xs := zs.take i) (x := x) (hpt x (List.mem_of_getElem? hx)) (by rw [List.length_take]; omega) (be := w2) (te := w3) (mo := w4) (ow := w5)
      have e2 : zs.take i ++ [x] = zs.take (i + 1) := by
        rw [List.take_add_one, hx]
        rfl
      rw [e2] at hv
      exact ⟨_, _, rfl, .inl hv, _, _, _, _, _, rfl⟩)
  refine exs_nx (E' := E9 sc dr F (2 * c) P (.f T.d) (.f (I ct)) so (.f (sumQ ((zs.take (zs.map D.int).length).map (totalQ F))).d) w1 w2 w3 w4 w5) ?_ (exs_rt ?_)
  · rw [frz_nil, ex1_for, ez _ rfl rfl, bind_s]
    exact f2
  · have e := eq_ints (a := xs) (b := xs)
    rw [decide_eq_true rfl] at e
    generalize hxx : xs.map D.int = xx at *
    simp [E9, P, hxx, e]
end Law92

end

section
set_option Elab.async false
set_option linter.all false
set_option autoImplicit false
set_option maxRecDepth 100000
set_option maxHeartbeats 0
namespace Law92
open PySem PySem.Spec PyProof.Rows L2 Vp
theorem k2 : e2.id = 2 ∧ prog.entB PySem.Challenge.rw_fewestfigures_k92_whole_totals_kept_exac.prog e2 = true := ⟨rfl, by decide +kernel⟩
theorem k3 : e3.id = 3 ∧ prog.entB PySem.Challenge.rw_fewestfigures_k92_whole_totals_kept_exac.prog e3 = true := ⟨rfl, by decide +kernel⟩
theorem k5 : e5.id = 5 ∧ prog.entB PySem.Challenge.rw_fewestfigures_k92_whole_totals_kept_exac.prog e5 = true := ⟨rfl, by decide +kernel⟩
theorem k6 : e6.id = 6 ∧ prog.entB PySem.Challenge.rw_fewestfigures_k92_whole_totals_kept_exac.prog e6 = true := ⟨rfl, by decide +kernel⟩
theorem k7 : e7.id = 7 ∧ prog.entB PySem.Challenge.rw_fewestfigures_k92_whole_totals_kept_exac.prog e7 = true := ⟨rfl, by decide +kernel⟩
theorem k8 : e8.id = 8 ∧ prog.entB PySem.Challenge.rw_fewestfigures_k92_whole_totals_kept_exac.prog e8 = true := ⟨rfl, by decide +kernel⟩
theorem k9 : e9.id = 9 ∧ prog.entB PySem.Challenge.rw_fewestfigures_k92_whole_totals_kept_exac.prog e9 = true := ⟨rfl, by decide +kernel⟩
theorem k10 : e10.id = 10 ∧ prog.entB PySem.Challenge.rw_fewestfigures_k92_whole_totals_kept_exac.prog e10 = true := ⟨rfl, by decide +kernel⟩
theorem k11 : e11.id = 11 ∧ prog.entB PySem.Challenge.rw_fewestfigures_k92_whole_totals_kept_exac.prog e11 = true := ⟨rfl, by decide +kernel⟩
theorem k12 : e12.id = 12 ∧ prog.entB PySem.Challenge.rw_fewestfigures_k92_whole_totals_kept_exac.prog e12 = true := ⟨rfl, by decide +kernel⟩
theorem k13 : e13.id = 13 ∧ prog.entB PySem.Challenge.rw_fewestfigures_k92_whole_totals_kept_exac.prog e13 = true := ⟨rfl, by decide +kernel⟩
theorem k14 : e14.id = 14 ∧ prog.entB PySem.Challenge.rw_fewestfigures_k92_whole_totals_kept_exac.prog e14 = true := ⟨rfl, by decide +kernel⟩
theorem k15 : e15.id = 15 ∧ prog.entB PySem.Challenge.rw_fewestfigures_k92_whole_totals_kept_exac.prog e15 = true := ⟨rfl, by decide +kernel⟩
theorem k16 : e16.id = 16 ∧ prog.entB PySem.Challenge.rw_fewestfigures_k92_whole_totals_kept_exac.prog e16 = true := ⟨rfl, by decide +kernel⟩
theorem k17 : e17.id = 17 ∧ prog.entB PySem.Challenge.rw_fewestfigures_k92_whole_totals_kept_exac.prog e17 = true := ⟨rfl, by decide +kernel⟩
theorem k18 : e18.id = 18 ∧ prog.entB PySem.Challenge.rw_fewestfigures_k92_whole_totals_kept_exac.prog e18 = true := ⟨rfl, by decide +kernel⟩
theorem k19 : e19.id = 19 ∧ prog.entB PySem.Challenge.rw_fewestfigures_k92_whole_totals_kept_exac.prog e19 = true := ⟨rfl, by decide +kernel⟩
theorem k20 : e20.id = 20 ∧ prog.entB PySem.Challenge.rw_fewestfigures_k92_whole_totals_kept_exac.prog e20 = true := ⟨rfl, by decide +kernel⟩
theorem k21 : e21.id = 21 ∧ prog.entB PySem.Challenge.rw_fewestfigures_k92_whole_totals_kept_exac.prog e21 = true := ⟨rfl, by decide +kernel⟩
theorem k22 : e22.id = 22 ∧ prog.entB PySem.Challenge.rw_fewestfigures_k92_whole_totals_kept_exac.prog e22 = true := ⟨rfl, by decide +kernel⟩
theorem k38 : e38.id = 38 ∧ prog.entB PySem.Challenge.rw_fewestfigures_k92_whole_totals_kept_exac.prog e38 = true := ⟨rfl, by decide +kernel⟩
theorem k39 : e39.id = 39 ∧ prog.entB PySem.Challenge.rw_fewestfigures_k92_whole_totals_kept_exac.prog e39 = true := ⟨rfl, by decide +kernel⟩
theorem k40 : e40.id = 40 ∧ prog.entB PySem.Challenge.rw_fewestfigures_k92_whole_totals_kept_exac.prog e40 = true := ⟨rfl, by decide +kernel⟩
theorem k41 : e41.id = 41 ∧ prog.entB PySem.Challenge.rw_fewestfigures_k92_whole_totals_kept_exac.prog e41 = true := ⟨rfl, by decide +kernel⟩
theorem k42 : e42.id = 42 ∧ prog.entB PySem.Challenge.rw_fewestfigures_k92_whole_totals_kept_exac.prog e42 = true := ⟨rfl, by decide +kernel⟩
theorem k43 : e43.id = 43 ∧ prog.entB PySem.Challenge.rw_fewestfigures_k92_whole_totals_kept_exac.prog e43 = true := ⟨rfl, by decide +kernel⟩
theorem k44 : e44.id = 44 ∧ prog.entB PySem.Challenge.rw_fewestfigures_k92_whole_totals_kept_exac.prog e44 = true := ⟨rfl, by decide +kernel⟩
theorem k45 : e45.id = 45 ∧ prog.entB PySem.Challenge.rw_fewestfigures_k92_whole_totals_kept_exac.prog e45 = true := ⟨rfl, by decide +kernel⟩
theorem k23 : e23.id = 23 ∧ prog.entB PySem.Challenge.rw_fewestfigures_k92_whole_totals_kept_exac.prog e23 = true := ⟨rfl, by decide +kernel⟩
theorem k24 : e24.id = 24 ∧ prog.entB PySem.Challenge.rw_fewestfigures_k92_whole_totals_kept_exac.prog e24 = true := ⟨rfl, by decide +kernel⟩
theorem k25 : e25.id = 25 ∧ prog.entB PySem.Challenge.rw_fewestfigures_k92_whole_totals_kept_exac.prog e25 = true := ⟨rfl, by decide +kernel⟩
theorem k26 : e26.id = 26 ∧ prog.entB PySem.Challenge.rw_fewestfigures_k92_whole_totals_kept_exac.prog e26 = true := ⟨rfl, by decide +kernel⟩
theorem k29 : e29.id = 29 ∧ prog.entB PySem.Challenge.rw_fewestfigures_k92_whole_totals_kept_exac.prog e29 = true := ⟨rfl, by decide +kernel⟩
theorem k31 : e31.id = 31 ∧ prog.entB PySem.Challenge.rw_fewestfigures_k92_whole_totals_kept_exac.prog e31 = true := ⟨rfl, by decide +kernel⟩
theorem k33 : e33.id = 33 ∧ prog.entB PySem.Challenge.rw_fewestfigures_k92_whole_totals_kept_exac.prog e33 = true := ⟨rfl, by decide +kernel⟩
theorem k34 : e34.id = 34 ∧ prog.entB PySem.Challenge.rw_fewestfigures_k92_whole_totals_kept_exac.prog e34 = true := ⟨rfl, by decide +kernel⟩
theorem k37 : e37.id = 37 ∧ prog.entB PySem.Challenge.rw_fewestfigures_k92_whole_totals_kept_exac.prog e37 = true := ⟨rfl, by decide +kernel⟩
theorem k59 : e59.id = 59 ∧ prog.entB PySem.Challenge.rw_fewestfigures_k92_whole_totals_kept_exac.prog e59 = true := ⟨rfl, by decide +kernel⟩
theorem k60 : e60.id = 60 ∧ prog.entB PySem.Challenge.rw_fewestfigures_k92_whole_totals_kept_exac.prog e60 = true := ⟨rfl, by decide +kernel⟩
theorem k61 : e61.id = 61 ∧ prog.entB PySem.Challenge.rw_fewestfigures_k92_whole_totals_kept_exac.prog e61 = true := ⟨rfl, by decide +kernel⟩
theorem k62 : e62.id = 62 ∧ prog.entB PySem.Challenge.rw_fewestfigures_k92_whole_totals_kept_exac.prog e62 = true := ⟨rfl, by decide +kernel⟩
theorem k51 : e51.id = 51 ∧ prog.entB PySem.Challenge.rw_fewestfigures_k92_whole_totals_kept_exac.prog e51 = true := ⟨rfl, by decide +kernel⟩
theorem k110 : e110.id = 110 ∧ prog.entB PySem.Challenge.rw_fewestfigures_k92_whole_totals_kept_exac.prog e110 = true := ⟨rfl, by decide +kernel⟩
theorem k111 : e111.id = 111 ∧ prog.entB PySem.Challenge.rw_fewestfigures_k92_whole_totals_kept_exac.prog e111 = true := ⟨rfl, by decide +kernel⟩
theorem k112 : e112.id = 112 ∧ prog.entB PySem.Challenge.rw_fewestfigures_k92_whole_totals_kept_exac.prog e112 = true := ⟨rfl, by decide +kernel⟩
theorem k114 : e114.id = 114 ∧ prog.entB PySem.Challenge.rw_fewestfigures_k92_whole_totals_kept_exac.prog e114 = true := ⟨rfl, by decide +kernel⟩
theorem k115 : e115.id = 115 ∧ prog.entB PySem.Challenge.rw_fewestfigures_k92_whole_totals_kept_exac.prog e115 = true := ⟨rfl, by decide +kernel⟩
theorem k116 : e116.id = 116 ∧ prog.entB PySem.Challenge.rw_fewestfigures_k92_whole_totals_kept_exac.prog e116 = true := ⟨rfl, by decide +kernel⟩
theorem k118 : e118.id = 118 ∧ prog.entB PySem.Challenge.rw_fewestfigures_k92_whole_totals_kept_exac.prog e118 = true := ⟨rfl, by decide +kernel⟩
theorem k119 : e119.id = 119 ∧ prog.entB PySem.Challenge.rw_fewestfigures_k92_whole_totals_kept_exac.prog e119 = true := ⟨rfl, by decide +kernel⟩
theorem k120 : e120.id = 120 ∧ prog.entB PySem.Challenge.rw_fewestfigures_k92_whole_totals_kept_exac.prog e120 = true := ⟨rfl, by decide +kernel⟩
theorem k121 : e121.id = 121 ∧ prog.entB PySem.Challenge.rw_fewestfigures_k92_whole_totals_kept_exac.prog e121 = true := ⟨rfl, by decide +kernel⟩
theorem k122 : e122.id = 122 ∧ prog.entB PySem.Challenge.rw_fewestfigures_k92_whole_totals_kept_exac.prog e122 = true := ⟨rfl, by decide +kernel⟩
theorem k123 : e123.id = 123 ∧ prog.entB PySem.Challenge.rw_fewestfigures_k92_whole_totals_kept_exac.prog e123 = true := ⟨rfl, by decide +kernel⟩
theorem k124 : e124.id = 124 ∧ prog.entB PySem.Challenge.rw_fewestfigures_k92_whole_totals_kept_exac.prog e124 = true := ⟨rfl, by decide +kernel⟩
theorem k125 : e125.id = 125 ∧ prog.entB PySem.Challenge.rw_fewestfigures_k92_whole_totals_kept_exac.prog e125 = true := ⟨rfl, by decide +kernel⟩
theorem k83 : e83.id = 83 ∧ prog.entB PySem.Challenge.rw_fewestfigures_k92_whole_totals_kept_exac.prog e83 = true := ⟨rfl, by decide +kernel⟩
theorem k84 : e84.id = 84 ∧ prog.entB PySem.Challenge.rw_fewestfigures_k92_whole_totals_kept_exac.prog e84 = true := ⟨rfl, by decide +kernel⟩
theorem k126 : e126.id = 126 ∧ prog.entB PySem.Challenge.rw_fewestfigures_k92_whole_totals_kept_exac.prog e126 = true := ⟨rfl, by decide +kernel⟩
theorem k127 : e127.id = 127 ∧ prog.entB PySem.Challenge.rw_fewestfigures_k92_whole_totals_kept_exac.prog e127 = true := ⟨rfl, by decide +kernel⟩
theorem k128 : e128.id = 128 ∧ prog.entB PySem.Challenge.rw_fewestfigures_k92_whole_totals_kept_exac.prog e128 = true := ⟨rfl, by decide +kernel⟩
theorem k129 : e129.id = 129 ∧ prog.entB PySem.Challenge.rw_fewestfigures_k92_whole_totals_kept_exac.prog e129 = true := ⟨rfl, by decide +kernel⟩
theorem k130 : e130.id = 130 ∧ prog.entB PySem.Challenge.rw_fewestfigures_k92_whole_totals_kept_exac.prog e130 = true := ⟨rfl, by decide +kernel⟩
theorem k131 : e131.id = 131 ∧ prog.entB PySem.Challenge.rw_fewestfigures_k92_whole_totals_kept_exac.prog e131 = true := ⟨rfl, by decide +kernel⟩
theorem k132 : e132.id = 132 ∧ prog.entB PySem.Challenge.rw_fewestfigures_k92_whole_totals_kept_exac.prog e132 = true := ⟨rfl, by decide +kernel⟩
theorem k133 : e133.id = 133 ∧ prog.entB PySem.Challenge.rw_fewestfigures_k92_whole_totals_kept_exac.prog e133 = true := ⟨rfl, by decide +kernel⟩
theorem k134 : e134.id = 134 ∧ prog.entB PySem.Challenge.rw_fewestfigures_k92_whole_totals_kept_exac.prog e134 = true := ⟨rfl, by decide +kernel⟩
theorem k135 : e135.id = 135 ∧ prog.entB PySem.Challenge.rw_fewestfigures_k92_whole_totals_kept_exac.prog e135 = true := ⟨rfl, by decide +kernel⟩
theorem k136 : e136.id = 136 ∧ prog.entB PySem.Challenge.rw_fewestfigures_k92_whole_totals_kept_exac.prog e136 = true := ⟨rfl, by decide +kernel⟩
theorem k137 : e137.id = 137 ∧ prog.entB PySem.Challenge.rw_fewestfigures_k92_whole_totals_kept_exac.prog e137 = true := ⟨rfl, by decide +kernel⟩
theorem k138 : e138.id = 138 ∧ prog.entB PySem.Challenge.rw_fewestfigures_k92_whole_totals_kept_exac.prog e138 = true := ⟨rfl, by decide +kernel⟩
theorem k139 : e139.id = 139 ∧ prog.entB PySem.Challenge.rw_fewestfigures_k92_whole_totals_kept_exac.prog e139 = true := ⟨rfl, by decide +kernel⟩
theorem k85 : e85.id = 85 ∧ prog.entB PySem.Challenge.rw_fewestfigures_k92_whole_totals_kept_exac.prog e85 = true := ⟨rfl, by decide +kernel⟩
theorem k140 : e140.id = 140 ∧ prog.entB PySem.Challenge.rw_fewestfigures_k92_whole_totals_kept_exac.prog e140 = true := ⟨rfl, by decide +kernel⟩
theorem k141 : e141.id = 141 ∧ prog.entB PySem.Challenge.rw_fewestfigures_k92_whole_totals_kept_exac.prog e141 = true := ⟨rfl, by decide +kernel⟩
theorem k142 : e142.id = 142 ∧ prog.entB PySem.Challenge.rw_fewestfigures_k92_whole_totals_kept_exac.prog e142 = true := ⟨rfl, by decide +kernel⟩
theorem k143 : e143.id = 143 ∧ prog.entB PySem.Challenge.rw_fewestfigures_k92_whole_totals_kept_exac.prog e143 = true := ⟨rfl, by decide +kernel⟩
theorem k144 : e144.id = 144 ∧ prog.entB PySem.Challenge.rw_fewestfigures_k92_whole_totals_kept_exac.prog e144 = true := ⟨rfl, by decide +kernel⟩
theorem k145 : e145.id = 145 ∧ prog.entB PySem.Challenge.rw_fewestfigures_k92_whole_totals_kept_exac.prog e145 = true := ⟨rfl, by decide +kernel⟩
theorem k146 : e146.id = 146 ∧ prog.entB PySem.Challenge.rw_fewestfigures_k92_whole_totals_kept_exac.prog e146 = true := ⟨rfl, by decide +kernel⟩
theorem k147 : e147.id = 147 ∧ prog.entB PySem.Challenge.rw_fewestfigures_k92_whole_totals_kept_exac.prog e147 = true := ⟨rfl, by decide +kernel⟩
theorem k148 : e148.id = 148 ∧ prog.entB PySem.Challenge.rw_fewestfigures_k92_whole_totals_kept_exac.prog e148 = true := ⟨rfl, by decide +kernel⟩
theorem k149 : e149.id = 149 ∧ prog.entB PySem.Challenge.rw_fewestfigures_k92_whole_totals_kept_exac.prog e149 = true := ⟨rfl, by decide +kernel⟩
theorem k150 : e150.id = 150 ∧ prog.entB PySem.Challenge.rw_fewestfigures_k92_whole_totals_kept_exac.prog e150 = true := ⟨rfl, by decide +kernel⟩
theorem k151 : e151.id = 151 ∧ prog.entB PySem.Challenge.rw_fewestfigures_k92_whole_totals_kept_exac.prog e151 = true := ⟨rfl, by decide +kernel⟩
theorem k152 : e152.id = 152 ∧ prog.entB PySem.Challenge.rw_fewestfigures_k92_whole_totals_kept_exac.prog e152 = true := ⟨rfl, by decide +kernel⟩
theorem k153 : e153.id = 153 ∧ prog.entB PySem.Challenge.rw_fewestfigures_k92_whole_totals_kept_exac.prog e153 = true := ⟨rfl, by decide +kernel⟩
theorem k154 : e154.id = 154 ∧ prog.entB PySem.Challenge.rw_fewestfigures_k92_whole_totals_kept_exac.prog e154 = true := ⟨rfl, by decide +kernel⟩
theorem k155 : e155.id = 155 ∧ prog.entB PySem.Challenge.rw_fewestfigures_k92_whole_totals_kept_exac.prog e155 = true := ⟨rfl, by decide +kernel⟩
theorem k156 : e156.id = 156 ∧ prog.entB PySem.Challenge.rw_fewestfigures_k92_whole_totals_kept_exac.prog e156 = true := ⟨rfl, by decide +kernel⟩
theorem checks : ∀ e ∈ prog.ents, prog.entB PySem.Challenge.rw_fewestfigures_k92_whole_totals_kept_exac.prog e = true := by
  intro e he
  simp only [prog, List.mem_cons, List.not_mem_nil, or_false] at he
  rcases he with rfl | rfl | rfl | rfl | rfl | rfl | rfl | rfl | rfl | rfl | rfl | rfl | rfl | rfl | rfl | rfl | rfl | rfl | rfl | rfl | rfl | rfl | rfl | rfl | rfl | rfl | rfl | rfl | rfl | rfl | rfl | rfl | rfl | rfl | rfl | rfl | rfl | rfl | rfl | rfl | rfl | rfl | rfl | rfl | rfl | rfl | rfl | rfl | rfl | rfl | rfl | rfl | rfl | rfl | rfl | rfl | rfl | rfl | rfl | rfl | rfl | rfl | rfl | rfl | rfl | rfl | rfl | rfl | rfl | rfl | rfl | rfl | rfl | rfl | rfl | rfl | rfl | rfl | rfl | rfl | rfl | rfl | rfl | rfl | rfl | rfl | rfl | rfl | rfl | rfl
  · exact k2.2
  · exact k3.2
  · exact k5.2
  · exact k6.2
  · exact k7.2
  · exact k8.2
  · exact k9.2
  · exact k10.2
  · exact k11.2
  · exact k12.2
  · exact k13.2
  · exact k14.2
  · exact k15.2
  · exact k16.2
  · exact k17.2
  · exact k18.2
  · exact k19.2
  · exact k20.2
  · exact k21.2
  · exact k22.2
  · exact k38.2
  · exact k39.2
  · exact k40.2
  · exact k41.2
  · exact k42.2
  · exact k43.2
  · exact k44.2
  · exact k45.2
  · exact k23.2
  · exact k24.2
  · exact k25.2
  · exact k26.2
  · exact k29.2
  · exact k31.2
  · exact k33.2
  · exact k34.2
  · exact k37.2
  · exact k59.2
  · exact k60.2
  · exact k61.2
  · exact k62.2
  · exact k51.2
  · exact k110.2
  · exact k111.2
  · exact k112.2
  · exact k114.2
  · exact k115.2
  · exact k116.2
  · exact k118.2
  · exact k119.2
  · exact k120.2
  · exact k121.2
  · exact k122.2
  · exact k123.2
  · exact k124.2
  · exact k125.2
  · exact k83.2
  · exact k84.2
  · exact k126.2
  · exact k127.2
  · exact k128.2
  · exact k129.2
  · exact k130.2
  · exact k131.2
  · exact k132.2
  · exact k133.2
  · exact k134.2
  · exact k135.2
  · exact k136.2
  · exact k137.2
  · exact k138.2
  · exact k139.2
  · exact k85.2
  · exact k140.2
  · exact k141.2
  · exact k142.2
  · exact k143.2
  · exact k144.2
  · exact k145.2
  · exact k146.2
  · exact k147.2
  · exact k148.2
  · exact k149.2
  · exact k150.2
  · exact k151.2
  · exact k152.2
  · exact k153.2
  · exact k154.2
  · exact k155.2
  · exact k156.2
abbrev R : PySem.W.OpenRow := PySem.W.OpenLaw.row PySem.Challenge.rw_fewestfigures_k92_whole_totals_kept_exac
abbrev hk : PySem.W.Hook := hookP 4 prog PySem.Challenge.rw_fewestfigures_k92_whole_totals_kept_exac.prog
abbrev ob (s : PySem.W.SharedT) : ObsT := obT 4 prog PySem.Challenge.rw_fewestfigures_k92_whole_totals_kept_exac.prog s
abbrev loo : List PySem.Str := ((["DECIMAL", "EMPTY", "InvalidText", "LEAST_PLAIN", "MARK", "MOST_PLAIN", "MOST_POWER_DIGITS", "NONE", "RefusedText", "SIGNS", "TextError", "WORDS", "_law_base", "_law_behind", "_law_bias", "_law_cell", "_law_common", "_law_digits", "_law_expanded", "_law_form"] : List PySem.Str) ++ (["_law_frac", "_law_half", "_law_kind", "_law_layout", "_law_less", "_law_list_total", "_law_minus", "_law_numbers", "_law_over", "_law_parts", "_law_power", "_law_round", "_law_rounded", "_law_same", "_law_size", "_law_some_patterns", "_law_special", "_law_stripped", "_law_text_of_total", "_law_times"] : List PySem.Str) ++ (["_law_together", "_law_top", "_law_total_of", "_law_unit", "_law_value", "above", "added", "are_digits", "below", "bias_of", "check_digits", "digits_of", "empty_total", "endless", "endless_total", "exact_text", "exponent_of", "floor_of", "fraction", "greatest"] : List PySem.Str) ++ (["is_less", "kind_of", "kind_of_total", "layout", "list_total", "lowest_power", "minus", "nearer", "no_number", "number_in", "over", "own_sign", "parts_of", "pattern_of", "power", "power_in", "raised", "read_text", "read_word", "rounded"] : List PySem.Str) ++ (["rounded_size", "rounded_total", "scale_of", "sign_and_size", "size_of", "split_text", "spread", "stand_in", "steps_in", "stripped", "taken_off", "takes_low", "times", "together", "told_size", "top_exponent", "top_size", "total_of", "unit_of", "whole"] : List PySem.Str) ++ (["without_sign"] : List PySem.Str))
theorem runF (w : World) : HandSHeadRun.RunEqI R (PySem.W.view R.prog [0, 113]) hk ob 8000 loo (w.withFollow "special-get-raises" false) := by
  unfold HandSHeadRun.RunEqI
  kernel_rfl
theorem runT (w : World) : HandSHeadRun.RunEqI R (PySem.W.view R.prog [0, 113]) hk ob 8000 loo (w.withFollow "special-get-raises" true) := by
  unfold HandSHeadRun.RunEqI
  kernel_rfl
theorem run (w : World) : HandSHeadRun.RunEqI R (PySem.W.view R.prog [0, 113]) hk ob 8000 loo w :=
  PySem.W.byRow2 "special-get-raises" (P := fun w => HandSHeadRun.RunEqI R (PySem.W.view R.prog [0, 113]) hk ob 8000 loo w) runF runT w
end Law92
open PySem PySem.W PySem.Calls PyProof.Rows
theorem PySem.Challenge.cw_fewestfigures_k92_whole_totals_kept_exac_holds : PySem.Challenge.rw_fewestfigures_k92_whole_totals_kept_exac.Holds := by
  w_on; o_law
  refine HandSHeadRun.head_imp (r := OpenLaw.row PySem.Challenge.rw_fewestfigures_k92_whole_totals_kept_exac) (q := view (OpenLaw.row PySem.Challenge.rw_fewestfigures_k92_whole_totals_kept_exac).prog [0, 113]) (H := Law92.hk) (ob := Law92.ob) (M := 8000) (loose := ((["DECIMAL", "EMPTY", "InvalidText", "LEAST_PLAIN", "MARK", "MOST_PLAIN", "MOST_POWER_DIGITS", "NONE", "RefusedText", "SIGNS", "TextError", "WORDS", "_law_base", "_law_behind", "_law_bias", "_law_cell", "_law_common", "_law_digits", "_law_expanded", "_law_form"] : List PySem.Str) ++ (["_law_frac", "_law_half", "_law_kind", "_law_layout", "_law_less", "_law_list_total", "_law_minus", "_law_numbers", "_law_over", "_law_parts", "_law_power", "_law_round", "_law_rounded", "_law_same", "_law_size", "_law_some_patterns", "_law_special", "_law_stripped", "_law_text_of_total", "_law_times"] : List PySem.Str) ++ (["_law_together", "_law_top", "_law_total_of", "_law_unit", "_law_value", "above", "added", "are_digits", "below", "bias_of", "check_digits", "digits_of", "empty_total", "endless", "endless_total", "exact_text", "exponent_of", "floor_of", "fraction", "greatest"] : List PySem.Str) ++ (["is_less", "kind_of", "kind_of_total", "layout", "list_total", "lowest_power", "minus", "nearer", "no_number", "number_in", "over", "own_sign", "parts_of", "pattern_of", "power", "power_in", "raised", "read_text", "read_word", "rounded"] : List PySem.Str) ++ (["rounded_size", "rounded_total", "scale_of", "sign_and_size", "size_of", "split_text", "spread", "stand_in", "steps_in", "stripped", "taken_off", "takes_low", "times", "together", "told_size", "top_exponent", "top_size", "total_of", "unit_of", "whole"] : List PySem.Str) ++ (["without_sign"] : List PySem.Str))) (d := HandSHeadRun.topDef (OpenLaw.row PySem.Challenge.rw_fewestfigures_k92_whole_totals_kept_exac).prog 113) (kwd := []) (Vp.obT_eq _ _ _)
    Law92.run (by kernel_rfl) (by kernel_rfl) (by kernel_rfl) (by rfl) (by first | assumption | decide +kernel) (by decide +kernel) ⟨rfl, rfl, rfl, rfl, rfl, by decide +kernel⟩ ?hw ?hc
  case hw => w_witness2
  case hc =>
    exact Vp.walkP (l := PySem.Challenge.rw_fewestfigures_k92_whole_totals_kept_exac) (k := 30) Law92.prog Law92.e156 rfl (by kernel_rfl) ⟨rfl, by decide, by decide⟩ Law92.checks (by simp [Law92.prog]) rfl (by kernel_rfl) (by kernel_rfl) Law92.law_true

end
